/- Contracts and lemmas for the claim (part 15); no condition of its own. -/
import Derived.Test.YtjkmpaggfbghiaaGreatDoorYQC400
import Derived.Test.YtjkmpaggfbghiaaGreatDoorYQC414
import Derived.Test.YtjkmpaggfbghiaaGreatDoorCards
import Derived.Test.YtjkmpaggfbghiaaGreatDoorTie
import Derived.ProofKit
import Derived.OpenShut
import Derived.Lay
import Derived.LaidMore
import Derived.LaidHandle
import Derived.Carry
import Derived.MakeChecks
import Derived.Deep.DeepHandedRow
import Derived.ChangeMaps5
import Derived.ChangeSlices
import Derived.Test.YtjkmpaggfbghiaaGreatDoorYQC406
set_option linter.all false
set_option linter.unusedVariables false
set_option linter.unusedSimpArgs false
set_option linter.unnecessarySimpa false
set_option linter.all false
namespace Go.Proofs.YtjkmpaggfbghiaaGreatDoor
open Go Go.X Go.ChangeShapes Go.WideShapes Go.RowKit
set_option maxRecDepth 1000000
set_option maxHeartbeats 0
section
variable {H : Type} {enc : TypeId × Value → H} {P : Program}
theorem post_of_below {f : Func} {s : ChangeSpec} {apart fresh handsOn again : Bool} {W W' : World} {args : Array Value} {v : Value} {ds gs : List (DataW H)} {before pa pv : List MemPlace}
    (hW : DataW.Whole enc P f.params.toList s.vars apart W args.toList ds gs before)
    (hres : ∀ (b : Nat) (sp : Nat → Bool) (hd : Bool), DataW.TrodAll enc P W' b sp hd f.resultTypes.toList (v.resultList f.resultTypes.size) (s.fn H (ds ++ gs)).results [])
    (hargs : ∀ sp : Nat → Bool, (∀ p ∈ before, sp p.block = true) → DataW.TrodAll enc P W' 0 sp true f.params.toList args.toList (s.fn H (ds ++ gs)).args pa)
    (hvars : ∀ sp : Nat → Bool, (∀ p ∈ before, sp p.block = true) → DataW.TrodVars enc P W' sp s.vars (s.fn H (ds ++ gs)).vars pv)
    (hps : before = pa ++ pv) (hb : Below W.heap.size W W')
    (hok : ∀ (j : Nat) (t : TypeId) (r : Value), f.resultTypes[j]? = some t → (v.resultList f.resultTypes.size)[j]? = some r → Value.okWide P W' .any 0 t r) :
    s.post enc P f apart fresh handsOn again W args v W' := by
  have hlt : ∀ p ∈ before, p.block < W.heap.size := fun p hp => hW.lt p hp
  have hold : ∀ p ∈ before, (fun b => decide (b < W.heap.size)) p.block = true := fun p hp => by simpa using hlt p hp
  refine ⟨ds, gs, before, [], pa, pv, hW, hres _ _ _, hargs _ hold, hvars _ hold, World.keptBut_mono (fun p hp => ⟨hp, ?_⟩) (hb.frame (· ∈ before)), fun _ => ?_⟩
  · rw [hps, List.mem_append] at hp
    exact Or.inr hp
  · obtain ⟨_, _, _, _, _, hz, hn⟩ := hW
    refine ⟨hok, _, _, ([] ++ pa) ++ pv, ⟨[] ++ pa, pv, trodAll_append (hargs _ (fun _ _ => rfl)) (hres _ _ _), hvars _ (fun _ _ => rfl), rfl, ?_, ?_⟩, ?_⟩
    · intro b off hp
      have hin : MemPlace.cell b off ∈ before := by rw [hps]; simpa using hp
      rw [hb.frozen (hlt _ hin)]
      exact hz b off hin
    · intro ha
      have := hn ha
      rw [hps] at this
      simpa using this
    · intro p hp _
      rw [hps]
      simpa using hp
end
theorem and_t {a b : Bool} (h : a = true) (h' : b = true) : (a && b) = true := by rw [h, h']; rfl
theorem own : ownKnob Tryz.prog.godebug = none := by kernel_rfl
theorem laidOut : laidOutB Tryz.prog = true := by kernel_rfl
section
variable {H : Type} {enc : TypeId × Value → H} {P : Program} {W W' : World} {sp : Nat → Bool}
theorem trodAll_below (hl : laidOutB P = true) (hb : Below W.heap.size W W') : ∀ {ts : List TypeId} {vs : List Value} {ds : List (DataW H)} {ps : List MemPlace}, (ts.all fun t => P.readableRec t && decide (t < P.types.size)) = true →
    DataW.TrodAll enc P W 0 (fun _ => true) true ts vs ds ps → (∀ x ∈ ps, x.block < W.heap.size) → (∀ x ∈ ps, sp x.block = true) → DataW.TrodAll enc P W' 0 sp true ts vs ds ps := by
  intro ts
  induction ts with
  | nil =>
    intro vs ds ps _ h _ _
    obtain ⟨rfl, rfl, rfl⟩ := trodAll_nil h
    rfl
  | cons t ts ih =>
    intro vs ds ps hr h hlt hsp
    obtain ⟨v, vs', d, ds', p, q, rfl, rfl, rfl, h1, h2⟩ := trodAll_cons h
    rw [List.all_cons, Bool.and_eq_true, Bool.and_eq_true] at hr
    exact trodAll_cons_mk (WideElems.Trod_stays hl hr.1.1 (of_decide_eq_true hr.1.2) h1 (fun x hx => hb.same (hlt x (List.mem_append_left _ hx))) (fun x hx => hsp x (List.mem_append_left _ hx)))
      (ih hr.2 h2 (fun x hx => hlt x (List.mem_append_right _ hx)) (fun x hx => hsp x (List.mem_append_right _ hx)))
/-- A LAW's END: it answered true, and nothing that stood ahead of it has turned. -/
theorem law_post {f : Func} {s : ChangeSpec} {t4 : TypeId} {args : Array Value} {ds gs : List (DataW H)} {before : List MemPlace} (hl : laidOutB P = true) (h4 : P.underlying t4 = some .bool)
    (hr : (f.params.toList.all fun t => P.readableRec t && decide (t < P.types.size)) = true) (hres : f.resultTypes = #[t4]) (hv : s.vars = [])
    (hW : DataW.Whole enc P f.params.toList s.vars false W args.toList ds gs before) (hfn : s.fn H (ds ++ gs) = { results := [.lit (.bool true)], args := ds }) (hb : Below W.heap.size W W') :
    s.post enc P f false true false false W args (.bool true) W' := by
  have hlt : ∀ p ∈ before, p.block < W.heap.size := fun p hp => hW.lt p hp
  have hW2 := hW
  obtain ⟨p, q, hA, hV, hbef, _⟩ := hW2
  rw [hv] at hV
  obtain ⟨_, rfl⟩ := trodVars_none hV
  have hfa : (s.fn H (ds ++ gs)).args = ds := by rw [hfn]
  have hfr : (s.fn H (ds ++ gs)).results = [.lit (.bool true)] := by rw [hfn]
  have hfv : (s.fn H (ds ++ gs)).vars = [] := by rw [hfn]
  refine post_of_below (pa := p) (pv := []) hW (fun b sp hd => ?_) (fun sp hsp => ?_) (fun sp _ => ?_) hbef hb (ok_one hres rfl (okWide_bool_mk h4 _))
  · rw [hfr, hres]; exact trodAll_mk1 (shut_bool h4 _)
  · rw [hfa]
    exact trodAll_below hl hb hr hA (fun x hx => hlt x (by rw [hbef]; exact List.mem_append_left _ hx)) (fun x hx => hsp x (by rw [hbef]; exact List.mem_append_left _ hx))
  · rw [hfv, hv]; rfl
end
theorem laidMetH.plain {P : Program} {l : List (String × DataW Unit)} {w : World} (h : laidMetH P l w) : laidMet P (l.filter fun x => x.2.handleName?.isNone) w := by
  unfold laidMetH at h
  generalize hfl : (l.filter fun x => x.2.handleName?.isSome) = fl at h
  cases fl with
  | nil =>
    have e : (l.filter fun x => x.2.handleName?.isNone) = l := by
      rw [List.filter_eq_self]
      intro x hx
      have := (List.filter_eq_nil_iff.1 hfl) x hx
      cases hn : x.2.handleName? with
      | none => rfl
      | some s => rw [hn] at this; exact absurd rfl this
    rw [e]
    exact h
  | cons q qs => exact h.1
theorem KObj.of_laid {l : List (String × DataW Unit)} {W : World} (h : laidMetH Tryz.prog l W) (hm1 : ("skald/saga.phases", Rows.laid_skald_saga_phases) ∈ l) (hm2 : ("skald/saga.follow", Rows.laid_skald_saga_follow) ∈ l) :
    ∃ o0 o1, KObj o0 o1 ∧ W.heap[0]? = some o0 ∧ W.heap[1]? = some o1 := by
  obtain ⟨t1, h1⟩ := laid_ints (laidMetH.plain h) (n := "skald/saga.phases") (k := .i64) (zs := [0, 1, 3, 2]) (List.mem_filter.2 ⟨hm1, by kernel_rfl⟩) (g := 0) (by kernel_rfl) (t := 135) (e := 3) (by kernel_rfl) Tryz.underlying135 Tryz.underlying3 (by kernel_rfl) (by kernel_rfl) (by decide)
  obtain ⟨t0, f0, h0⟩ := laid_fns h (n := "skald/saga.follow") (ds := [.nil, .iface "func" (.lit (.string [40, 115, 107, 97, 108, 100, 47, 115, 97, 103, 97, 46, 83, 97, 103, 97, 41, 46, 102, 111, 114, 119, 97, 114, 100])), .iface "func" (.lit (.string [40, 115, 107, 97, 108, 100, 47, 115, 97, 103, 97, 46, 83, 97, 103, 97, 41, 46, 102, 114, 101, 101])), .iface "func" (.lit (.string [40, 115, 107, 97, 108, 100, 47, 115, 97, 103, 97, 46, 83, 97, 103, 97, 41, 46, 117, 110, 100, 111]))]) hm2 (g := 1) (by kernel_rfl) (t := 282) (e := 281) (by kernel_rfl) Tryz.underlying282 Tryz.underlying281 (by kernel_rfl) (by kernel_rfl)
    (.z (.f "(skald/saga.Saga).forward" (by kernel_rfl) (by kernel_rfl) (.f "(skald/saga.Saga).free" (by kernel_rfl) (by kernel_rfl) (.f "(skald/saga.Saga).undo" (by kernel_rfl) (by kernel_rfl) .nil))))
  exact ⟨_, _, ⟨⟨t1, (0, 0), rfl⟩, ⟨t0, f0, rfl⟩⟩, h1, h0⟩
/-- a law's walk, as a call that changes nothing that was there -/
theorem pu_of_gl {P : Program} {f : FuncId} {args : Array Value} {w : World} {o0 o1 : Obj} (h0 : w.heap[0]? = some o0) (h1 : w.heap[1]? = some o1)
    (h : FrZ P f args w (AssL [.ext 9 (GlX o0 o1)]) (fun _ : Unit => .bool true) (fun _ => AssL [.ext 9 (GlA o0 o1)])) : Pu P f args w (.bool true) := by
  have l0 : 0 < w.heap.size := (Array.getElem?_eq_some_iff.1 h0).1
  have l1 : 1 < w.heap.size := (Array.getElem?_eq_some_iff.1 h1).1
  refine (h (fun k => (k = 0 ∨ k = 1) ∨ False) (.cons (x := .ext 9 (GlX o0 o1)) (S := fun k => k = 0 ∨ k = 1) ⟨fun _ hk => hk, ⟨.inl rfl, .inr rfl⟩, h0, h1⟩ (by rintro k (rfl | rfl) <;> assumption) .nil (fun _ _ hk => hk)) (by
    rintro k ((rfl | rfl) | hk)
    · exact l0
    · exact l1
    · exact hk.elim)).mono ?_
  rintro e w' ⟨_, rfl, he, S', hA, _⟩
  have hA : Holds w' [.ext 9 (GlA o0 o1)] S' := hA
  cases hA with
  | @cons _ _ S1 T1 hx hb hH hd =>
    obtain ⟨_, g0, g1⟩ := hx
    refine ⟨rfl, he.os, he.tape, he.output, he.size, fun k hk => ?_⟩
    by_cases e0 : k = 0
    · subst e0; rw [g0, h0]
    · by_cases e1 : k = 1
      · subst e1; rw [g1, h1]
      · exact he.old k hk (fun e => e.elim (fun e => e.elim e0 e1) id)
theorem wf_u16 {n : Int} (h : (Lit.int .u16 n).wf = true) : 0 ≤ n ∧ n ≤ 65535 := by
  simp [Lit.wf, IntKind.min, IntKind.max, IntKind.signed, IntKind.bits] at h; omega
theorem wf_u8 {n : Int} (h : (Lit.int .u8 n).wf = true) : 0 ≤ n ∧ n ≤ 255 := by
  simp [Lit.wf, IntKind.min, IntKind.max, IntKind.signed, IntKind.bits] at h; omega
section
variable {H : Type} {enc : TypeId × Value → H} {w : World} {base : Nat} {sp : Nat → Bool} {held : Bool}
theorem move_cells {fuel : Nat} {cs : List Value} {x : DataW H × List MemPlace} (h : DataW.trod enc Tryz.prog w base sp held fuel 46 cs = some x) : ∃ a b : Nat, cs = [.int .u8 (a : Nat), .int .u16 (b : Nat)] ∧ a ≤ 255 ∧ b ≤ 65535 := by
  obtain ⟨xs, n, _, _, hl, hxl, hall⟩ := DataW.trod_struct Tryz.underlying46 h
  have hC : Tryz.prog.cellsOf 46 = 2 := by kernel_rfl
  have hC5 : Tryz.prog.cellsOf 5 = 1 := by kernel_rfl
  have hC44 : Tryz.prog.cellsOf 44 = 1 := by kernel_rfl
  rw [hC] at hl
  match cs, hl with
  | [c0, c1], _ =>
  match xs, hxl with
  | [y0, y1], _ =>
  have q0 := hall 0 _ rfl
  have e0 : DataW.trod enc Tryz.prog w base sp held n 5 (([c0, c1].drop 0).take (Tryz.prog.cellsOf 5)) = some y0 := q0
  rw [hC5] at e0
  have q1 := hall 1 _ rfl
  have e1 : DataW.trod enc Tryz.prog w base sp held n 44 (([c0, c1].drop 1).take (Tryz.prog.cellsOf 44)) = some y1 := q1
  rw [hC44] at e1
  obtain ⟨z0, f0, _, g0⟩ := DataW.trod_int Tryz.underlying5 e0
  obtain ⟨z1, f1, _, g1⟩ := DataW.trod_int Tryz.underlying44 e1
  simp only [List.drop_zero, List.take_succ_cons, List.take_zero, List.drop_succ_cons, List.cons.injEq, and_true] at f0 f1
  have b0 := wf_u8 g0
  have b1 := wf_u16 g1
  refine ⟨z0.toNat, z1.toNat, ?_, by omega, by omega⟩
  rw [f0, f1, Int.toNat_of_nonneg b0.1, Int.toNat_of_nonneg b1.1]
end
theorem maxLen_le {n : Nat} (h : n ≤ maxLen) : n ≤ 9223372036854775807 := h
/-- a caller's list of moves, as it is read -/
theorem moves_arg {H : Type} {enc : TypeId × Value → H} {W : World} {v : Value} {d : DataW H} {ps : List MemPlace} {base : Nat} (hval : Value.okWide Tryz.prog W .any base 22 v) (h : DataW.Trod enc Tryz.prog W 0 (fun _ => true) true 22 v d ps) :
    ∃ (a : Option Addr) (l : List (Nat × Nat)) (cap : Nat), v = .slice a l.length cap ∧ RdB W a (lmC l) ∧ l.length ≤ cap ∧ l.length ≤ 9223372036854775807 ∧ ∀ m ∈ l, m.1 ≤ 255 ∧ m.2 ≤ 65535 := by
  obtain ⟨a, len, cap, rfl⟩ := okWide_slice Tryz.underlying22 hval
  obtain ⟨fuel, hf⟩ := h
  rcases DataW.trod_slice Tryz.underlying22 hf with ⟨h1, _⟩ | ⟨a', len', cap', elems, rest, n, _, h1, _, _, hl, hm, hlen, hel, _, _⟩
  · simp [Value.cells] at h1
    obtain ⟨rfl, rfl, rfl⟩ := h1
    exact ⟨none, [], 0, rfl, fun i v hi => by simp at hi, Nat.le_refl _, Nat.zero_le _, fun m hm => by cases hm⟩
  · simp [Value.cells] at h1
    obtain ⟨rfl, rfl, rfl⟩ := h1
    have hC : Tryz.prog.cellsOf 46 = 2 := by kernel_rfl
    rw [hC] at hel
    have each : ∀ i, i < len → ∃ m : Nat × Nat, (W.cell? (a'.add (i * 2)) = some (.int .u8 (m.1 : Nat)) ∧ W.cell? ((a'.add (i * 2)).add 1) = some (.int .u16 (m.2 : Nat))) ∧ m.1 ≤ 255 ∧ m.2 ≤ 65535 := by
      intro i hi
      have h2 := hel i hi
      rw [List.getElem?_eq_getElem (by omega), Option.bind_eq_some_iff] at h2
      obtain ⟨cs, h3, h4⟩ := h2
      obtain ⟨x, y, rfl, hx, hy⟩ := move_cells h4
      have h5 := (World.cells?_some h3).2.2
      refine ⟨(x, y), ⟨?_, ?_⟩, hx, hy⟩
      · have := h5 0 (by omega)
        simpa [Addr.add] using this
      · have := h5 1 (by omega)
        simpa using this
    have hz : a'.spot = none ∨ len = 0 := by
      rcases Nat.eq_zero_or_pos len with h0 | h0
      · exact .inr h0
      · left
        obtain ⟨m, ⟨h2, _⟩, _⟩ := each 0 h0
        obtain ⟨b, off, spot⟩ := a'
        simp only [Addr.add, Nat.zero_mul, if_pos, World.cell?] at h2
        split at h2
        · cases spot with
          | none => rfl
          | some s => simp at h2
        · cases h2
    obtain ⟨l, hl2, hlr⟩ : ∃ l : List (Nat × Nat), l.length = len ∧ ∀ i m, l[i]? = some m → (W.cell? (a'.add (i * 2)) = some (.int .u8 (m.1 : Nat)) ∧ W.cell? ((a'.add (i * 2)).add 1) = some (.int .u16 (m.2 : Nat))) ∧ m.1 ≤ 255 ∧ m.2 ≤ 65535 := by
      refine ⟨(List.range len).map fun i => if hi : i < len then Classical.choose (each i hi) else (0, 0), by simp, fun i m hm => ?_⟩
      have hi : i < len := by
        have := (List.getElem?_eq_some_iff.1 hm).1
        simpa using this
      rw [List.getElem?_map, List.getElem?_range hi] at hm
      simp only [Option.map_some, dif_pos hi, Option.some.injEq] at hm
      subst hm
      exact Classical.choose_spec (each i hi)
    subst hl2
    refine ⟨some a', l, cap, rfl, ?_, hl, by have := maxLen_le hm; omega, fun m hm => ?_⟩
    · intro i v hi
      have hlen2 : (lmC l).length = l.length * 2 := flat_len (k := 2) (fun _ => rfl) l
      have hil := (List.getElem?_eq_some_iff.1 hi).1
      rw [hlen2] at hil
      have hq : i / 2 < l.length := by omega
      have hg := flat_get (enc := fun m : Nat × Nat => [Value.int .u8 ((m.1 : Nat) : Int), Value.int .u16 ((m.2 : Nat) : Int)]) (k := 2) (fun _ => rfl) (by decide) l i
      rw [show (lmC l)[i]? = _ from hg, List.getElem?_eq_getElem hq, Option.bind_some] at hi
      obtain ⟨⟨r1, r2⟩, _⟩ := hlr (i / 2) _ (List.getElem?_eq_getElem hq)
      have hsp : a'.spot = none := hz.resolve_right (by omega)
      obtain ⟨b, off, spot⟩ := a'
      dsimp only at hsp
      subst hsp
      have add_of : ∀ n, (⟨b, off, none⟩ : Addr).add n = ⟨b, off + n, none⟩ := by
        intro n
        unfold Addr.add
        split
        · rename_i e; subst e; rfl
        · rfl
      rw [add_of] at r1 r2
      rw [show ((⟨b, off + i / 2 * 2, none⟩ : Addr).add 1) = ⟨b, off + i / 2 * 2 + 1, none⟩ from rfl] at r2
      have hmod : i % 2 = 0 ∨ i % 2 = 1 := by omega
      rcases hmod with hmod | hmod
      · rw [hmod] at hi
        have hv : Value.int .u8 ((l[i / 2].1 : Nat) : Int) = v := by simpa using hi
        rw [hv, show i / 2 * 2 = i by omega] at r1
        simp only [World.cell?] at r1
        split at r1
        · rename_i C t f hh
          exact ⟨b, off, C, t, f, rfl, hh, by simpa using r1⟩
        · cases r1
      · rw [hmod] at hi
        have hv : Value.int .u16 ((l[i / 2].2 : Nat) : Int) = v := by simpa using hi
        rw [hv, show off + i / 2 * 2 + 1 = off + i by omega] at r2
        simp only [World.cell?] at r2
        split at r2
        · rename_i C t f hh
          exact ⟨b, off, C, t, f, rfl, hh, by simpa using r2⟩
        · cases r2
    · obtain ⟨i, hi⟩ := List.mem_iff_getElem?.1 hm
      exact (hlr i m hi).2
end Go.Proofs.YtjkmpaggfbghiaaGreatDoor

set_option linter.all false
namespace Go.Proofs.YtjkmpaggfbghiaaGreatDoor
open Go Go.X
set_option maxRecDepth 100000
set_option maxHeartbeats 0
theorem in1019 : InSt 19 Tryz.f19 8 := InSt.mk' Tryz.func19 rfl Tryz.ntmps19
def tdR (o : OM.St) (K j : Nat) : List SV := if 1 ≤ j ∧ j < K then [.v (.int .i64 (o.told j).err), .v (.int .i64 (o.told j).num), .v (.string ⟨#[]⟩)] else [.v (.int .i64 0), .v (.int .i64 0), .v (.string ⟨#[]⟩)]
theorem tdR_len (o : OM.St) (K j : Nat) : (tdR o K j).length = 3 := by unfold tdR; split <;> rfl
def tdC (o : OM.St) (K : Nat) : List SV := (List.range 14).flatMap (tdR o K)
theorem tdC_len (o : OM.St) (K : Nat) : (tdC o K).length = 42 := by
  have : ∀ l : List Nat, (l.flatMap (tdR o K)).length = l.length * 3 := by
    intro l
    induction l with
    | nil => rfl
    | cons x l ih => rw [List.flatMap_cons, List.length_append, ih, tdR_len, List.length_cons]; omega
  unfold tdC
  rw [this, List.length_range]
theorem tdC_set {o : OM.St} {k : Nat} {e n : Int} (h1 : 1 ≤ k) (h14 : k < 14) (ht : o.told k = ⟨e, n⟩) :
    denL (tdC o (k + 1)) = (denL (tdC o k)).take (0 + k * 3) ++ [.int .i64 e, .int .i64 n, .string ⟨#[]⟩] ++ (denL (tdC o k)).drop (0 + k * 3 + 3) := by
  have h := fl_set (n := 14) (i := k) (k := 3) (g := tdR o k) (g' := tdR o (k + 1)) (tdR_len o k) h14 (fun j hj => by
    unfold tdR
    by_cases hc : 1 ≤ j ∧ j < k
    · rw [if_pos hc, if_pos ⟨hc.1, by omega⟩]
    · rw [if_neg hc, if_neg (by omega)])
  have h0 : tdR o (k + 1) k = [.v (.int .i64 e), .v (.int .i64 n), .v (.string ⟨#[]⟩)] := by
    unfold tdR
    rw [if_pos ⟨h1, by omega⟩, ht]
  rw [h0] at h
  unfold tdC
  rw [h, Nat.zero_add, denL_eq, denL_eq, List.map_append, List.map_append, List.map_take, List.map_drop, show (k + 1) * 3 = k * 3 + 3 by omega]
  rfl
theorem td_pc {c : Cx} {H : List Blk} {i b t : Nat} {o : OM.St} {K k : Nat} {e n : Int} {f : Blk → List Blk} (hu : At H (.blk i b (tdC o K) t) f) (h1 : 1 ≤ k) (hK : k < K) (h14 : K ≤ 14) (ht : o.told k = ⟨e, n⟩) :
    PC c H b (0 + k * 3) [.v (.int .i64 e), .v (.int .i64 n), .v (.string ⟨#[]⟩)] := by
  have h := (PC.blk (c := c) hu).field (k * 3)
  unfold tdC at h
  rw [fl_drop (tdR_len o K)] at h
  have h2 : k < (List.range 14).length := by rw [List.length_range]; omega
  rw [List.drop_eq_getElem_cons h2, List.getElem_range, List.flatMap_cons] at h
  have h0 : tdR o K k = [.v (.int .i64 e), .v (.int .i64 n), .v (.string ⟨#[]⟩)] := by
    unfold tdR
    rw [if_pos ⟨h1, hK⟩, ht]
  rw [h0] at h
  exact h.cut
/-- asking -/
abbrev askC (k : Nat) : OM.Cmd := { OM.zCmd with kind := 12, saga := ((k : Nat) : Int) }
theorem askC_ok {k : Nat} (h1 : 1 ≤ k) (h2 : k < 14) : (askC k).ok = true := by
  unfold OM.Cmd.ok
  show (if (12 : Int) = 0 then _ else if (12 : Int) = 11 then _ else if (12 : Int) = 12 ∨ (12 : Int) = 13 then _ else _) = true
  rw [if_neg (by decide), if_neg (by decide), if_pos (.inl rfl)]
  simp only [Bool.and_eq_true, decide_eq_true_eq, beq_self_eq_true, and_true]
  exact ⟨⟨⟨by decide, by decide⟩, by show (1 : Int) ≤ (k : Nat); omega⟩, by show ((k : Nat) : Int) ≤ 9999; omega⟩
theorem askC_do {o : OM.St} {k : Nat} (h1 : 1 ≤ k) (h2 : k < 14) : ((o.apply (askC k)).1).sagas = o.sagas ∧ (o.apply (askC k)).2 = o.told k := by
  have h : o.dox (askC k) = (o, o.told k) := OM.dox_status o 0 k (askC_ok h1 h2)
  unfold OM.St.apply
  rw [h]
  exact ⟨rfl, rfl⟩
theorem told_same {o s : OM.St} (h : s.sagas = o.sagas) (k : Int) : s.told k = o.told k ∧ s.get k = o.get k := by
  unfold OM.St.told OM.St.get
  rw [h]
  exact ⟨rfl, rfl⟩
theorem one3 (e n : Int) : ∀ u ∈ [Value.int .i64 e, Value.int .i64 n, Value.string ⟨#[]⟩], u.oneCell' = true := by
  intro u hu
  simp only [List.mem_cons, List.not_mem_nil, or_false] at hu
  rcases hu with rfl | rfl | rfl <;> rfl
theorem orchTold1004 {l1 l2 : List (Nat × Nat)} {a1 a2 : Option Addr} {cap1 cap2 : Nat} {o0 o1 : Obj} {w : World} (hko : KObj o0 o1)
    (hr1 : RdB w a1 (lmC l1)) (hcap1 : l1.length ≤ cap1) (hll1 : l1.length ≤ 9223372036854775807) (hl1 : ∀ m ∈ l1, m.1 ≤ 255 ∧ m.2 ≤ 65535)
    (hr2 : RdB w a2 (lmC l2)) (hcap2 : l2.length ≤ cap2) (hll2 : l2.length ≤ 9223372036854775807) (hl2 : ∀ m ∈ l2, m.1 ≤ 255 ∧ m.2 ≤ 65535) :
    FrZ Tryz.prog 4 #[.slice a1 l1.length cap1, .slice a2 l2.length cap2] w (AssL [.ext 9 (GlX o0 o1)]) (fun _ : Unit => .bool true) (fun _ => AssL [.ext 9 (GlA o0 o1)]) := by
  refine enter_frZ TBok (H := [.ext 9 (GlX o0 o1)]) all_foot Tryz.func4 rfl rfl Tryz.ntmps4 [.v (.slice a1 l1.length cap1), .v (.slice a2 l2.length cap2)] rfl rfl ?_
  intro S hA hlt
  obtain ⟨hSx, hh0, hh1⟩ := GlX.only hA
  have hng1 := notGl hko hh0 hh1 hr1
  have hng2 := notGl hko hh0 hh1 hr2
  have sa := fun n' r H => SeesB.oldX (c := ⟨Tryz.prog, TB, n', w, S, r, TBok⟩) (H := H) hr1 (fun i v b off h1 h2 hb => by
    have := hng1 i v b off h1 h2
    rcases hSx b hb with e | e <;> omega)
  have sb := fun n' r H => SeesB.oldX (c := ⟨Tryz.prog, TB, n', w, S, r, TBok⟩) (H := H) hr2 (fun i v b off h1 h2 hb => by
    have := hng2 i v b off h1 h2
    rcases hSx b hb with e | e <;> omega)
  clear hA hlt hSx hng1 hng2
  conv => whnf
  repeat' (first
 | with_reducible ((first | refine r_seq (fun KS hS => ?_) | (refine hS _ _ ?_; clear hS KS) | (refine hB _ ?_; clear hB KB) | refine r_block ?_))
 | ((with_reducible (first | refine r_region ?_ | refine r_cond (fun KA hA KB hB => ?_) | refine r_skip ?_ | refine And.intro rfl ?_ | intro b)); conv => whnf)
 | ((with_reducible refine CallK.id ?_); refine CallK.s1 (by repeat (first | with_reducible apply Rm.head | apply Rm.tail)) (fun ms w hk => played1011 hko (sa _ _ _ ms w hk) hcap1 hll1 hl1) ?_; conv => whnf)
 | ((with_reducible apply OpK.more); (focus refine sok); (conv => whnf); fail_if_success guard_target =ₛ False)
 | with_reducible apply_assumption -symm -exfalso)
  rename_i d b5 _ _
  revert b
  intro b7
  obtain ⟨o, ho⟩ : ∃ o, OM.playF (OM.init 4) (l1.take 60) = o := ⟨_, rfl⟩
  have hIo : OM.Inv o := by rw [← ho]; exact (OM.Inv.init (g := 4) (by decide)).play _
  rw [ho]
  refine r_loop (α := Nat × OM.St) (fun z => [(1, .v (.slice a2 l2.length cap2)), (5, .loc b5 10 0), (6, .fn 19 [.loc b5 10 0]), (7, .loc b7 11 0), (8, .v (.int .i64 (z.1 : Nat)))]) (fun z => [.ext 12 (OrchA d z.2), .ext 9 (GlA o0 o1), .blk 10 b5 [.v (pv d)] 23, .blk 11 b7 (tdC o z.1) 53, .ext 8 (dfA OM.zDef none 0)]) (fun z => 1 ≤ z.1 ∧ z.1 ≤ 14 ∧ z.2.sagas = o.sagas ∧ OM.Reach o z.2) (fun z => 14 - z.1) (1, o) ⟨Nat.le_refl _, by show 1 ≤ 14; decide, rfl, .refl o⟩ (by repeat' (first | exact Sub.nil | (refine Sub.cons rfl rfl ?_))) (HSub.addSlL (L' := [.ext 12 (OrchA d o), .ext 9 (GlA o0 o1), .blk 10 b5 [.v (pv d)] 23, .blk 11 b7 (tdC o 1) 53]) (by (try dsimp only [List.cons_append, List.nil_append, den, denL]); refine SelI.spec ?_; (repeat (first | refine SelI.blk (by repeat (first | with_reducible apply Rm.head | apply Rm.tail)) ?_ | refine SelI.ext (by repeat (first | with_reducible apply Rm.head | apply Rm.tail)) ?_ | (refine SelI.blk' (by repeat (first | with_reducible apply Rm.head | apply Rm.tail)) ?_ ?_; focus rfl) | (refine SelI.ext' (by repeat (first | with_reducible apply Rm.head | apply Rm.tail)) ?_ ?_; focus rfl))); exact SelI.nil)) ?_
  clear ho sa hr1
  rintro ⟨k, s⟩ ⟨hk1, hk14, hsg, hre⟩ KL hL2
  dsimp only at hk1 hk14 hsg hre ⊢
  have hIs := hre.inv hIo
  by_cases hlt : k < 14
  · obtain ⟨q1, q2⟩ := askC_do (o := s) hk1 hlt
    have hts := told_same hsg (k : Int)
    obtain ⟨s', hs'⟩ : ∃ s', (s.apply (askC k)).1 = s' := ⟨_, rfl⟩
    have hre' : OM.Reach o s' := by rw [← hs']; exact .step _ hre
    have hIs' := hre'.inv hIo
    rw [hs'] at q1
    have hsg' : s'.sagas = o.sagas := q1.trans hsg
    have hts' := (told_same hsg' (k : Int)).2
    rw [hts.1] at q2
    have hap1014 : ∀ w, Fr Tryz.prog 14 #[pv d, .agg (denL (cmV (askC k) none 0 0)).toArray] w (AssL [.ext 12 (OrchA d s), .ext 9 (GlA o0 o1), .ext 8 (dfA OM.zDef none 0)]) (rpV (o.told k)) (AssL [.ext 12 (OrchA d s'), .ext 9 (GlA o0 o1), .ext 8 (dfA OM.zDef none 0)]) := fun w => by
      have := apply1014 (d := d) (a := none) (cap := 0) (c := askC k) hko hIs (askC_ok hk1 hlt) (fun _ => rfl) w
      rw [q2, hs'] at this
      exact this
    clear hs' q1 q2 hts hre hsg
    cases hg : o.get k with
    | none =>
      have ht : o.told k = ⟨5, 0⟩ := by unfold OM.St.told; rw [hg]
      have hno1020 := fun w => noSaga1020 (d := d) hIs' (hts'.trans hg) w
      rw [ht] at hap1014
      repeat' (first
 | with_reducible ((first | refine r_seq (fun KS hS => ?_) | (refine hS _ _ ?_; clear hS KS) | (refine hA _ ?_; clear hA KA) | (refine hB _ ?_; clear hB KB) | refine r_block ?_))
 | ((with_reducible (first | refine r_region ?_ | refine r_cond (fun KA hA KB hB => ?_) | refine r_ret ?_ | refine r_skip ?_ | refine And.intro rfl ?_ | intro b)); conv => whnf)
 | ((with_reducible refine WrapK.i64 ?_ ?_); (focus omega); conv => whnf)
 | (apply in1019; rfl; rfl; rfl; intro A; conv => whnf)
 | ((with_reducible refine CallK.id ?_); refine CallK.selV (by apply Sel.cons; (case h => repeat (first | with_reducible apply Rm.head | apply Rm.tail)); apply Sel.cons; (case h => repeat (first | with_reducible apply Rm.head | apply Rm.tail)); apply Sel.cons; (case h => repeat (first | with_reducible apply Rm.head | apply Rm.tail)); exact Sel.nil) (fun ms w hk => hap1014 w) ?_; dsimp only [layF]; conv => whnf)
 | ((with_reducible refine OpK.id ?_); (first | (refine OpK.ixA rfl rfl rfl rfl rfl rfl (by omega) (by show ((k : Nat) : Int) < 14; omega) ?_) | (refine OpK.stB (vs := [.int .i64 5, .int .i64 0, .string ⟨#[]⟩]) rfl rfl rfl rfl rfl rfl (one3 _ _) (by repeat (first | with_reducible apply At.head | apply At.tail)) (by rw [tdC_len]; show 0 + k * 3 + 3 ≤ 42; omega) (tdC_set (k := k) hk1 hlt ht) ?_)); conv => whnf)
 | ((with_reducible refine CallK.id ?_); refine CallK.s1V (by repeat (first | with_reducible apply Rm.head | apply Rm.tail)) (fun ms w hk => hno1020 w) ?_; conv => whnf)
 | ((with_reducible refine QK.id ?_); (first | (refine QK.ixA rfl rfl rfl rfl rfl rfl (by omega) (by show ((k : Nat) : Int) < 14; omega) ?_) | refine QK.ldp rfl rfl (td_pc (k := k) (by repeat (first | with_reducible apply At.head | apply At.tail)) hk1 (Nat.lt_succ_self k) hlt ht) (List.cons_ne_nil _ _) ?_); conv => whnf)
 | ((with_reducible refine IK.id ?_); refine IK.neqV sok2 rfl rfl rfl ?_; conv => whnf; simp only [eq_self, decide_true, Bool.and_true, Bool.not_true]; (try (conv => whnf)))
 | (refine hL2 (k + 1, s') _ _ ⟨by show 1 ≤ k + 1; omega, by show k + 1 ≤ 14; omega, hsg', hre'⟩ (by show 14 - (k + 1) < 14 - k; omega) (by repeat' (first | exact Sub.nil | (refine Sub.cons rfl rfl ?_))) (by (try dsimp only [List.cons_append, List.nil_append, den, denL]); refine SelI.spec ?_; (repeat (first | refine SelI.blk (by repeat (first | with_reducible apply Rm.head | apply Rm.tail)) ?_ | refine SelI.ext (by repeat (first | with_reducible apply Rm.head | apply Rm.tail)) ?_ | (refine SelI.blk' (by repeat (first | with_reducible apply Rm.head | apply Rm.tail)) ?_ ?_; focus rfl) | (refine SelI.ext' (by repeat (first | with_reducible apply Rm.head | apply Rm.tail)) ?_ ?_; focus rfl))); exact SelI.nil))
 | (apply r_quiet; refine mixed; kernel_rfl; kernel_rfl; kernel_rfl; conv => whnf)
 | (refine if_decT (by omega) ?_; conv => whnf)
 | with_reducible apply_assumption -symm -exfalso)
    | some s0 =>
      have ht : o.told k = ⟨0, s0.st⟩ := by unfold OM.St.told; rw [hg]
      have hsa1020 := fun w => saga1020 (d := d) hIs' (hts'.trans hg) w
      rw [ht] at hap1014
      repeat' (first
 | with_reducible ((first | refine r_seq (fun KS hS => ?_) | (refine hS _ _ ?_; clear hS KS) | (refine hA _ ?_; clear hA KA) | (refine hB _ ?_; clear hB KB) | refine r_block ?_))
 | ((with_reducible (first | refine r_region ?_ | refine r_cond (fun KA hA KB hB => ?_) | refine r_ret ?_ | refine r_skip ?_ | refine And.intro rfl ?_ | intro b)); conv => whnf)
 | ((with_reducible refine WrapK.i64 ?_ ?_); (focus omega); conv => whnf)
 | (apply in1019; rfl; rfl; rfl; intro A; conv => whnf)
 | ((with_reducible refine CallK.id ?_); refine CallK.selV (by apply Sel.cons; (case h => repeat (first | with_reducible apply Rm.head | apply Rm.tail)); apply Sel.cons; (case h => repeat (first | with_reducible apply Rm.head | apply Rm.tail)); apply Sel.cons; (case h => repeat (first | with_reducible apply Rm.head | apply Rm.tail)); exact Sel.nil) (fun ms w hk => hap1014 w) ?_; dsimp only [layF]; conv => whnf)
 | ((with_reducible refine OpK.id ?_); (first | (refine OpK.ixA rfl rfl rfl rfl rfl rfl (by omega) (by show ((k : Nat) : Int) < 14; omega) ?_) | (refine OpK.stB (vs := [.int .i64 0, .int .i64 s0.st, .string ⟨#[]⟩]) rfl rfl rfl rfl rfl rfl (one3 _ _) (by repeat (first | with_reducible apply At.head | apply At.tail)) (by rw [tdC_len]; show 0 + k * 3 + 3 ≤ 42; omega) (tdC_set (k := k) hk1 hlt ht) ?_)); conv => whnf)
 | ((with_reducible refine CallK.id ?_); refine CallK.s1 (by repeat (first | with_reducible apply Rm.head | apply Rm.tail)) (fun ms w hk => hsa1020 w) ?_; conv => whnf)
 | ((with_reducible refine QK.id ?_); (first | (refine QK.ixA rfl rfl rfl rfl rfl rfl (by omega) (by show ((k : Nat) : Int) < 14; omega) ?_) | refine QK.ldp rfl rfl (td_pc (k := k) (by repeat (first | with_reducible apply At.head | apply At.tail)) hk1 (Nat.lt_succ_self k) hlt ht) (List.cons_ne_nil _ _) ?_); conv => whnf)
 | ((with_reducible refine IK.id ?_); refine IK.neqV sok2 rfl rfl rfl ?_; conv => whnf; simp only [eq_self, decide_true, Bool.and_true, Bool.not_true]; (try (conv => whnf)))
 | (refine hL2 (k + 1, s') _ _ ⟨by show 1 ≤ k + 1; omega, by show k + 1 ≤ 14; omega, hsg', hre'⟩ (by show 14 - (k + 1) < 14 - k; omega) (by repeat' (first | exact Sub.nil | (refine Sub.cons rfl rfl ?_))) (by (try dsimp only [List.cons_append, List.nil_append, den, denL]); refine SelI.spec ?_; (repeat (first | refine SelI.blk (by repeat (first | with_reducible apply Rm.head | apply Rm.tail)) ?_ | refine SelI.ext (by repeat (first | with_reducible apply Rm.head | apply Rm.tail)) ?_ | (refine SelI.blk' (by repeat (first | with_reducible apply Rm.head | apply Rm.tail)) ?_ ?_; focus rfl) | (refine SelI.ext' (by repeat (first | with_reducible apply Rm.head | apply Rm.tail)) ?_ ?_; focus rfl))); exact SelI.nil))
 | (apply r_quiet; refine mixed; kernel_rfl; kernel_rfl; kernel_rfl; conv => whnf)
 | (refine if_decT (by omega) ?_; conv => whnf)
 | with_reducible apply_assumption -symm -exfalso)
  · obtain rfl : k = 14 := by omega
    clear hL2
    repeat' (first
 | with_reducible ((first | refine r_seq (fun KS hS => ?_) | (refine hS _ _ ?_; clear hS KS) | (refine hB _ ?_; clear hB KB) | refine r_block ?_))
 | ((with_reducible (first | refine r_region ?_ | refine r_cond (fun KA hA KB hB => ?_) | refine r_exit ?_)); conv => whnf)
 | ((with_reducible refine OpK.id ?_); (first | refine OpK.minN (b := 60) rfl rfl rfl ?_ | refine OpK.slB rfl rfl rfl rfl rfl rfl (Nat.le_trans (Nat.min_le_left _ _) hcap2) ?_); conv => whnf)
 | with_reducible apply_assumption -symm -exfalso)
    refine r_loop (α := Nat × OM.St) (fun z => [(5, .loc b5 10 0), (6, .fn 19 [.loc b5 10 0]), (7, .loc b7 11 0), (59, .v (.slice a2 (Nat.min l2.length 60) cap2)), (60, .v (.int .i64 ((Nat.min l2.length 60 : Nat) : Int))), (61, .v (.int .i64 (z.1 : Nat)))]) (fun z => [.ext 12 (OrchA d z.2), .ext 9 (GlA o0 o1), .blk 10 b5 [.v (pv d)] 23, .blk 11 b7 (tdC o 14) 53, .ext 8 (dfA OM.zDef none 0)]) (fun z => z.1 ≤ Nat.min l2.length 60 ∧ OM.Reach o z.2) (fun z => Nat.min l2.length 60 - z.1) (0, s) ⟨Nat.zero_le _, hre⟩ (by repeat' (first | exact Sub.nil | (refine Sub.cons rfl rfl ?_))) (by (try dsimp only [List.cons_append, List.nil_append, den, denL]); refine SelI.spec ?_; (repeat (first | refine SelI.blk (by repeat (first | with_reducible apply Rm.head | apply Rm.tail)) ?_ | refine SelI.ext (by repeat (first | with_reducible apply Rm.head | apply Rm.tail)) ?_ | (refine SelI.blk' (by repeat (first | with_reducible apply Rm.head | apply Rm.tail)) ?_ ?_; focus rfl) | (refine SelI.ext' (by repeat (first | with_reducible apply Rm.head | apply Rm.tail)) ?_ ?_; focus rfl))); exact SelI.nil) ?_
    clear hre hsg hIs hk1 hk14 hlt
    rintro ⟨i, s⟩ ⟨hi, hre⟩ KL2 hL3
    dsimp only at hi hre ⊢
    have hIs := hre.inv hIo
    have hm1 : Nat.min l2.length 60 ≤ l2.length := Nat.min_le_left _ _
    have hm2 : Nat.min l2.length 60 ≤ 60 := Nat.min_le_right _ _
    by_cases hlt : i < Nat.min l2.length 60
    · obtain ⟨m, hx⟩ : ∃ m, l2[i]? = some m := ⟨_, List.getElem?_eq_getElem (by omega)⟩
      obtain ⟨hm3, hm4⟩ := hl2 m (List.mem_of_getElem? hx)
      have hok := OM.cmdOf_ok hIs m.1 m.2
      have hcm1018 := fun w => command1018 (d := d) hko hIs hm3 hm4 w
      obtain ⟨s', hs'⟩ : ∃ s', (s.apply (OM.cmdOf s m.1 m.2)).1 = s' := ⟨_, rfl⟩
      have hre' : OM.Reach o s' := by rw [← hs']; exact .step _ hre
      have hap1014 := fun a cap ha w => apply1014 (d := d) (a := a) (cap := cap) (c := (OM.cmdOf s m.1 m.2)) hko hIs hok ha w
      simp only [hs'] at hap1014
      letI : Inhabited {z : Option Addr × Nat // (OM.cmdOf s m.1 m.2).kind ≠ 11 → z = (none, 0)} := ⟨⟨(none, 0), fun _ => rfl⟩⟩
      repeat' (first
 | with_reducible refine r_stopE 19 ?_
 | with_reducible ((first | refine r_seq (fun KS hS => ?_) | (refine hS _ _ ?_; clear hS KS) | (refine hA _ ?_; clear hA KA) | refine r_block ?_))
 | ((with_reducible (first | refine r_region ?_ | refine r_cond (fun KA hA KB hB => ?_) | refine r_skip ?_ | refine And.intro rfl ?_ | intro b)); conv => whnf)
 | ((with_reducible refine OpK.id ?_); (first | refine OpK.idxBk (k := 2) rfl rfl rfl rfl rfl rfl rfl (sb _ _ _) (by omega) (by exact Nat.succ_pos _) (lm_at hx) (fun b off hp => ?_) | refine OpK.ldp rfl rfl hp (List.cons_ne_nil _ _) ?_); conv => whnf)
 | (refine if_decT (by omega) ?_; conv => whnf)
 | with_reducible apply_assumption -symm -exfalso)
      refine StopR.mk ?_
      refine r_par (β := {z : Option Addr × Nat // (OM.cmdOf s m.1 m.2).kind ≠ 11 → z = (none, 0)}) (id := 19) [⟨0, [], none, fun _ _ => .v (pv d), fun _ _ => []⟩, ⟨1, [], none, fun _ _ => .agg [.v (.int .u8 ((m.1 : Nat) : Int)), .v (.int .u16 ((m.2 : Nat) : Int))], fun _ _ => []⟩, ⟨2, [], none, fun _ _ => .v (pv d), fun _ _ => []⟩, ⟨3, [1, 2], some 100, fun _ q2 => .v (.agg (denL (cmV (OM.cmdOf s m.1 m.2) q2.1.1 (OM.cmdOf s m.1 m.2).d.steps.length q2.1.2)).toArray), fun _ q2 => [.ext 12 (OrchA d s), .ext 9 (GlA o0 o1), .ext 8 (dfA (OM.cmdOf s m.1 m.2).d q2.1.1 q2.1.2)]⟩] [⟨100, [], none, fun _ _ => .v undef, fun _ _ => [.ext 12 (OrchA d s), .ext 9 (GlA o0 o1)]⟩] 1 [.blk 13 b [.v (.int .u8 ((m.1 : Nat) : Int)), .v (.int .u16 ((m.2 : Nat) : Int))] 46, .blk 10 b5 [.v (pv d)] 23, .blk 11 b7 (tdC o 14) 53, .ext 8 (dfA OM.zDef none 0)] mixed (by kernel_rfl) (by kernel_rfl) (by show HSub [.ext 12 (OrchA d s), .ext 9 (GlA o0 o1), .blk 13 b [.v (.int .u8 ((m.1 : Nat) : Int)), .v (.int .u16 ((m.2 : Nat) : Int))] 46, .blk 10 b5 [.v (pv d)] 23, .blk 11 b7 (tdC o 14) 53, .ext 8 (dfA OM.zDef none 0)] _; exact (by (try dsimp only [List.cons_append, List.nil_append, den, denL]); refine SelI.spec ?_; (repeat (first | refine SelI.blk (by repeat (first | with_reducible apply Rm.head | apply Rm.tail)) ?_ | refine SelI.ext (by repeat (first | with_reducible apply Rm.head | apply Rm.tail)) ?_ | (refine SelI.blk' (by repeat (first | with_reducible apply Rm.head | apply Rm.tail)) ?_ ?_; focus rfl) | (refine SelI.ext' (by repeat (first | with_reducible apply Rm.head | apply Rm.tail)) ?_ ?_; focus rfl))); exact SelI.nil)) ?_ ?_
      · conv => whnf
        repeat' (first | ((with_reducible refine And.intro ?_ ?_); all_goals (conv => whnf)) | ((with_reducible intro zz2 AA KP hP); conv => whnf))
        repeat' (first
 | ((with_reducible intro b); conv => whnf)
 | ((with_reducible refine CallK.id ?_); refine CallK.s2 (by repeat (first | with_reducible apply Rm.head | apply Rm.tail)) (by repeat (first | with_reducible apply Rm.head | apply Rm.tail)) (fun ms w hk => hcm1018 w) ?_; conv => whnf)
 | ((with_reducible apply hP); all_goals (first | exact default | ((repeat' (first | exact SubD.nil | (refine SubD.cons rfl rfl ?_))); done) | ((try dsimp only [mapZ, List.cons_append, List.nil_append, den, denL]); refine SelI.spec ?_; repeat (first | apply SelI.nil | refine SelI.blk (by repeat (first | with_reducible apply Rm.head | apply Rm.tail)) ?_ | refine SelI.ext (by repeat (first | with_reducible apply Rm.head | apply Rm.tail)) ?_ | (refine SelI.blk' (by repeat (first | with_reducible apply Rm.head | apply Rm.tail)) ?_ ?_; focus rfl) | (refine SelI.ext' (by repeat (first | with_reducible apply Rm.head | apply Rm.tail)) ?_ ?_; focus rfl))))))
      conv => whnf
      intro zz2
      conv => whnf
      try dsimp only
      repeat' (first
 | with_reducible (refine hS _ _ ?_; clear hS KS)
 | ((with_reducible refine r_region ?_); conv => whnf)
 | ((with_reducible refine WrapK.i64 ?_ ?_); (focus omega); conv => whnf)
 | ((with_reducible refine CallK.id ?_); refine CallK.selV (by apply Sel.cons; (case h => repeat (first | with_reducible apply Rm.head | apply Rm.tail)); apply Sel.cons; (case h => repeat (first | with_reducible apply Rm.head | apply Rm.tail)); apply Sel.cons; (case h => repeat (first | with_reducible apply Rm.head | apply Rm.tail)); exact Sel.nil) (fun ms w hk => hap1014 (zz2 3).1.1 (zz2 3).1.2 (zz2 3).2 w) ?_; dsimp only [layF]; conv => whnf)
 | (refine hL3 (i + 1, s') _ _ ⟨by show i + 1 ≤ _; omega, hre'⟩ (by show _ - (i + 1) < _ - i; omega) (by repeat' (first | exact Sub.nil | (refine Sub.cons rfl rfl ?_))) (by (try dsimp only [List.cons_append, List.nil_append, den, denL]); refine SelI.spec ?_; (repeat (first | refine SelI.blk (by repeat (first | with_reducible apply Rm.head | apply Rm.tail)) ?_ | refine SelI.ext (by repeat (first | with_reducible apply Rm.head | apply Rm.tail)) ?_ | (refine SelI.blk' (by repeat (first | with_reducible apply Rm.head | apply Rm.tail)) ?_ ?_; focus rfl) | (refine SelI.ext' (by repeat (first | with_reducible apply Rm.head | apply Rm.tail)) ?_ ?_; focus rfl))); exact SelI.nil))
 | ((with_reducible ((first | refine AnyAt.mk (fun K' hK => ?_) | (refine hK _ _ ?_; clear hK K')))); conv => whnf))
    · obtain rfl : i = Nat.min l2.length 60 := by omega
      clear hL3
      repeat' (first
 | with_reducible ((first | refine r_seq (fun KS hS => ?_) | (refine hS _ _ ?_; clear hS KS) | (refine hB _ ?_; clear hB KB) | refine r_block ?_))
 | ((with_reducible (first | refine r_region ?_ | refine r_cond (fun KA hA KB hB => ?_) | refine r_exit ?_)); conv => whnf)
 | (refine if_decF (by omega) ?_; conv => whnf)
 | with_reducible apply_assumption -symm -exfalso)
      refine r_loop (α := Nat × OM.St) (fun z => [(6, .fn 19 [.loc b5 10 0]), (7, .loc b7 11 0), (14, .v (.int .i64 (z.1 : Nat)))]) (fun z => [.ext 12 (OrchA d z.2), .ext 9 (GlA o0 o1), .blk 10 b5 [.v (pv d)] 23, .blk 11 b7 (tdC o 14) 53, .ext 8 (dfA OM.zDef none 0)]) (fun z => 1 ≤ z.1 ∧ z.1 ≤ 14 ∧ OM.Reach o z.2) (fun z => 14 - z.1) (1, s) ⟨Nat.le_refl _, by show 1 ≤ 14; decide, hre⟩ (by repeat' (first | exact Sub.nil | (refine Sub.cons rfl rfl ?_))) (by (try dsimp only [List.cons_append, List.nil_append, den, denL]); refine SelI.spec ?_; (repeat (first | refine SelI.blk (by repeat (first | with_reducible apply Rm.head | apply Rm.tail)) ?_ | refine SelI.ext (by repeat (first | with_reducible apply Rm.head | apply Rm.tail)) ?_ | (refine SelI.blk' (by repeat (first | with_reducible apply Rm.head | apply Rm.tail)) ?_ ?_; focus rfl) | (refine SelI.ext' (by repeat (first | with_reducible apply Rm.head | apply Rm.tail)) ?_ ?_; focus rfl))); exact SelI.nil) ?_
      clear hre hIs hi hlt hm1 hm2
      rintro ⟨k, s⟩ ⟨hk1, hk14, hre⟩ KL3 hL4
      dsimp only at hk1 hk14 hre ⊢
      have hIs := hre.inv hIo
      by_cases hlt : k < 14
      · obtain ⟨_, q2⟩ := askC_do (o := s) hk1 hlt
        obtain ⟨s', hs'⟩ : ∃ s', (s.apply (askC k)).1 = s' := ⟨_, rfl⟩
        have hre' : OM.Reach o s' := by rw [← hs']; exact .step _ hre
        have hap1014 : ∀ w, Fr Tryz.prog 14 #[pv d, .agg (denL (cmV (askC k) none 0 0)).toArray] w (AssL [.ext 12 (OrchA d s), .ext 9 (GlA o0 o1), .ext 8 (dfA OM.zDef none 0)]) (rpV (s.told k)) (AssL [.ext 12 (OrchA d s'), .ext 9 (GlA o0 o1), .ext 8 (dfA OM.zDef none 0)]) := fun w => by
          have := apply1014 (d := d) (a := none) (cap := 0) (c := askC k) hko hIs (askC_ok hk1 hlt) (fun _ => rfl) w
          rw [q2, hs'] at this
          exact this
        clear hs' q2
        cases hg : o.get k with
        | none =>
          have ht : o.told k = ⟨5, 0⟩ := by unfold OM.St.told; rw [hg]
          obtain ⟨e2, n2, hq⟩ : ∃ e2 n2, s.told k = ⟨e2, n2⟩ := ⟨_, _, rfl⟩
          rw [hq] at hap1014
          repeat' (first
 | with_reducible ((first | refine r_seq (fun KS hS => ?_) | (refine hS _ _ ?_; clear hS KS) | (refine hA _ ?_; clear hA KA) | (refine hB _ ?_; clear hB KB) | refine r_block ?_))
 | ((with_reducible (first | refine r_region ?_ | refine r_cond (fun KA hA KB hB => ?_) | refine r_ret ?_ | refine r_skip ?_ | refine And.intro rfl ?_ | intro b)); conv => whnf)
 | ((with_reducible refine WrapK.i64 ?_ ?_); (focus omega); conv => whnf)
 | (apply in1019; rfl; rfl; rfl; intro A; conv => whnf)
 | ((with_reducible refine CallK.id ?_); refine CallK.selV (by apply Sel.cons; (case h => repeat (first | with_reducible apply Rm.head | apply Rm.tail)); apply Sel.cons; (case h => repeat (first | with_reducible apply Rm.head | apply Rm.tail)); apply Sel.cons; (case h => repeat (first | with_reducible apply Rm.head | apply Rm.tail)); exact Sel.nil) (fun ms w hk => hap1014 w) ?_; dsimp only [layF]; conv => whnf)
 | ((with_reducible refine QK.id ?_); refine QK.ixA rfl rfl rfl rfl rfl rfl (by omega) (by show ((k : Nat) : Int) < 14; omega) ?_; conv => whnf)
 | ((with_reducible refine IK.id ?_); refine IK.fap rfl rfl ?_; conv => whnf)
 | ((with_reducible refine QK.id ?_); (first | refine QK.ldp rfl rfl (td_pc (k := k) (by repeat (first | with_reducible apply At.head | apply At.tail)) hk1 hlt (Nat.le_refl 14) ht) (List.cons_ne_nil _ _) ?_ | refine QK.ldp rfl rfl ((td_pc (k := k) (by repeat (first | with_reducible apply At.head | apply At.tail)) hk1 hlt (Nat.le_refl 14) ht).field 1) (List.cons_ne_nil _ _) ?_); conv => whnf)
 | (refine hL4 (k + 1, s') _ _ ⟨by show 1 ≤ k + 1; omega, by show k + 1 ≤ 14; omega, hre'⟩ (by show 14 - (k + 1) < 14 - k; omega) (by repeat' (first | exact Sub.nil | (refine Sub.cons rfl rfl ?_))) (by (try dsimp only [List.cons_append, List.nil_append, den, denL]); refine SelI.spec ?_; (repeat (first | refine SelI.blk (by repeat (first | with_reducible apply Rm.head | apply Rm.tail)) ?_ | refine SelI.ext (by repeat (first | with_reducible apply Rm.head | apply Rm.tail)) ?_ | (refine SelI.blk' (by repeat (first | with_reducible apply Rm.head | apply Rm.tail)) ?_ ?_; focus rfl) | (refine SelI.ext' (by repeat (first | with_reducible apply Rm.head | apply Rm.tail)) ?_ ?_; focus rfl))); exact SelI.nil))
 | (apply r_quiet; refine mixed; kernel_rfl; kernel_rfl; kernel_rfl; conv => whnf)
 | (refine if_decT (by omega) ?_; conv => whnf)
 | with_reducible apply_assumption -symm -exfalso)
        | some s0 =>
          obtain ⟨s1, hg1, hah⟩ := hre.ahead hIo hg
          have ht : o.told k = ⟨0, s0.st⟩ := by unfold OM.St.told; rw [hg]
          have hq : s.told k = ⟨0, s1.st⟩ := by unfold OM.St.told; rw [hg1]
          rw [hq] at hap1014
          unfold OM.ahead at hah
          by_cases h4 : 4 ≤ s0.st
          · have he : s1.st = s0.st := by omega
            rw [he] at hap1014
            repeat' (first
 | with_reducible ((first | refine r_seq (fun KS hS => ?_) | (refine hS _ _ ?_; clear hS KS) | (refine hA _ ?_; clear hA KA) | (refine hB _ ?_; clear hB KB) | refine r_block ?_))
 | ((with_reducible (first | refine r_region ?_ | refine r_cond (fun KA hA KB hB => ?_) | refine r_ret ?_ | refine r_skip ?_ | refine And.intro rfl ?_ | intro b)); conv => whnf)
 | ((with_reducible refine WrapK.i64 ?_ ?_); (focus omega); conv => whnf)
 | (apply in1019; rfl; rfl; rfl; intro A; conv => whnf)
 | ((with_reducible refine CallK.id ?_); refine CallK.selV (by apply Sel.cons; (case h => repeat (first | with_reducible apply Rm.head | apply Rm.tail)); apply Sel.cons; (case h => repeat (first | with_reducible apply Rm.head | apply Rm.tail)); apply Sel.cons; (case h => repeat (first | with_reducible apply Rm.head | apply Rm.tail)); exact Sel.nil) (fun ms w hk => hap1014 w) ?_; dsimp only [layF]; conv => whnf)
 | ((with_reducible refine QK.id ?_); refine QK.ixA rfl rfl rfl rfl rfl rfl (by omega) (by show ((k : Nat) : Int) < 14; omega) ?_; conv => whnf)
 | ((with_reducible refine IK.id ?_); refine IK.fap rfl rfl ?_; conv => whnf)
 | ((with_reducible refine QK.id ?_); (first | refine QK.ldp rfl rfl (td_pc (k := k) (by repeat (first | with_reducible apply At.head | apply At.tail)) hk1 hlt (Nat.le_refl 14) ht) (List.cons_ne_nil _ _) ?_ | refine QK.ldp rfl rfl ((td_pc (k := k) (by repeat (first | with_reducible apply At.head | apply At.tail)) hk1 hlt (Nat.le_refl 14) ht).field 1) (List.cons_ne_nil _ _) ?_); conv => whnf)
 | ((with_reducible refine IK.id ?_); refine IK.neqV sok2 rfl rfl rfl ?_; conv => whnf; simp only [eq_self, decide_true, Bool.and_true, Bool.not_true]; (try (conv => whnf)))
 | (refine hL4 (k + 1, s') _ _ ⟨by show 1 ≤ k + 1; omega, by show k + 1 ≤ 14; omega, hre'⟩ (by show 14 - (k + 1) < 14 - k; omega) (by repeat' (first | exact Sub.nil | (refine Sub.cons rfl rfl ?_))) (by (try dsimp only [List.cons_append, List.nil_append, den, denL]); refine SelI.spec ?_; (repeat (first | refine SelI.blk (by repeat (first | with_reducible apply Rm.head | apply Rm.tail)) ?_ | refine SelI.ext (by repeat (first | with_reducible apply Rm.head | apply Rm.tail)) ?_ | (refine SelI.blk' (by repeat (first | with_reducible apply Rm.head | apply Rm.tail)) ?_ ?_; focus rfl) | (refine SelI.ext' (by repeat (first | with_reducible apply Rm.head | apply Rm.tail)) ?_ ?_; focus rfl))); exact SelI.nil))
 | (apply r_quiet; refine mixed; kernel_rfl; kernel_rfl; kernel_rfl; conv => whnf)
 | ((first | refine if_decT (by omega) ?_ | refine if_decF (by omega) ?_); conv => whnf)
 | with_reducible apply_assumption -symm -exfalso)
          by_cases h2 : s0.st = 2
          · rw [h2] at ht
            rcases (show s1.st = 2 ∨ s1.st = 4 by omega) with he | he
            · rw [he] at hap1014
              repeat' (first
 | with_reducible ((first | refine r_seq (fun KS hS => ?_) | (refine hS _ _ ?_; clear hS KS) | (refine hA _ ?_; clear hA KA) | (refine hB _ ?_; clear hB KB) | refine r_block ?_))
 | ((with_reducible (first | refine r_region ?_ | refine r_cond (fun KA hA KB hB => ?_) | refine r_ret ?_ | refine r_skip ?_ | refine And.intro rfl ?_ | intro b)); conv => whnf)
 | ((with_reducible refine WrapK.i64 ?_ ?_); (focus omega); conv => whnf)
 | (apply in1019; rfl; rfl; rfl; intro A; conv => whnf)
 | ((with_reducible refine CallK.id ?_); refine CallK.selV (by apply Sel.cons; (case h => repeat (first | with_reducible apply Rm.head | apply Rm.tail)); apply Sel.cons; (case h => repeat (first | with_reducible apply Rm.head | apply Rm.tail)); apply Sel.cons; (case h => repeat (first | with_reducible apply Rm.head | apply Rm.tail)); exact Sel.nil) (fun ms w hk => hap1014 w) ?_; dsimp only [layF]; conv => whnf)
 | ((with_reducible refine QK.id ?_); refine QK.ixA rfl rfl rfl rfl rfl rfl (by omega) (by show ((k : Nat) : Int) < 14; omega) ?_; conv => whnf)
 | ((with_reducible refine IK.id ?_); refine IK.fap rfl rfl ?_; conv => whnf)
 | ((with_reducible refine QK.id ?_); (first | refine QK.ldp rfl rfl (td_pc (k := k) (by repeat (first | with_reducible apply At.head | apply At.tail)) hk1 hlt (Nat.le_refl 14) ht) (List.cons_ne_nil _ _) ?_ | refine QK.ldp rfl rfl ((td_pc (k := k) (by repeat (first | with_reducible apply At.head | apply At.tail)) hk1 hlt (Nat.le_refl 14) ht).field 1) (List.cons_ne_nil _ _) ?_); conv => whnf)
 | (refine hL4 (k + 1, s') _ _ ⟨by show 1 ≤ k + 1; omega, by show k + 1 ≤ 14; omega, hre'⟩ (by show 14 - (k + 1) < 14 - k; omega) (by repeat' (first | exact Sub.nil | (refine Sub.cons rfl rfl ?_))) (by (try dsimp only [List.cons_append, List.nil_append, den, denL]); refine SelI.spec ?_; (repeat (first | refine SelI.blk (by repeat (first | with_reducible apply Rm.head | apply Rm.tail)) ?_ | refine SelI.ext (by repeat (first | with_reducible apply Rm.head | apply Rm.tail)) ?_ | (refine SelI.blk' (by repeat (first | with_reducible apply Rm.head | apply Rm.tail)) ?_ ?_; focus rfl) | (refine SelI.ext' (by repeat (first | with_reducible apply Rm.head | apply Rm.tail)) ?_ ?_; focus rfl))); exact SelI.nil))
 | (apply r_quiet; refine mixed; kernel_rfl; kernel_rfl; kernel_rfl; conv => whnf)
 | (refine if_decT (by omega) ?_; conv => whnf)
 | with_reducible apply_assumption -symm -exfalso)
            · rw [he] at hap1014
              repeat' (first
 | with_reducible ((first | refine r_seq (fun KS hS => ?_) | (refine hS _ _ ?_; clear hS KS) | (refine hA _ ?_; clear hA KA) | (refine hB _ ?_; clear hB KB) | refine r_block ?_))
 | ((with_reducible (first | refine r_region ?_ | refine r_cond (fun KA hA KB hB => ?_) | refine r_ret ?_ | refine r_skip ?_ | refine And.intro rfl ?_ | intro b)); conv => whnf)
 | ((with_reducible refine WrapK.i64 ?_ ?_); (focus omega); conv => whnf)
 | (apply in1019; rfl; rfl; rfl; intro A; conv => whnf)
 | ((with_reducible refine CallK.id ?_); refine CallK.selV (by apply Sel.cons; (case h => repeat (first | with_reducible apply Rm.head | apply Rm.tail)); apply Sel.cons; (case h => repeat (first | with_reducible apply Rm.head | apply Rm.tail)); apply Sel.cons; (case h => repeat (first | with_reducible apply Rm.head | apply Rm.tail)); exact Sel.nil) (fun ms w hk => hap1014 w) ?_; dsimp only [layF]; conv => whnf)
 | ((with_reducible refine QK.id ?_); refine QK.ixA rfl rfl rfl rfl rfl rfl (by omega) (by show ((k : Nat) : Int) < 14; omega) ?_; conv => whnf)
 | ((with_reducible refine IK.id ?_); refine IK.fap rfl rfl ?_; conv => whnf)
 | ((with_reducible refine QK.id ?_); (first | refine QK.ldp rfl rfl (td_pc (k := k) (by repeat (first | with_reducible apply At.head | apply At.tail)) hk1 hlt (Nat.le_refl 14) ht) (List.cons_ne_nil _ _) ?_ | refine QK.ldp rfl rfl ((td_pc (k := k) (by repeat (first | with_reducible apply At.head | apply At.tail)) hk1 hlt (Nat.le_refl 14) ht).field 1) (List.cons_ne_nil _ _) ?_); conv => whnf)
 | (refine hL4 (k + 1, s') _ _ ⟨by show 1 ≤ k + 1; omega, by show k + 1 ≤ 14; omega, hre'⟩ (by show 14 - (k + 1) < 14 - k; omega) (by repeat' (first | exact Sub.nil | (refine Sub.cons rfl rfl ?_))) (by (try dsimp only [List.cons_append, List.nil_append, den, denL]); refine SelI.spec ?_; (repeat (first | refine SelI.blk (by repeat (first | with_reducible apply Rm.head | apply Rm.tail)) ?_ | refine SelI.ext (by repeat (first | with_reducible apply Rm.head | apply Rm.tail)) ?_ | (refine SelI.blk' (by repeat (first | with_reducible apply Rm.head | apply Rm.tail)) ?_ ?_; focus rfl) | (refine SelI.ext' (by repeat (first | with_reducible apply Rm.head | apply Rm.tail)) ?_ ?_; focus rfl))); exact SelI.nil))
 | (apply r_quiet; refine mixed; kernel_rfl; kernel_rfl; kernel_rfl; conv => whnf)
 | (refine if_decT (by omega) ?_; conv => whnf)
 | with_reducible apply_assumption -symm -exfalso)
          · repeat' (first
 | with_reducible ((first | refine r_seq (fun KS hS => ?_) | (refine hS _ _ ?_; clear hS KS) | (refine hA _ ?_; clear hA KA) | (refine hB _ ?_; clear hB KB) | refine r_block ?_))
 | ((with_reducible (first | refine r_region ?_ | refine r_cond (fun KA hA KB hB => ?_) | refine r_ret ?_ | refine r_skip ?_ | refine And.intro rfl ?_ | intro b)); conv => whnf)
 | ((with_reducible refine WrapK.i64 ?_ ?_); (focus omega); conv => whnf)
 | (apply in1019; rfl; rfl; rfl; intro A; conv => whnf)
 | ((with_reducible refine CallK.id ?_); refine CallK.selV (by apply Sel.cons; (case h => repeat (first | with_reducible apply Rm.head | apply Rm.tail)); apply Sel.cons; (case h => repeat (first | with_reducible apply Rm.head | apply Rm.tail)); apply Sel.cons; (case h => repeat (first | with_reducible apply Rm.head | apply Rm.tail)); exact Sel.nil) (fun ms w hk => hap1014 w) ?_; dsimp only [layF]; conv => whnf)
 | ((with_reducible refine QK.id ?_); refine QK.ixA rfl rfl rfl rfl rfl rfl (by omega) (by show ((k : Nat) : Int) < 14; omega) ?_; conv => whnf)
 | ((with_reducible refine IK.id ?_); refine IK.fap rfl rfl ?_; conv => whnf)
 | ((with_reducible refine QK.id ?_); (first | refine QK.ldp rfl rfl (td_pc (k := k) (by repeat (first | with_reducible apply At.head | apply At.tail)) hk1 hlt (Nat.le_refl 14) ht) (List.cons_ne_nil _ _) ?_ | refine QK.ldp rfl rfl ((td_pc (k := k) (by repeat (first | with_reducible apply At.head | apply At.tail)) hk1 hlt (Nat.le_refl 14) ht).field 1) (List.cons_ne_nil _ _) ?_); conv => whnf)
 | (refine hL4 (k + 1, s') _ _ ⟨by show 1 ≤ k + 1; omega, by show k + 1 ≤ 14; omega, hre'⟩ (by show 14 - (k + 1) < 14 - k; omega) (by repeat' (first | exact Sub.nil | (refine Sub.cons rfl rfl ?_))) (by (try dsimp only [List.cons_append, List.nil_append, den, denL]); refine SelI.spec ?_; (repeat (first | refine SelI.blk (by repeat (first | with_reducible apply Rm.head | apply Rm.tail)) ?_ | refine SelI.ext (by repeat (first | with_reducible apply Rm.head | apply Rm.tail)) ?_ | (refine SelI.blk' (by repeat (first | with_reducible apply Rm.head | apply Rm.tail)) ?_ ?_; focus rfl) | (refine SelI.ext' (by repeat (first | with_reducible apply Rm.head | apply Rm.tail)) ?_ ?_; focus rfl))); exact SelI.nil))
 | (apply r_quiet; refine mixed; kernel_rfl; kernel_rfl; kernel_rfl; conv => whnf)
 | ((first | refine if_decT (by omega) ?_ | refine if_decF (by omega) ?_); conv => whnf)
 | with_reducible apply_assumption -symm -exfalso)
      · obtain rfl : k = 14 := by omega
        clear hL4
        repeat' (first
 | with_reducible ((first | refine r_seq (fun KS hS => ?_) | (refine hS _ _ ?_; clear hS KS) | (refine hB _ ?_; clear hB KB)))
 | ((with_reducible (first | refine r_region ?_ | refine r_cond (fun KA hA KB hB => ?_) | refine r_ret ?_ | refine r_exit ?_)); conv => whnf)
 | ((with_reducible refine CallK.id ?_); refine CallK.s1V (by repeat (first | with_reducible apply Rm.head | apply Rm.tail)) (fun ms w hk => works1013 hko w) ?_; conv => whnf)
 | with_reducible apply_assumption -symm -exfalso)
        exact FinK.frZL () rfl (by (try dsimp only [List.cons_append, List.nil_append, den, denL]); refine SelI.spec ?_; (repeat (first | refine SelI.blk (by repeat (first | with_reducible apply Rm.head | apply Rm.tail)) ?_ | refine SelI.ext (by repeat (first | with_reducible apply Rm.head | apply Rm.tail)) ?_ | (refine SelI.blk' (by repeat (first | with_reducible apply Rm.head | apply Rm.tail)) ?_ ?_; focus rfl) | (refine SelI.ext' (by repeat (first | with_reducible apply Rm.head | apply Rm.tail)) ?_ ?_; focus rfl))); exact SelI.nil)
end Go.Proofs.YtjkmpaggfbghiaaGreatDoor

set_option linter.all false
namespace Go.Proofs.YtjkmpaggfbghiaaGreatDoor
open Go Go.X Go.ChangeShapes Go.WideShapes Go.RowKit
set_option maxRecDepth 1000000
set_option maxHeartbeats 0
noncomputable def plainLaid4 : List (String × DataW Unit) := Rows.orchToldRow.laid.filter fun x => x.2.handleName?.isNone
noncomputable def witW4 (os : Os) : World :=
  { World.laidAll Tryz.prog os plainLaid4 with heap := (World.laidAll Tryz.prog os plainLaid4).heap.setIfInBounds 1 (.cells #[.nilFunc, .func (.func 366) #[] #[], .func (.func 367) #[] #[], .func (.func 368) #[] #[]] 282) }
theorem metAll4 (os : Os) (args : Array Value) : laidMetH Tryz.prog Rows.orchToldRow.laid ((witW4 os).forCall (fun _ _ => 0) ⟨#[], args, []⟩).memory :=
  laidMetH_of_parts3 (fuel := 8) (laidMet_of_run' 8 (by kernel_rfl) (by kernel_rfl)) (by kernel_rfl) (by kernel_rfl)
theorem shaped4 (os : Os) : (witW4 os).Shaped Tryz.prog := World.shaped_of_ZipB (by kernel_rfl) (by kernel_rfl)
theorem contract4 (H : Type) (enc : TypeId × Value → H) (W : World) (base : Nat) (args : Array Value) (ds gs : List (DataW H)) (before : List MemPlace)
    (hval : ∀ (j : Nat) t v, Tryz.f4.params[j]? = some t → args[j]? = some v → Value.okWide Tryz.prog W .any base t v)
    (hW : DataW.Whole enc Tryz.prog Tryz.f4.params.toList Rows.orchToldSpec.vars false W args.toList ds gs before) (hL : laidMetH Tryz.prog Rows.orchToldRow.laid W) :
    Calls Tryz.prog 4 args W fun e W' => ∃ v, e = .returned v ∧ Rows.orchToldSpec.post enc Tryz.prog Tryz.f4 false true false false W args v W' := by
  obtain ⟨o0, o1, hko, hh0, hh1⟩ := KObj.of_laid hL (by simp [Rows.orchToldRow]) (by simp [Rows.orchToldRow])
  have hW' := hW
  obtain ⟨p, q, hA0, hV, _, _, _⟩ := hW
  have hA : DataW.TrodAll enc Tryz.prog W 0 (fun _ => true) true Tryz.f4.params.toList args.toList ds p := hA0
  clear hA0
  rw [Tryz.params4] at hA hval
  obtain ⟨rfl, _⟩ := trodVars_none hV
  obtain ⟨v0, vs0, d0, ds0, p0, q0, e0, rfl, _, h0, r0⟩ := trodAll_cons hA
  obtain ⟨v1, vs1, d1, ds1, p1, q1, e1, rfl, _, h1, r1⟩ := trodAll_cons r0
  subst e1
  obtain ⟨e2, rfl, _⟩ := trodAll_nil r1
  subst e2
  obtain rfl : args = #[v0, v1] := by cases args; exact congrArg Array.mk e0
  obtain ⟨sa0, sl0, sc0, rfl, r0z, c0, m0, k0⟩ := moves_arg (hval 0 22 v0 rfl rfl) h0
  obtain ⟨sa1, sl1, sc1, rfl, r1z, c1, m1, k1⟩ := moves_arg (hval 1 22 v1 rfl rfl) h1
  refine (Pu.calls (pu_of_gl hh0 hh1 (orchTold1004 hko r0z c0 m0 k0 r1z c1 m1 k1))).mono fun e W' ⟨he, hb⟩ => ?_
  subst he
  exact ⟨_, rfl, law_post laidOut Tryz.underlying4 (by kernel_rfl) rfl rfl hW' rfl hb⟩
theorem lifted4 (os : Os) (started : os.Started) (H : Type) (enc : TypeId × Value → H) :
    ReturnsInHanded {} Tryz.checked os 4 .any (fun w args => (Rows.orchToldSpec.pre enc Tryz.prog Tryz.f4 Rows.orchToldRow.domain false w args ∧ laidMetH Tryz.prog Rows.orchToldRow.laid w) ∧ sizedMet enc Tryz.prog Tryz.f4 (OpenSpec.ofChange Rows.orchToldSpec) false w args)
      (Rows.orchToldSpec.post enc Tryz.prog Tryz.f4 false true false false) := by
  refine returnsInHanded_of_change_and (C := Tryz.checked) (X := fun w _ => laidMetH Tryz.prog Rows.orchToldRow.laid w) (fun _ _ _ hh h => h.of_heap hh) own started (by kernel_rfl) Tryz.func4
    (ChangeSpec.witness_shaped (enc := enc) (C := Tryz.checked) (os := os) (X := fun w _ => laidMetH Tryz.prog Rows.orchToldRow.laid w) false (witW4 os) #[.slice none 0 0, .slice none 0 0] 8 (World.laidAll_os _ _ _)
      (shaped4 os) (by kernel_rfl) (by kernel_rfl) (by kernel_rfl)
      (metAll4 os _)) ?_
  intro W base args ds gs before hval0 hW _ _ hL _
  exact contract4 H enc W base args ds gs before hval0 hW hL
end Go.Proofs.YtjkmpaggfbghiaaGreatDoor

set_option linter.all false
namespace Go.Proofs.YtjkmpaggfbghiaaGreatDoor
open Go Go.X Go.ChangeShapes Go.WideShapes Go.RowKit
set_option maxRecDepth 1000000
set_option maxHeartbeats 0
theorem facts4 : joinedFacts Tryz.pinned.checked.prog 4 Tryz.f4 Rows.orchToldSpec Rows.orchToldRow = true := by
  unfold joinedFacts
  repeat' (with_reducible refine and_t ?_ ?_)
  all_goals (as_aux_lemma => kernel_rfl)
end Go.Proofs.YtjkmpaggfbghiaaGreatDoor

set_option linter.all false
namespace Go.Proofs.YtjkmpaggfbghiaaGreatDoor
open Go Go.X Go.ChangeShapes Go.WideShapes Go.RowKit
set_option maxRecDepth 1000000
set_option maxHeartbeats 0
theorem said4 : Rows.OrchToldSaid :=
  OpenClaim.holds_of_wide 4 Tryz.f4 rfl rfl rfl rfl rfl rfl rfl ⟨rfl, rfl, rfl, rfl, rfl⟩ rfl rfl rfl rfl rfl (by as_aux_lemma => kernel_rfl) Tryz.func4 facts4
    (of_decide_eq_true (by kernel_rfl)) (by unfold Func.isWrapper; first | (rw [if_pos (by decide +kernel)]; kernel_rfl) | (rw [if_neg (by decide +kernel)]; exact ⟨rfl, rfl⟩))
    (fun os started H enc _ => lifted4 os started H enc)
end Go.Proofs.YtjkmpaggfbghiaaGreatDoor
