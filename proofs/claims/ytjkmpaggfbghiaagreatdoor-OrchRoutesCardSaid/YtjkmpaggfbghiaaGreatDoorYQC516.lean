/- Contracts and lemmas for the claim (part 16); no condition of its own. -/
import Derived.Test.YtjkmpaggfbghiaaGreatDoorYQC500
import Derived.Test.YtjkmpaggfbghiaaGreatDoorYQC515
import Derived.Test.YtjkmpaggfbghiaaGreatDoorCards
import Derived.Test.YtjkmpaggfbghiaaGreatDoorTie
import Derived.ProofKit
import Derived.OpenShut
import Derived.Lay
import Derived.LaidMore
import Derived.LaidHandle
import Derived.Carry
import Derived.MakeChecks
import Derived.Deep.DeepHandedRow
import Derived.ChangeMaps5
import Derived.ChangeSlices
import Derived.Test.YtjkmpaggfbghiaaGreatDoorYQC506
import Derived.Test.YtjkmpaggfbghiaaGreatDoorYQC505
import Derived.Test.YtjkmpaggfbghiaaGreatDoorYQC507
set_option linter.all false
set_option maxRecDepth 100000
set_option maxHeartbeats 0
set_option linter.unusedVariables false
set_option linter.unusedSimpArgs false
set_option linter.unnecessarySimpa false
namespace Go.Proofs.YtjkmpaggfbghiaaGreatDoor
open Go Go.X Go.ChangeShapes Go.WideShapes Go.RowKit
set_option maxRecDepth 1000000
section
variable {H : Type} {enc : TypeId × Value → H} {P : Program}
theorem post_of_below {f : Func} {s : ChangeSpec} {apart fresh handsOn again : Bool} {W W' : World} {args : Array Value} {v : Value} {ds gs : List (DataW H)} {before pa pv : List MemPlace}
    (hW : DataW.Whole enc P f.params.toList s.vars apart W args.toList ds gs before)
    (hres : ∀ (b : Nat) (sp : Nat → Bool) (hd : Bool), DataW.TrodAll enc P W' b sp hd f.resultTypes.toList (v.resultList f.resultTypes.size) (s.fn H (ds ++ gs)).results [])
    (hargs : ∀ sp : Nat → Bool, (∀ p ∈ before, sp p.block = true) → DataW.TrodAll enc P W' 0 sp true f.params.toList args.toList (s.fn H (ds ++ gs)).args pa)
    (hvars : ∀ sp : Nat → Bool, (∀ p ∈ before, sp p.block = true) → DataW.TrodVars enc P W' sp s.vars (s.fn H (ds ++ gs)).vars pv)
    (hps : before = pa ++ pv) (hb : Below W.heap.size W W')
    (hok : ∀ (j : Nat) (t : TypeId) (r : Value), f.resultTypes[j]? = some t → (v.resultList f.resultTypes.size)[j]? = some r → Value.okWide P W' .any 0 t r) :
    s.post enc P f apart fresh handsOn again W args v W' := by
  have hlt : ∀ p ∈ before, p.block < W.heap.size := fun p hp => hW.lt p hp
  have hold : ∀ p ∈ before, (fun b => decide (b < W.heap.size)) p.block = true := fun p hp => by simpa using hlt p hp
  refine ⟨ds, gs, before, [], pa, pv, hW, hres _ _ _, hargs _ hold, hvars _ hold, World.keptBut_mono (fun p hp => ⟨hp, ?_⟩) (hb.frame (· ∈ before)), fun _ => ?_⟩
  · rw [hps, List.mem_append] at hp
    exact Or.inr hp
  · obtain ⟨_, _, _, _, _, hz, hn⟩ := hW
    refine ⟨hok, _, _, ([] ++ pa) ++ pv, ⟨[] ++ pa, pv, trodAll_append (hargs _ (fun _ _ => rfl)) (hres _ _ _), hvars _ (fun _ _ => rfl), rfl, ?_, ?_⟩, ?_⟩
    · intro b off hp
      have hin : MemPlace.cell b off ∈ before := by rw [hps]; simpa using hp
      rw [hb.frozen (hlt _ hin)]
      exact hz b off hin
    · intro ha
      have := hn ha
      rw [hps] at this
      simpa using this
    · intro p hp _
      rw [hps]
      simpa using hp
end
theorem and_t {a b : Bool} (h : a = true) (h' : b = true) : (a && b) = true := by rw [h, h']; rfl
theorem own : ownKnob Tryz.prog.godebug = none := by kernel_rfl
theorem laidOut : laidOutB Tryz.prog = true := by kernel_rfl
section
variable {H : Type} {enc : TypeId × Value → H} {P : Program} {W W' : World} {sp : Nat → Bool}
theorem trodAll_below (hl : laidOutB P = true) (hb : Below W.heap.size W W') : ∀ {ts : List TypeId} {vs : List Value} {ds : List (DataW H)} {ps : List MemPlace}, (ts.all fun t => P.readableRec t && decide (t < P.types.size)) = true →
    DataW.TrodAll enc P W 0 (fun _ => true) true ts vs ds ps → (∀ x ∈ ps, x.block < W.heap.size) → (∀ x ∈ ps, sp x.block = true) → DataW.TrodAll enc P W' 0 sp true ts vs ds ps := by
  intro ts
  induction ts with
  | nil =>
    intro vs ds ps _ h _ _
    obtain ⟨rfl, rfl, rfl⟩ := trodAll_nil h
    rfl
  | cons t ts ih =>
    intro vs ds ps hr h hlt hsp
    obtain ⟨v, vs', d, ds', p, q, rfl, rfl, rfl, h1, h2⟩ := trodAll_cons h
    rw [List.all_cons, Bool.and_eq_true, Bool.and_eq_true] at hr
    exact trodAll_cons_mk (WideElems.Trod_stays hl hr.1.1 (of_decide_eq_true hr.1.2) h1 (fun x hx => hb.same (hlt x (List.mem_append_left _ hx))) (fun x hx => hsp x (List.mem_append_left _ hx)))
      (ih hr.2 h2 (fun x hx => hlt x (List.mem_append_right _ hx)) (fun x hx => hsp x (List.mem_append_right _ hx)))
theorem law_post {f : Func} {s : ChangeSpec} {t4 : TypeId} {args : Array Value} {ds gs : List (DataW H)} {before : List MemPlace} (hl : laidOutB P = true) (h4 : P.underlying t4 = some .bool)
    (hr : (f.params.toList.all fun t => P.readableRec t && decide (t < P.types.size)) = true) (hres : f.resultTypes = #[t4]) (hv : s.vars = [])
    (hW : DataW.Whole enc P f.params.toList s.vars false W args.toList ds gs before) (hfn : s.fn H (ds ++ gs) = { results := [.lit (.bool true)], args := ds }) (hb : Below W.heap.size W W') :
    s.post enc P f false true false false W args (.bool true) W' := by
  have hlt : ∀ p ∈ before, p.block < W.heap.size := fun p hp => hW.lt p hp
  have hW2 := hW
  obtain ⟨p, q, hA, hV, hbef, _⟩ := hW2
  rw [hv] at hV
  obtain ⟨_, rfl⟩ := trodVars_none hV
  have hfa : (s.fn H (ds ++ gs)).args = ds := by rw [hfn]
  have hfr : (s.fn H (ds ++ gs)).results = [.lit (.bool true)] := by rw [hfn]
  have hfv : (s.fn H (ds ++ gs)).vars = [] := by rw [hfn]
  refine post_of_below (pa := p) (pv := []) hW (fun b sp hd => ?_) (fun sp hsp => ?_) (fun sp _ => ?_) hbef hb (ok_one hres rfl (okWide_bool_mk h4 _))
  · rw [hfr, hres]; exact trodAll_mk1 (shut_bool h4 _)
  · rw [hfa]
    exact trodAll_below hl hb hr hA (fun x hx => hlt x (by rw [hbef]; exact List.mem_append_left _ hx)) (fun x hx => hsp x (by rw [hbef]; exact List.mem_append_left _ hx))
  · rw [hfv, hv]; rfl
end
theorem laidMetH.plain {P : Program} {l : List (String × DataW Unit)} {w : World} (h : laidMetH P l w) : laidMet P (l.filter fun x => x.2.handleName?.isNone) w := by
  unfold laidMetH at h
  generalize hfl : (l.filter fun x => x.2.handleName?.isSome) = fl at h
  cases fl with
  | nil =>
    have e : (l.filter fun x => x.2.handleName?.isNone) = l := by
      rw [List.filter_eq_self]
      intro x hx
      have := (List.filter_eq_nil_iff.1 hfl) x hx
      cases hn : x.2.handleName? with
      | none => rfl
      | some s => rw [hn] at this; exact absurd rfl this
    rw [e]
    exact h
  | cons q qs => exact h.1
theorem KObj.of_laid {l : List (String × DataW Unit)} {W : World} (h : laidMetH Tryz.prog l W) (hm1 : ("skald/saga.phases", Rows.laid_skald_saga_phases) ∈ l) (hm2 : ("skald/saga.follow", Rows.laid_skald_saga_follow) ∈ l) :
    ∃ o0 o1, KObj o0 o1 ∧ W.heap[0]? = some o0 ∧ W.heap[1]? = some o1 := by
  obtain ⟨t1, h1⟩ := laid_ints (laidMetH.plain h) (n := "skald/saga.phases") (k := .i64) (zs := [0, 1, 3, 2]) (List.mem_filter.2 ⟨hm1, by kernel_rfl⟩) (g := 0) (by kernel_rfl) (t := 135) (e := 3) (by kernel_rfl) Tryz.underlying135 Tryz.underlying3 (by kernel_rfl) (by kernel_rfl) (by decide)
  obtain ⟨t0, f0, h0⟩ := laid_fns h (n := "skald/saga.follow") (ds := [.nil, .iface "func" (.lit (.string [40, 115, 107, 97, 108, 100, 47, 115, 97, 103, 97, 46, 83, 97, 103, 97, 41, 46, 102, 111, 114, 119, 97, 114, 100])), .iface "func" (.lit (.string [40, 115, 107, 97, 108, 100, 47, 115, 97, 103, 97, 46, 83, 97, 103, 97, 41, 46, 102, 114, 101, 101])), .iface "func" (.lit (.string [40, 115, 107, 97, 108, 100, 47, 115, 97, 103, 97, 46, 83, 97, 103, 97, 41, 46, 117, 110, 100, 111]))]) hm2 (g := 1) (by kernel_rfl) (t := 282) (e := 281) (by kernel_rfl) Tryz.underlying282 Tryz.underlying281 (by kernel_rfl) (by kernel_rfl)
    (.z (.f "(skald/saga.Saga).forward" (by kernel_rfl) (by kernel_rfl) (.f "(skald/saga.Saga).free" (by kernel_rfl) (by kernel_rfl) (.f "(skald/saga.Saga).undo" (by kernel_rfl) (by kernel_rfl) .nil))))
  exact ⟨_, _, ⟨⟨t1, (0, 0), rfl⟩, ⟨t0, f0, rfl⟩⟩, h1, h0⟩
theorem pu_of_gl {P : Program} {f : FuncId} {args : Array Value} {w : World} {o0 o1 : Obj} (h0 : w.heap[0]? = some o0) (h1 : w.heap[1]? = some o1)
    (h : FrZ P f args w (AssL [.ext 9 (GlX o0 o1)]) (fun _ : Unit => .bool true) (fun _ => AssL [.ext 9 (GlA o0 o1)])) : Pu P f args w (.bool true) := by
  have l0 : 0 < w.heap.size := (Array.getElem?_eq_some_iff.1 h0).1
  have l1 : 1 < w.heap.size := (Array.getElem?_eq_some_iff.1 h1).1
  refine (h (fun k => (k = 0 ∨ k = 1) ∨ False) (.cons (x := .ext 9 (GlX o0 o1)) (S := fun k => k = 0 ∨ k = 1) ⟨fun _ hk => hk, ⟨.inl rfl, .inr rfl⟩, h0, h1⟩ (by rintro k (rfl | rfl) <;> assumption) .nil (fun _ _ hk => hk)) (by
    rintro k ((rfl | rfl) | hk)
    · exact l0
    · exact l1
    · exact hk.elim)).mono ?_
  rintro e w' ⟨_, rfl, he, S', hA, _⟩
  have hA : Holds w' [.ext 9 (GlA o0 o1)] S' := hA
  cases hA with
  | @cons _ _ S1 T1 hx hb hH hd =>
    obtain ⟨_, g0, g1⟩ := hx
    refine ⟨rfl, he.os, he.tape, he.output, he.size, fun k hk => ?_⟩
    by_cases e0 : k = 0
    · subst e0; rw [g0, h0]
    · by_cases e1 : k = 1
      · subst e1; rw [g1, h1]
      · exact he.old k hk (fun e => e.elim (fun e => e.elim e0 e1) id)
theorem wf_u16 {n : Int} (h : (Lit.int .u16 n).wf = true) : 0 ≤ n ∧ n ≤ 65535 := by
  simp [Lit.wf, IntKind.min, IntKind.max, IntKind.signed, IntKind.bits] at h; omega
theorem wf_u8 {n : Int} (h : (Lit.int .u8 n).wf = true) : 0 ≤ n ∧ n ≤ 255 := by
  simp [Lit.wf, IntKind.min, IntKind.max, IntKind.signed, IntKind.bits] at h; omega
section
variable {H : Type} {enc : TypeId × Value → H} {w : World} {base : Nat} {sp : Nat → Bool} {held : Bool}
theorem move_cells {fuel : Nat} {cs : List Value} {x : DataW H × List MemPlace} (h : DataW.trod enc Tryz.prog w base sp held fuel 46 cs = some x) : ∃ a b : Nat, cs = [.int .u8 (a : Nat), .int .u16 (b : Nat)] ∧ a ≤ 255 ∧ b ≤ 65535 := by
  obtain ⟨xs, n, _, _, hl, hxl, hall⟩ := DataW.trod_struct Tryz.underlying46 h
  have hC : Tryz.prog.cellsOf 46 = 2 := by kernel_rfl
  have hC5 : Tryz.prog.cellsOf 5 = 1 := by kernel_rfl
  have hC44 : Tryz.prog.cellsOf 44 = 1 := by kernel_rfl
  rw [hC] at hl
  match cs, hl with
  | [c0, c1], _ =>
  match xs, hxl with
  | [y0, y1], _ =>
  have q0 := hall 0 _ rfl
  have e0 : DataW.trod enc Tryz.prog w base sp held n 5 (([c0, c1].drop 0).take (Tryz.prog.cellsOf 5)) = some y0 := q0
  rw [hC5] at e0
  have q1 := hall 1 _ rfl
  have e1 : DataW.trod enc Tryz.prog w base sp held n 44 (([c0, c1].drop 1).take (Tryz.prog.cellsOf 44)) = some y1 := q1
  rw [hC44] at e1
  obtain ⟨z0, f0, _, g0⟩ := DataW.trod_int Tryz.underlying5 e0
  obtain ⟨z1, f1, _, g1⟩ := DataW.trod_int Tryz.underlying44 e1
  simp only [List.drop_zero, List.take_succ_cons, List.take_zero, List.drop_succ_cons, List.cons.injEq, and_true] at f0 f1
  have b0 := wf_u8 g0
  have b1 := wf_u16 g1
  refine ⟨z0.toNat, z1.toNat, ?_, by omega, by omega⟩
  rw [f0, f1, Int.toNat_of_nonneg b0.1, Int.toNat_of_nonneg b1.1]
end
theorem maxLen_le {n : Nat} (h : n ≤ maxLen) : n ≤ 9223372036854775807 := h
theorem moves_arg {H : Type} {enc : TypeId × Value → H} {W : World} {v : Value} {d : DataW H} {ps : List MemPlace} {base : Nat} (hval : Value.okWide Tryz.prog W .any base 22 v) (h : DataW.Trod enc Tryz.prog W 0 (fun _ => true) true 22 v d ps) :
    ∃ (a : Option Addr) (l : List (Nat × Nat)) (cap : Nat), v = .slice a l.length cap ∧ RdB W a (lmC l) ∧ l.length ≤ cap ∧ l.length ≤ 9223372036854775807 ∧ ∀ m ∈ l, m.1 ≤ 255 ∧ m.2 ≤ 65535 := by
  obtain ⟨a, len, cap, rfl⟩ := okWide_slice Tryz.underlying22 hval
  obtain ⟨fuel, hf⟩ := h
  rcases DataW.trod_slice Tryz.underlying22 hf with ⟨h1, _⟩ | ⟨a', len', cap', elems, rest, n, _, h1, _, _, hl, hm, hlen, hel, _, _⟩
  · simp [Value.cells] at h1
    obtain ⟨rfl, rfl, rfl⟩ := h1
    exact ⟨none, [], 0, rfl, fun i v hi => by simp at hi, Nat.le_refl _, Nat.zero_le _, fun m hm => by cases hm⟩
  · simp [Value.cells] at h1
    obtain ⟨rfl, rfl, rfl⟩ := h1
    have hC : Tryz.prog.cellsOf 46 = 2 := by kernel_rfl
    rw [hC] at hel
    have each : ∀ i, i < len → ∃ m : Nat × Nat, (W.cell? (a'.add (i * 2)) = some (.int .u8 (m.1 : Nat)) ∧ W.cell? ((a'.add (i * 2)).add 1) = some (.int .u16 (m.2 : Nat))) ∧ m.1 ≤ 255 ∧ m.2 ≤ 65535 := by
      intro i hi
      have h2 := hel i hi
      rw [List.getElem?_eq_getElem (by omega), Option.bind_eq_some_iff] at h2
      obtain ⟨cs, h3, h4⟩ := h2
      obtain ⟨x, y, rfl, hx, hy⟩ := move_cells h4
      have h5 := (World.cells?_some h3).2.2
      refine ⟨(x, y), ⟨?_, ?_⟩, hx, hy⟩
      · have := h5 0 (by omega)
        simpa [Addr.add] using this
      · have := h5 1 (by omega)
        simpa using this
    have hz : a'.spot = none ∨ len = 0 := by
      rcases Nat.eq_zero_or_pos len with h0 | h0
      · exact .inr h0
      · left
        obtain ⟨m, ⟨h2, _⟩, _⟩ := each 0 h0
        obtain ⟨b, off, spot⟩ := a'
        simp only [Addr.add, Nat.zero_mul, if_pos, World.cell?] at h2
        split at h2
        · cases spot with
          | none => rfl
          | some s => simp at h2
        · cases h2
    obtain ⟨l, hl2, hlr⟩ : ∃ l : List (Nat × Nat), l.length = len ∧ ∀ i m, l[i]? = some m → (W.cell? (a'.add (i * 2)) = some (.int .u8 (m.1 : Nat)) ∧ W.cell? ((a'.add (i * 2)).add 1) = some (.int .u16 (m.2 : Nat))) ∧ m.1 ≤ 255 ∧ m.2 ≤ 65535 := by
      refine ⟨(List.range len).map fun i => if hi : i < len then Classical.choose (each i hi) else (0, 0), by simp, fun i m hm => ?_⟩
      have hi : i < len := by
        have := (List.getElem?_eq_some_iff.1 hm).1
        simpa using this
      rw [List.getElem?_map, List.getElem?_range hi] at hm
      simp only [Option.map_some, dif_pos hi, Option.some.injEq] at hm
      subst hm
      exact Classical.choose_spec (each i hi)
    subst hl2
    refine ⟨some a', l, cap, rfl, ?_, hl, by have := maxLen_le hm; omega, fun m hm => ?_⟩
    · intro i v hi
      have hlen2 : (lmC l).length = l.length * 2 := flat_len (k := 2) (fun _ => rfl) l
      have hil := (List.getElem?_eq_some_iff.1 hi).1
      rw [hlen2] at hil
      have hq : i / 2 < l.length := by omega
      have hg := flat_get (enc := fun m : Nat × Nat => [Value.int .u8 ((m.1 : Nat) : Int), Value.int .u16 ((m.2 : Nat) : Int)]) (k := 2) (fun _ => rfl) (by decide) l i
      rw [show (lmC l)[i]? = _ from hg, List.getElem?_eq_getElem hq, Option.bind_some] at hi
      obtain ⟨⟨r1, r2⟩, _⟩ := hlr (i / 2) _ (List.getElem?_eq_getElem hq)
      have hsp : a'.spot = none := hz.resolve_right (by omega)
      obtain ⟨b, off, spot⟩ := a'
      dsimp only at hsp
      subst hsp
      have add_of : ∀ n, (⟨b, off, none⟩ : Addr).add n = ⟨b, off + n, none⟩ := by
        intro n
        unfold Addr.add
        split
        · rename_i e; subst e; rfl
        · rfl
      rw [add_of] at r1 r2
      rw [show ((⟨b, off + i / 2 * 2, none⟩ : Addr).add 1) = ⟨b, off + i / 2 * 2 + 1, none⟩ from rfl] at r2
      have hmod : i % 2 = 0 ∨ i % 2 = 1 := by omega
      rcases hmod with hmod | hmod
      · rw [hmod] at hi
        have hv : Value.int .u8 ((l[i / 2].1 : Nat) : Int) = v := by simpa using hi
        rw [hv, show i / 2 * 2 = i by omega] at r1
        simp only [World.cell?] at r1
        split at r1
        · rename_i C t f hh
          exact ⟨b, off, C, t, f, rfl, hh, by simpa using r1⟩
        · cases r1
      · rw [hmod] at hi
        have hv : Value.int .u16 ((l[i / 2].2 : Nat) : Int) = v := by simpa using hi
        rw [hv, show off + i / 2 * 2 + 1 = off + i by omega] at r2
        simp only [World.cell?] at r2
        split at r2
        · rename_i C t f hh
          exact ⟨b, off, C, t, f, rfl, hh, by simpa using r2⟩
        · cases r2
    · obtain ⟨i, hi⟩ := List.mem_iff_getElem?.1 hm
      exact (hlr i m hi).2
end Go.Proofs.YtjkmpaggfbghiaaGreatDoor

namespace Go.Proofs.YtjkmpaggfbghiaaGreatDoor
open Go Go.X
theorem noIndex1054 {L : List OM.Item} {x : OM.Item} {a : Option Addr} {cap : Nat} {w : World} (hr : RdS w 31 6 a L.length cap (L.flatMap itC)) (hx : x ∉ L) (hl : L.length ≤ 1000) :
    Pu Tryz.prog 54 #[.slice a L.length cap, .agg (denL (itV x)).toArray] w (.int .i64 (-1)) := by
  have sa := fun n' r H => Sees.old (c := ⟨Tryz.prog, TB, n', w, noS, r, TBok⟩) (H := H) hr.old
  refine enter_sound TBok Tryz.func54 rfl rfl Tryz.ntmps54 [.v (.slice a L.length cap), .agg (itV x)] (Kn.start w noS) rfl rfl ?_
  conv => whnf
  repeat' (first
 | with_reducible ((first | refine r_seq (fun KS hS => ?_) | (refine hS _ _ ?_; clear hS KS) | refine r_block ?_))
 | ((with_reducible (first | refine r_region ?_ | intro b)); conv => whnf))
  refine r_loop (α := Nat) (fun i => [(0, .v (.slice a L.length cap)), (3, .loc b 0 0), (7, .v (.int .i64 L.length)), (8, .v (.int .i64 (i : Nat)))]) (fun _ => [.blk 0 b (itV x) 31]) (fun i => i ≤ L.length) (fun i => L.length - i) 0 (Nat.zero_le _) (by repeat' (first | exact Sub.nil | (refine Sub.cons rfl rfl ?_))) (by (try dsimp only [List.cons_append, List.nil_append, den, denL]); refine SelI.spec ?_; (repeat (first | refine SelI.blk (by repeat (first | with_reducible apply Rm.head | apply Rm.tail)) ?_ | refine SelI.ext (by repeat (first | with_reducible apply Rm.head | apply Rm.tail)) ?_ | (refine SelI.blk' (by repeat (first | with_reducible apply Rm.head | apply Rm.tail)) ?_ ?_; focus rfl) | (refine SelI.ext' (by repeat (first | with_reducible apply Rm.head | apply Rm.tail)) ?_ ?_; focus rfl))); exact SelI.nil) ?_
  intro i hi KL hL2
  by_cases hlt : i < L.length
  · obtain ⟨y, hy⟩ : ∃ y, L[i]? = some y := ⟨_, List.getElem?_eq_getElem hlt⟩
    have hne : (x == y) = false := by
      have hm := List.mem_of_getElem? hy
      rw [beq_eq_false_iff_ne]
      rintro rfl
      exact hx hm
    have hcomp := (itEq x y).trans hne
    repeat' (first
 | with_reducible ((first | refine r_seq (fun KS hS => ?_) | (refine hS _ _ ?_; clear hS KS) | (refine hA _ ?_; clear hA KA) | (refine hB _ ?_; clear hB KB) | refine r_block ?_))
 | ((with_reducible (first | refine r_region ?_ | refine r_cond (fun KA hA KB hB => ?_) | refine r_skip ?_ | refine And.intro rfl ?_)); conv => whnf)
 | ((with_reducible refine WrapK.i64 ?_ ?_); (focus omega); conv => whnf)
 | ((with_reducible refine QK.id ?_); (first | refine QK.idx (k := 6) rfl rfl rfl rfl rfl rfl rfl (sa _ _ _) (by omega) (by omega) (it_at hy) (fun b off hp => ?_) | refine QK.ldp rfl rfl hp (List.cons_ne_nil _ _) ?_); conv => whnf)
 | ((with_reducible refine IK.id ?_); refine IK.eqV sok2 rfl rfl rfl ?_; conv => whnf)
 | (refine if_f hcomp ?_; conv => whnf)
 | (refine hL2 (i + 1) _ _ (by show i + 1 ≤ _; omega) (by show L.length - (i + 1) < L.length - i; omega) (by repeat' (first | exact Sub.nil | (refine Sub.cons rfl rfl ?_))) (by (try dsimp only [List.cons_append, List.nil_append, den, denL]); refine SelI.spec ?_; (repeat (first | refine SelI.blk (by repeat (first | with_reducible apply Rm.head | apply Rm.tail)) ?_ | refine SelI.ext (by repeat (first | with_reducible apply Rm.head | apply Rm.tail)) ?_ | (refine SelI.blk' (by repeat (first | with_reducible apply Rm.head | apply Rm.tail)) ?_ ?_; focus rfl) | (refine SelI.ext' (by repeat (first | with_reducible apply Rm.head | apply Rm.tail)) ?_ ?_; focus rfl))); exact SelI.nil))
 | (apply r_quiet; refine mixed; kernel_rfl; kernel_rfl; kernel_rfl; conv => whnf)
 | (refine if_decT (by omega) ?_; conv => whnf)
 | with_reducible apply_assumption -symm -exfalso)
  · obtain rfl : i = L.length := by omega
    repeat' (first
 | with_reducible ((first | refine r_seq (fun KS hS => ?_) | (refine hS _ _ ?_; clear hS KS) | (refine hB _ ?_; clear hB KB)))
 | ((with_reducible (first | refine r_region ?_ | refine r_cond (fun KA hA KB hB => ?_) | refine r_ret ?_ | refine r_exit ?_)); conv => whnf)
 | (refine if_decF (by omega) ?_; conv => whnf)
 | with_reducible apply_assumption -symm -exfalso)
    exact FinK.pu rfl
theorem index1054 {L : List OM.Item} {x : OM.Item} {a : Option Addr} {cap j : Nat} {w : World} (hr : RdS w 31 6 a L.length cap (L.flatMap itC)) (hj : L.findIdx (fun y => x == y) = j) (hjl : j < L.length) (hl : L.length ≤ 1000) :
    Pu Tryz.prog 54 #[.slice a L.length cap, .agg (denL (itV x)).toArray] w (.int .i64 (j : Nat)) := by
  have sa := fun n' r H => Sees.old (c := ⟨Tryz.prog, TB, n', w, noS, r, TBok⟩) (H := H) hr.old
  refine enter_sound TBok Tryz.func54 rfl rfl Tryz.ntmps54 [.v (.slice a L.length cap), .agg (itV x)] (Kn.start w noS) rfl rfl ?_
  conv => whnf
  repeat' (first
 | with_reducible ((first | refine r_seq (fun KS hS => ?_) | (refine hS _ _ ?_; clear hS KS) | refine r_block ?_))
 | ((with_reducible (first | refine r_region ?_ | intro b)); conv => whnf))
  refine r_loop (α := Nat) (fun i => [(0, .v (.slice a L.length cap)), (3, .loc b 0 0), (7, .v (.int .i64 L.length)), (8, .v (.int .i64 (i : Nat)))]) (fun _ => [.blk 0 b (itV x) 31]) (fun i => i ≤ j) (fun i => L.length - i) 0 (Nat.zero_le _) (by repeat' (first | exact Sub.nil | (refine Sub.cons rfl rfl ?_))) (by (try dsimp only [List.cons_append, List.nil_append, den, denL]); refine SelI.spec ?_; (repeat (first | refine SelI.blk (by repeat (first | with_reducible apply Rm.head | apply Rm.tail)) ?_ | refine SelI.ext (by repeat (first | with_reducible apply Rm.head | apply Rm.tail)) ?_ | (refine SelI.blk' (by repeat (first | with_reducible apply Rm.head | apply Rm.tail)) ?_ ?_; focus rfl) | (refine SelI.ext' (by repeat (first | with_reducible apply Rm.head | apply Rm.tail)) ?_ ?_; focus rfl))); exact SelI.nil) ?_
  intro i hi KL hL2
  have hlt : i < L.length := by omega
  obtain ⟨y, hy⟩ : ∃ y, L[i]? = some y := ⟨_, List.getElem?_eq_getElem hlt⟩
  have hyi := (List.getElem?_eq_some_iff.1 hy).2
  by_cases hij : i < j
  · have hne : (x == y) = false := by
      have := List.not_of_lt_findIdx (p := fun y => x == y) (xs := L) (i := i) (by omega)
      rw [hyi] at this
      simpa using this
    have hcomp := (itEq x y).trans hne
    repeat' (first
 | with_reducible ((first | refine r_seq (fun KS hS => ?_) | (refine hS _ _ ?_; clear hS KS) | (refine hA _ ?_; clear hA KA) | (refine hB _ ?_; clear hB KB) | refine r_block ?_))
 | ((with_reducible (first | refine r_region ?_ | refine r_cond (fun KA hA KB hB => ?_) | refine r_skip ?_ | refine And.intro rfl ?_)); conv => whnf)
 | ((with_reducible refine WrapK.i64 ?_ ?_); (focus omega); conv => whnf)
 | ((with_reducible refine QK.id ?_); (first | refine QK.idx (k := 6) rfl rfl rfl rfl rfl rfl rfl (sa _ _ _) (by omega) (by omega) (it_at hy) (fun b off hp => ?_) | refine QK.ldp rfl rfl hp (List.cons_ne_nil _ _) ?_); conv => whnf)
 | ((with_reducible refine IK.id ?_); refine IK.eqV sok2 rfl rfl rfl ?_; conv => whnf)
 | (refine if_f hcomp ?_; conv => whnf)
 | (refine hL2 (i + 1) _ _ (by show i + 1 ≤ _; omega) (by show L.length - (i + 1) < L.length - i; omega) (by repeat' (first | exact Sub.nil | (refine Sub.cons rfl rfl ?_))) (by (try dsimp only [List.cons_append, List.nil_append, den, denL]); refine SelI.spec ?_; (repeat (first | refine SelI.blk (by repeat (first | with_reducible apply Rm.head | apply Rm.tail)) ?_ | refine SelI.ext (by repeat (first | with_reducible apply Rm.head | apply Rm.tail)) ?_ | (refine SelI.blk' (by repeat (first | with_reducible apply Rm.head | apply Rm.tail)) ?_ ?_; focus rfl) | (refine SelI.ext' (by repeat (first | with_reducible apply Rm.head | apply Rm.tail)) ?_ ?_; focus rfl))); exact SelI.nil))
 | (apply r_quiet; refine mixed; kernel_rfl; kernel_rfl; kernel_rfl; conv => whnf)
 | (refine if_decT (by omega) ?_; conv => whnf)
 | with_reducible apply_assumption -symm -exfalso)
  · obtain rfl : i = j := by omega
    have hye : (x == y) = true := by
      have := List.findIdx_getElem (p := fun y => x == y) (xs := L) (w := by omega)
      simp only [hj] at this
      rw [hyi] at this
      exact this
    have hcomp := (itEq x y).trans hye
    repeat' (first
 | with_reducible ((first | refine r_seq (fun KS hS => ?_) | (refine hS _ _ ?_; clear hS KS) | (refine hA _ ?_; clear hA KA) | refine r_block ?_))
 | ((with_reducible (first | refine r_region ?_ | refine r_cond (fun KA hA KB hB => ?_) | refine r_ret ?_ | refine r_skip ?_ | refine And.intro rfl ?_)); conv => whnf)
 | ((with_reducible refine QK.id ?_); (first | refine QK.idx (k := 6) rfl rfl rfl rfl rfl rfl rfl (sa _ _ _) (by omega) (by omega) (it_at hy) (fun b off hp => ?_) | refine QK.ldp rfl rfl hp (List.cons_ne_nil _ _) ?_); conv => whnf)
 | ((with_reducible refine IK.id ?_); refine IK.eqV sok2 rfl rfl rfl ?_; conv => whnf)
 | (refine if_t hcomp ?_; conv => whnf)
 | (apply r_quiet; refine mixed; kernel_rfl; kernel_rfl; kernel_rfl; conv => whnf)
 | (refine if_decT (by omega) ?_; conv => whnf)
 | with_reducible apply_assumption -symm -exfalso)
    exact FinK.pu rfl
theorem contains1016 {L : List OM.Item} {x : OM.Item} {a : Option Addr} {cap : Nat} {w : World} (hr : RdS w 31 6 a L.length cap (L.flatMap itC)) (hl : L.length ≤ 1000) {r : Bool} (hrb : r = true ↔ x ∈ L) :
    Pu Tryz.prog 16 #[.slice a L.length cap, .agg (denL (itV x)).toArray] w (.bool r) := by
  have sa := fun n' r H => Sees.old (c := ⟨Tryz.prog, TB, n', w, noS, r, TBok⟩) (H := H) hr.old
  by_cases hx : x ∈ L
  · obtain ⟨j, hj⟩ : ∃ j, L.findIdx (fun y => x == y) = j := ⟨_, rfl⟩
    have hjl : j < L.length := by
      rw [← hj]
      exact List.findIdx_lt_length_of_exists ⟨x, hx, beq_self_eq_true x⟩
    rw [hrb.2 hx]
    refine enter_sound TBok Tryz.func16 rfl rfl Tryz.ntmps16 [.v (.slice a L.length cap), .agg (itV x)] (Kn.start w noS) rfl rfl ?_
    conv => whnf
    repeat' (first
 | with_reducible ((first | refine r_seq (fun KS hS => ?_) | (refine hS _ _ ?_; clear hS KS)))
 | ((with_reducible (first | refine r_region ?_ | refine r_ret ?_ | refine And.intro rfl ?_ | intro b)); conv => whnf)
 | ((with_reducible refine CallK.at 54 ?_); refine CallK.puW (fun ms w hk => index1054 (Sees.rd (sa _ _ _) hk) hj hjl hl) ?_; conv => whnf))
    exact FinK.pu (by show Value.bool (decide (_ ≤ _)) = _; rw [decide_eq_true (by omega)])
  · have : r = false := by
      cases r with
      | false => rfl
      | true => exact absurd (hrb.1 rfl) hx
    rw [this]
    refine enter_sound TBok Tryz.func16 rfl rfl Tryz.ntmps16 [.v (.slice a L.length cap), .agg (itV x)] (Kn.start w noS) rfl rfl ?_
    conv => whnf
    repeat' (first
 | with_reducible ((first | refine r_seq (fun KS hS => ?_) | (refine hS _ _ ?_; clear hS KS)))
 | ((with_reducible (first | refine r_region ?_ | refine r_ret ?_ | refine And.intro rfl ?_ | intro b)); conv => whnf)
 | ((with_reducible refine CallK.at 54 ?_); refine CallK.puW (fun ms w hk => noIndex1054 (Sees.rd (sa _ _ _) hk) hx hl) ?_; conv => whnf))
    exact FinK.pu rfl
end Go.Proofs.YtjkmpaggfbghiaaGreatDoor

namespace Go.Proofs.YtjkmpaggfbghiaaGreatDoor
open Go Go.X
abbrev inX (j : Nat) : OM.Item := ⟨OM.zEff, ((j + 1 : Nat) : Int), true, 2⟩
end Go.Proofs.YtjkmpaggfbghiaaGreatDoor

namespace Go.Proofs.YtjkmpaggfbghiaaGreatDoor
open Go Go.X
theorem cmd8_1018 {d n : Nat} {o : OM.St} {o0 o1 : Obj} (hko : KObj o0 o1) (hI : OM.Inv o) (hn : n ≤ 65535) (w : World) :
    Fr Tryz.prog 18 #[.agg #[.int .u8 8, .int .u16 (n : Nat)], pv d] w (AssL [.ext 12 (OrchA d o), .ext 9 (GlA o0 o1)]) (.agg (denL (cmV (OM.mvCmd n) none 0 0)).toArray) (AssL [.ext 12 (OrchA d o), .ext 9 (GlA o0 o1), .ext 8 (dfA OM.zDef none 0)]) := by
  have h := command1018 (d := d) (kd := 8) hko hI (by decide) hn w
  have e := OM.cmdOf8 o n
  generalize OM.cmdOf o 8 n = c at h e
  subst e
  intro S hS hlt
  refine (h S hS hlt).mono ?_
  rintro e w' ⟨⟨z, hz⟩, rfl, hp⟩
  obtain rfl : z = (none, 0) := hz (by show ¬ (14 : Int) = 11; decide)
  exact ⟨rfl, hp⟩
def oldF (o : OM.St) (i : Nat) : ByteArray → Option Value := fun s => if (List.range i).any (fun k => OM.eqS (OM.nameB k) s) = true then some (.int .i64 (o.route s)) else none
theorem oldF_zero {o : OM.St} : oldF o 0 = fun _ => none := by funext s; rfl
theorem oldF_put {o : OM.St} {i : Nat} : putKT (oldF o i) (OM.nameB i) (.int .i64 (o.route (OM.nameB i))) = oldF o (i + 1) := by
  funext s
  unfold putKT oldF
  rw [List.range_succ, List.any_append]
  by_cases h : s = OM.nameB i
  · subst h
    rw [if_pos rfl, if_pos]
    simp [OM.eqS]
  · rw [if_neg h]
    have : OM.eqS (OM.nameB i) s = false := by unfold OM.eqS; exact decide_eq_false fun e => h e.symm
    simp [this]
theorem oldF_get {o : OM.St} {i k : Nat} (h : k < i) : oldF o i (OM.nameB k) = some (.int .i64 (o.route (OM.nameB k))) := by
  unfold oldF
  rw [if_pos]
  exact List.any_eq_true.2 ⟨k, List.mem_range.2 h, by unfold OM.eqS; exact decide_eq_true rfl⟩
def rgt5 : Nat → Code → Code
  | 0, c => c
  | n + 1, .seq _ b => rgt5 n b
  | _ + 1, c => c
def lft5 : Code → Code
  | .seq a _ => a
  | c => c
def bdy5 : Code → Code
  | .block _ c => c
  | .loop c => c
  | c => c
abbrev mvK (r : OM.Rg) (g : Int) : OM.Cmd := { OM.zCmd with kind := 14, r := r, group := g }
theorem routes_rest {d b6 b14 mm : Nat} {rg : OM.Rg} {fr to : Int} {o s : OM.St} {o0 o1 : Obj} {w : World} {S : Nat → Prop} (hko : KObj o0 o1) (hIo : OM.Inv o) (hrok : rg.ok = true) (hIs : OM.Inv s) (hrts : ∀ k, OM.nmOk k = true → s.route k = if rg.has k = true then to else o.route k) :
    Run ⟨Tryz.prog, TB, 228, w, S, none, TBok⟩ (rgt5 13 (Tryz.f5.body.getD .skip)) [(5, .v (pv d)), (6, .loc b6 70 0), (7, .v (.map (some mm)))] [.blk 70 b6 (cmV (mvK rg to) none 0 0) 42, .ext 12 (OrchA d s), .ext 9 (GlA o0 o1), .ext 8 (dfA OM.zDef none 0), .ext 60 (MpKT mm (oldF o 16))]
      (endF ⟨Tryz.prog, TB, 228, w, S, none, TBok⟩ Tryz.f5.results.toList (fun e w' => ∃ _ : Unit, e = .returned (.bool true) ∧ FPost S w (AssL [.ext 9 (GlA o0 o1)]) w')) := by
  conv => arg 2; whnf
  repeat' (first
 | with_reducible ((first | refine r_seq (fun KS hS => ?_) | (refine hS _ _ ?_; clear hS KS) | refine r_block ?_))
 | ((with_reducible refine r_region ?_); conv => whnf))
  refine r_loop (α := Nat) (fun k => [(5, .v (pv d)), (6, .loc b6 70 0), (7, .v (.map (some mm))), (198, .v (.int .i64 (k : Nat)))]) (fun _ => [.blk 70 b6 (cmV (mvK rg to) none 0 0) 42, .ext 12 (OrchA d s), .ext 9 (GlA o0 o1), .ext 8 (dfA OM.zDef none 0), .ext 60 (MpKT mm (oldF o 16))]) (fun k => k ≤ 16) (fun k => 16 - k) 0 (Nat.zero_le _) (by repeat' (first | exact Sub.nil | (refine Sub.cons rfl rfl ?_))) (by (try dsimp only [List.cons_append, List.nil_append, den, denL]); refine SelI.spec ?_; (repeat (first | refine SelI.blk (by repeat (first | with_reducible apply Rm.head | apply Rm.tail)) ?_ | refine SelI.ext (by repeat (first | with_reducible apply Rm.head | apply Rm.tail)) ?_ | (refine SelI.blk' (by repeat (first | with_reducible apply Rm.head | apply Rm.tail)) ?_ ?_; focus rfl) | (refine SelI.ext' (by repeat (first | with_reducible apply Rm.head | apply Rm.tail)) ?_ ?_; focus rfl))); exact SelI.nil) ?_
  intro k hk KL9 hL9
  by_cases hlt : k < 16
  · have hnm1022 := fun w => name1022 k (by omega) w
    have hhas1023 := fun w => has1023 (r := rg) (k := OM.nameB k) hrok (rsz hrok).lo (rsz hrok).hi (by have := sz_nm (OM.nmOk_nameB k); omega) w
    have hrt1021 := fun w => route1021 (d := d) (key := OM.nameB k) hIs (OM.nmOk_nameB k) w
    have hog := oldF_get (o := o) hlt
    have hr := hrts _ (OM.nmOk_nameB k)
    cases hh : rg.has (OM.nameB k) with
    | false =>
      rw [hh] at hhas1023
      rw [hh, if_neg (by decide)] at hr
      rw [hr] at hrt1021
      repeat' (first
 | with_reducible ((first | refine r_seq (fun KS hS => ?_) | (refine hS _ _ ?_; clear hS KS) | (refine hA _ ?_; clear hA KA) | (refine hB _ ?_; clear hB KB) | refine r_block ?_))
 | ((with_reducible (first | refine r_region ?_ | refine r_cond (fun KA hA KB hB => ?_) | refine r_skip ?_ | refine And.intro rfl ?_)); conv => whnf)
 | ((with_reducible refine WrapK.i64 ?_ ?_); (focus omega); conv => whnf)
 | ((with_reducible refine CallK.at 22 ?_); refine CallK.pu (fun w => hnm1022 w) ?_; conv => whnf)
 | ((with_reducible refine CallK.at 23 ?_); refine CallK.pu (fun w => hhas1023 w) ?_; conv => whnf)
 | ((with_reducible refine CallK.id ?_); refine CallK.s1V (by repeat (first | with_reducible apply Rm.head | apply Rm.tail)) (fun ms w hk => hrt1021 w) ?_; conv => whnf)
 | ((with_reducible refine OpK.id ?_); refine OpK.lkST rfl rfl rfl rfl rfl rfl rfl (by repeat (first | with_reducible apply At.head | apply At.tail)) hog ?_; conv => whnf)
 | (((refine if_f ?_ ?_); (focus (simp only [eq_self, decide_true, Bool.and_true, Bool.and_self, Bool.not_true, beq_self_eq_true] <;> fail)); conv => whnf))
 | (refine hL9 (k + 1) _ _ (by show k + 1 ≤ _; omega) (by show 16 - (k + 1) < 16 - k; omega) (by repeat' (first | exact Sub.nil | (refine Sub.cons rfl rfl ?_))) (by (try dsimp only [List.cons_append, List.nil_append, den, denL]); refine SelI.spec ?_; (repeat (first | refine SelI.blk (by repeat (first | with_reducible apply Rm.head | apply Rm.tail)) ?_ | refine SelI.ext (by repeat (first | with_reducible apply Rm.head | apply Rm.tail)) ?_ | (refine SelI.blk' (by repeat (first | with_reducible apply Rm.head | apply Rm.tail)) ?_ ?_; focus rfl) | (refine SelI.ext' (by repeat (first | with_reducible apply Rm.head | apply Rm.tail)) ?_ ?_; focus rfl))); exact SelI.nil))
 | (apply r_any (id := 54); refine mixed; kernel_rfl; kernel_rfl; conv => whnf)
 | ((with_reducible ((first | refine InAt.mk (fun K' hK => ?_) | refine AnyAt.mk (fun K' hK => ?_) | (refine hK _ ?_; clear hK K') | (refine hK _ _ ?_; clear hK K')))); conv => whnf)
 | (refine And.intro ?_ ?_; all_goals (conv => whnf))
 | (refine if_decT (by omega) ?_; conv => whnf)
 | with_reducible apply_assumption -symm -exfalso)
    | true =>
      rw [hh] at hhas1023
      rw [hh, if_pos rfl] at hr
      rw [hr] at hrt1021
      repeat' (first
 | with_reducible ((first | refine r_seq (fun KS hS => ?_) | (refine hS _ _ ?_; clear hS KS) | (refine hA _ ?_; clear hA KA) | (refine hB _ ?_; clear hB KB) | refine r_block ?_))
 | ((with_reducible (first | refine r_region ?_ | refine r_cond (fun KA hA KB hB => ?_) | refine r_skip ?_ | refine And.intro rfl ?_)); conv => whnf)
 | ((with_reducible refine WrapK.i64 ?_ ?_); (focus omega); conv => whnf)
 | ((with_reducible refine CallK.at 22 ?_); refine CallK.pu (fun w => hnm1022 w) ?_; conv => whnf)
 | ((with_reducible refine CallK.at 23 ?_); refine CallK.pu (fun w => hhas1023 w) ?_; conv => whnf)
 | ((with_reducible refine CallK.id ?_); refine CallK.s1V (by repeat (first | with_reducible apply Rm.head | apply Rm.tail)) (fun ms w hk => hrt1021 w) ?_; conv => whnf)
 | ((with_reducible refine OpK.id ?_); refine OpK.lkST rfl rfl rfl rfl rfl rfl rfl (by repeat (first | with_reducible apply At.head | apply At.tail)) hog ?_; conv => whnf)
 | (((refine if_f ?_ ?_); (focus (simp only [eq_self, decide_true, Bool.and_true, Bool.and_self, Bool.not_true, beq_self_eq_true] <;> fail)); conv => whnf))
 | (refine hL9 (k + 1) _ _ (by show k + 1 ≤ _; omega) (by show 16 - (k + 1) < 16 - k; omega) (by repeat' (first | exact Sub.nil | (refine Sub.cons rfl rfl ?_))) (by (try dsimp only [List.cons_append, List.nil_append, den, denL]); refine SelI.spec ?_; (repeat (first | refine SelI.blk (by repeat (first | with_reducible apply Rm.head | apply Rm.tail)) ?_ | refine SelI.ext (by repeat (first | with_reducible apply Rm.head | apply Rm.tail)) ?_ | (refine SelI.blk' (by repeat (first | with_reducible apply Rm.head | apply Rm.tail)) ?_ ?_; focus rfl) | (refine SelI.ext' (by repeat (first | with_reducible apply Rm.head | apply Rm.tail)) ?_ ?_; focus rfl))); exact SelI.nil))
 | (apply r_any (id := 54); refine mixed; kernel_rfl; kernel_rfl; conv => whnf)
 | ((with_reducible ((first | refine InAt.mk (fun K' hK => ?_) | refine AnyAt.mk (fun K' hK => ?_) | (refine hK _ ?_; clear hK K') | (refine hK _ _ ?_; clear hK K')))); conv => whnf)
 | (refine And.intro ?_ ?_; all_goals (conv => whnf))
 | (refine if_decT (by omega) ?_; conv => whnf)
 | with_reducible apply_assumption -symm -exfalso)
  · obtain rfl : k = 16 := by omega
    clear hL9
    repeat' (first
 | with_reducible ((first | refine r_seq (fun KS hS => ?_) | (refine hS _ _ ?_; clear hS KS) | (refine hB _ ?_; clear hB KB)))
 | ((with_reducible (first | refine r_region ?_ | refine r_cond (fun KA hA KB hB => ?_) | refine r_ret ?_ | refine r_exit ?_)); conv => whnf)
 | ((with_reducible refine CallK.id ?_); refine CallK.s1V (by repeat (first | with_reducible apply Rm.head | apply Rm.tail)) (fun ms w hk => works1013 hko w) ?_; conv => whnf)
 | with_reducible apply_assumption -symm -exfalso)
    exact FinK.frZL () rfl (by (try dsimp only [List.cons_append, List.nil_append, den, denL]); refine SelI.spec ?_; (repeat (first | refine SelI.blk (by repeat (first | with_reducible apply Rm.head | apply Rm.tail)) ?_ | refine SelI.ext (by repeat (first | with_reducible apply Rm.head | apply Rm.tail)) ?_ | (refine SelI.blk' (by repeat (first | with_reducible apply Rm.head | apply Rm.tail)) ?_ ?_; focus rfl) | (refine SelI.ext' (by repeat (first | with_reducible apply Rm.head | apply Rm.tail)) ?_ ?_; focus rfl))); exact SelI.nil)
end Go.Proofs.YtjkmpaggfbghiaaGreatDoor

namespace Go.Proofs.YtjkmpaggfbghiaaGreatDoor
open Go Go.X
theorem routes_b0 {d b6 b14 mm : Nat} {rg : OM.Rg} {fr to : Int} {o s : OM.St} {o0 o1 : Obj} {w : World} {S : Nat → Prop} (hko : KObj o0 o1) (hIo : OM.Inv o) (hrok : rg.ok = true) {KL : KE} {k : KC} (hm : OM.Mid o s rg fr to 1 OM.eps) (hL4 : ∀ s2 : OM.St, OM.Mid o s2 rg fr to 2 OM.dataS → ∀ E' H', X.Sub [(5, .v (pv d)), (6, .loc b6 70 0), (7, .v (.map (some mm))), (12, .v (.int .i64 ((o.moves.length : Int) + 1))), (108, .slc b14 74 0 2 2), (109, .v (.int .i64 ((2 : Nat) : Int))), (110, .v (.int .i64 ((1 : Nat) : Int)))] E' → X.HSub [.blk 74 b14 (itV (OM.outX o fr) ++ itV (OM.inX o to)) 31, .blk 70 b6 (cmV (mvK rg to) none 0 0) 42, .ext 12 (OrchA d s2), .ext 9 (GlA o0 o1), .ext 8 (dfA OM.zDef none 0), .ext 60 (MpKT mm (oldF o 16))] H' → KL E' H') :
    Run ⟨Tryz.prog, TB, 228, w, S, none, TBok⟩ (bdy5 (bdy5 (rgt5 1 (lft5 (rgt5 12 (Tryz.f5.body.getD .skip)))))) [(5, .v (pv d)), (6, .loc b6 70 0), (7, .v (.map (some mm))), (12, .v (.int .i64 ((o.moves.length : Int) + 1))), (108, .slc b14 74 0 2 2), (109, .v (.int .i64 ((2 : Nat) : Int))), (110, .v (.int .i64 ((0 : Nat) : Int)))] [.blk 74 b14 (itV (OM.outX o fr) ++ itV (OM.inX o to)) 31, .blk 70 b6 (cmV (mvK rg to) none 0 0) 42, .ext 12 (OrchA d s), .ext 9 (GlA o0 o1), .ext 8 (dfA OM.zDef none 0), .ext 60 (MpKT mm (oldF o 16))] (thenK KL k) := by
  conv => arg 2; whnf
  obtain ⟨cx, hcx⟩ := hm.out
  have hIs := hm.inv
  have hil := items_le hIs
  have hit1012 := fun w => items1012 (d := d) hko hIs w
  repeat' (first
 | with_reducible refine r_stop 31 ?_
 | with_reducible ((first | refine r_seq (fun KS hS => ?_) | (refine hS _ _ ?_; clear hS KS) | (refine hA _ ?_; clear hA KA) | refine r_block ?_))
 | ((with_reducible (first | refine r_region ?_ | refine r_cond (fun KA hA KB hB => ?_) | refine r_skip ?_ | refine And.intro rfl ?_ | intro b)); conv => whnf)
 | ((with_reducible apply OpK.more); (focus refine sok); (conv => whnf); fail_if_success guard_target =ₛ False)
 | with_reducible apply_assumption -symm -exfalso)
  refine StopR.mk ?_
  obtain ⟨b16, hb16⟩ : ∃ x, x = b := ⟨b, rfl⟩
  subst hb16
  refine Run.weakenD (E' := [(5, .v (pv d)), (6, .loc b6 70 0), (7, .v (.map (some mm))), (12, .v (.int .i64 ((o.moves.length : Int) + 1))), (15, .v (.int .i64 0)), (16, .loc b16 75 0), (108, .slc b14 74 0 2 2), (109, .v (.int .i64 ((2 : Nat) : Int))), (110, .v (.int .i64 ((0 : Nat) : Int)))]) (H' := [.blk 75 b16 (itV (OM.outX o fr)) 31, .blk 74 b14 (itV (OM.outX o fr) ++ itV (OM.inX o to)) 31, .blk 70 b6 (cmV (mvK rg to) none 0 0) 42, .ext 12 (OrchA d s), .ext 9 (GlA o0 o1), .ext 8 (dfA OM.zDef none 0), .ext 60 (MpKT mm (oldF o 16))]) ?_ (by repeat' (first | exact SubD.nil | (refine SubD.cons rfl rfl ?_))) (by (try dsimp only [List.cons_append, List.nil_append, den, denL]); refine SelI.spec ?_; (repeat (first | refine SelI.blk (by repeat (first | with_reducible apply Rm.head | apply Rm.tail)) ?_ | refine SelI.ext (by repeat (first | with_reducible apply Rm.head | apply Rm.tail)) ?_ | (refine SelI.blk' (by repeat (first | with_reducible apply Rm.head | apply Rm.tail)) ?_ ?_; focus rfl) | (refine SelI.ext' (by repeat (first | with_reducible apply Rm.head | apply Rm.tail)) ?_ ?_; focus rfl))); exact SelI.nil)
  repeat' (first
 | with_reducible ((first | refine r_seq (fun KS hS => ?_) | (refine hS _ _ ?_; clear hS KS) | refine r_block ?_))
 | ((with_reducible (first | refine r_region ?_ | intro b)); conv => whnf)
 | ((with_reducible refine CallK.id ?_); refine CallK.s2 (by repeat (first | with_reducible apply Rm.head | apply Rm.tail)) (by repeat (first | with_reducible apply Rm.head | apply Rm.tail)) (fun ms w hk => hit1012 w) ?_; conv => whnf))
  clear hit1012
  refine r_loop (α := Nat) (fun j => [(5, .v (pv d)), (6, .loc b6 70 0), (7, .v (.map (some mm))), (12, .v (.int .i64 ((o.moves.length : Int) + 1))), (15, .v (.int .i64 0)), (16, .loc b16 75 0), (108, .slc b14 74 0 2 2), (109, .v (.int .i64 ((2 : Nat) : Int))), (110, .v (.int .i64 ((0 : Nat) : Int))), (116, .v (.slice b.1 s.items.length b.2)), (117, .v (.int .i64 (s.items.length : Nat))), (118, .v (.int .i64 (j : Nat)))]) (fun _ => [.blk 75 b16 (itV (OM.outX o fr)) 31, .blk 74 b14 (itV (OM.outX o fr) ++ itV (OM.inX o to)) 31, .blk 70 b6 (cmV (mvK rg to) none 0 0) 42, .ext 12 (OrchA d s), .ext 9 (GlA o0 o1), .ext 8 (dfA OM.zDef none 0), .ext 60 (MpKT mm (oldF o 16)), .ext 61 (SlA 31 6 b.1 s.items.length b.2 (imC s))]) (fun j => j ≤ s.items.length) (fun j => s.items.length - j) 0 (Nat.zero_le _) (by repeat' (first | exact Sub.nil | (refine Sub.cons rfl rfl ?_))) (by (try dsimp only [List.cons_append, List.nil_append, den, denL]); refine SelI.spec ?_; (repeat (first | refine SelI.blk (by repeat (first | with_reducible apply Rm.head | apply Rm.tail)) ?_ | refine SelI.ext (by repeat (first | with_reducible apply Rm.head | apply Rm.tail)) ?_ | (refine SelI.blk' (by repeat (first | with_reducible apply Rm.head | apply Rm.tail)) ?_ ?_; focus rfl) | (refine SelI.ext' (by repeat (first | with_reducible apply Rm.head | apply Rm.tail)) ?_ ?_; focus rfl))); exact SelI.nil) ?_
  intro j hj KL5 hL5
  by_cases hlt : j < s.items.length
  · as_aux_lemma =>
    obtain ⟨⟨y, c⟩, hw⟩ : ∃ y, s.wanted[j]? = some y := ⟨_, List.getElem?_eq_getElem (by rw [← items_len]; exact hlt)⟩
    have hx : s.items[j]? = some y := by unfold OM.St.items; rw [List.getElem?_map, hw]; rfl
    have hmem := List.mem_of_getElem? hw
    have hcm1017 := fun w => command1017 (d := d) (x := y) hko hIs w
    rw [OM.command_at hIs hw] at hcm1017
    by_cases hmv : y.move = 0
    · have hfree := hm.free (by decide) hmem hmv
      have hky := hm.key hmem hmv
      have hhas1023 := fun w => has1023 (r := rg) (k := c.key) hrok (rsz hrok).lo (rsz hrok).hi (by have := sz_nm hky; omega) w
      rw [hfree] at hhas1023
      repeat' (first
 | with_reducible ((first | refine r_seq (fun KS hS => ?_) | (refine hS _ _ ?_; clear hS KS) | (refine hA _ ?_; clear hA KA) | (refine hB _ ?_; clear hB KB) | refine r_block ?_))
 | ((with_reducible (first | refine r_region ?_ | refine r_cond (fun KA hA KB hB => ?_) | refine r_skip ?_ | refine And.intro rfl ?_ | intro b)); conv => whnf)
 | ((with_reducible refine WrapK.i64 ?_ ?_); (focus omega); conv => whnf)
 | ((with_reducible refine OpK.id ?_); (first | refine OpK.idx (k := 6) rfl rfl rfl rfl rfl rfl rfl (Sees.ext (by repeat (first | with_reducible apply At.head | apply At.tail))) (by omega) (by omega) (it_at hx) (fun b off hp => ?_) | refine OpK.ldp rfl rfl hp (List.cons_ne_nil _ _) ?_); conv => whnf)
 | ((with_reducible refine CallK.id ?_); refine CallK.selS (.tup [.agg (cmV c none 0 0), .v (.int .i64 0)]) rfl (by apply Sel.cons; (case h => repeat (first | with_reducible apply Rm.head | apply Rm.tail)); apply Sel.cons; (case h => repeat (first | with_reducible apply Rm.head | apply Rm.tail)); exact Sel.nil) (fun ms w hk => hcm1017 w) ?_; conv => whnf)
 | ((with_reducible refine CallK.at 23 ?_); refine CallK.pu (fun w => hhas1023 w) ?_; conv => whnf)
 | (refine if_t (decide_eq_true hmv) ?_; conv => whnf)
 | (refine hL5 (j + 1) _ _ (by show j + 1 ≤ _; omega) (by show s.items.length - (j + 1) < s.items.length - j; omega) (by repeat' (first | exact Sub.nil | (refine Sub.cons rfl rfl ?_))) (by (try dsimp only [List.cons_append, List.nil_append, den, denL]); refine SelI.spec ?_; (repeat (first | refine SelI.blk (by repeat (first | with_reducible apply Rm.head | apply Rm.tail)) ?_ | refine SelI.ext (by repeat (first | with_reducible apply Rm.head | apply Rm.tail)) ?_ | (refine SelI.blk' (by repeat (first | with_reducible apply Rm.head | apply Rm.tail)) ?_ ?_; focus rfl) | (refine SelI.ext' (by repeat (first | with_reducible apply Rm.head | apply Rm.tail)) ?_ ?_; focus rfl))); exact SelI.nil))
 | (refine if_decT (by omega) ?_; conv => whnf)
 | with_reducible apply_assumption -symm -exfalso)
    · repeat' (first
 | with_reducible ((first | refine r_seq (fun KS hS => ?_) | (refine hS _ _ ?_; clear hS KS) | (refine hA _ ?_; clear hA KA) | (refine hB _ ?_; clear hB KB) | refine r_block ?_))
 | ((with_reducible (first | refine r_region ?_ | refine r_cond (fun KA hA KB hB => ?_) | refine r_skip ?_ | refine And.intro rfl ?_ | intro b)); conv => whnf)
 | ((with_reducible refine WrapK.i64 ?_ ?_); (focus omega); conv => whnf)
 | ((with_reducible refine OpK.id ?_); (first | refine OpK.idx (k := 6) rfl rfl rfl rfl rfl rfl rfl (Sees.ext (by repeat (first | with_reducible apply At.head | apply At.tail))) (by omega) (by omega) (it_at hx) (fun b off hp => ?_) | refine OpK.ldp rfl rfl hp (List.cons_ne_nil _ _) ?_); conv => whnf)
 | ((with_reducible refine CallK.id ?_); refine CallK.selS (.tup [.agg (cmV c none 0 0), .v (.int .i64 0)]) rfl (by apply Sel.cons; (case h => repeat (first | with_reducible apply Rm.head | apply Rm.tail)); apply Sel.cons; (case h => repeat (first | with_reducible apply Rm.head | apply Rm.tail)); exact Sel.nil) (fun ms w hk => hcm1017 w) ?_; conv => whnf)
 | (refine if_f (decide_eq_false hmv) ?_; conv => whnf)
 | (refine hL5 (j + 1) _ _ (by show j + 1 ≤ _; omega) (by show s.items.length - (j + 1) < s.items.length - j; omega) (by repeat' (first | exact Sub.nil | (refine Sub.cons rfl rfl ?_))) (by (try dsimp only [List.cons_append, List.nil_append, den, denL]); refine SelI.spec ?_; (repeat (first | refine SelI.blk (by repeat (first | with_reducible apply Rm.head | apply Rm.tail)) ?_ | refine SelI.ext (by repeat (first | with_reducible apply Rm.head | apply Rm.tail)) ?_ | (refine SelI.blk' (by repeat (first | with_reducible apply Rm.head | apply Rm.tail)) ?_ ?_; focus rfl) | (refine SelI.ext' (by repeat (first | with_reducible apply Rm.head | apply Rm.tail)) ?_ ?_; focus rfl))); exact SelI.nil))
 | (refine if_decT (by omega) ?_; conv => whnf)
 | with_reducible apply_assumption -symm -exfalso)
  · as_aux_lemma =>
    obtain rfl : j = s.items.length := by omega
    clear hL5 hj hlt
    repeat' (first
 | with_reducible ((first | refine r_seq (fun KS hS => ?_) | (refine hS _ _ ?_; clear hS KS) | (refine hB _ ?_; clear hB KB) | refine r_block ?_))
 | ((with_reducible (first | refine r_region ?_ | refine r_cond (fun KA hA KB hB => ?_) | refine r_exit ?_)); conv => whnf)
 | (refine if_decF (by omega) ?_; conv => whnf)
 | with_reducible apply_assumption -symm -exfalso)
    refine r_loop (α := Nat) (fun k => [(5, .v (pv d)), (6, .loc b6 70 0), (7, .v (.map (some mm))), (12, .v (.int .i64 ((o.moves.length : Int) + 1))), (15, .v (.int .i64 0)), (16, .loc b16 75 0), (108, .slc b14 74 0 2 2), (109, .v (.int .i64 ((2 : Nat) : Int))), (110, .v (.int .i64 ((0 : Nat) : Int))), (143, .v (.int .i64 (k : Nat)))]) (fun _ => [.blk 75 b16 (itV (OM.outX o fr)) 31, .blk 74 b14 (itV (OM.outX o fr) ++ itV (OM.inX o to)) 31, .blk 70 b6 (cmV (mvK rg to) none 0 0) 42, .ext 12 (OrchA d s), .ext 9 (GlA o0 o1), .ext 8 (dfA OM.zDef none 0), .ext 60 (MpKT mm (oldF o 16))]) (fun k => k ≤ 16) (fun k => 16 - k) 0 (Nat.zero_le _) (by repeat' (first | exact Sub.nil | (refine Sub.cons rfl rfl ?_))) (by (try dsimp only [List.cons_append, List.nil_append, den, denL]); refine SelI.spec ?_; (repeat (first | refine SelI.blk (by repeat (first | with_reducible apply Rm.head | apply Rm.tail)) ?_ | refine SelI.ext (by repeat (first | with_reducible apply Rm.head | apply Rm.tail)) ?_ | (refine SelI.blk' (by repeat (first | with_reducible apply Rm.head | apply Rm.tail)) ?_ ?_; focus rfl) | (refine SelI.ext' (by repeat (first | with_reducible apply Rm.head | apply Rm.tail)) ?_ ?_; focus rfl))); exact SelI.nil) ?_
    intro k hk KL7 hL7
    by_cases hlt : k < 16
    · as_aux_lemma =>
      have hnm1022 := fun w => name1022 k (by omega) w
      have hrt1021 := fun w => route1021 (d := d) (key := OM.nameB k) hIs (OM.nmOk_nameB k) w
      rw [hm.route] at hrt1021
      have hog := oldF_get (o := o) hlt
      repeat' (first
 | with_reducible ((first | refine r_seq (fun KS hS => ?_) | (refine hS _ _ ?_; clear hS KS) | (refine hA _ ?_; clear hA KA) | (refine hB _ ?_; clear hB KB) | refine r_block ?_))
 | ((with_reducible (first | refine r_region ?_ | refine r_cond (fun KA hA KB hB => ?_) | refine r_skip ?_)); conv => whnf)
 | ((with_reducible refine WrapK.i64 ?_ ?_); (focus omega); conv => whnf)
 | ((with_reducible refine CallK.at 22 ?_); refine CallK.pu (fun w => hnm1022 w) ?_; conv => whnf)
 | ((with_reducible refine CallK.id ?_); refine CallK.s1V (by repeat (first | with_reducible apply Rm.head | apply Rm.tail)) (fun ms w hk => hrt1021 w) ?_; conv => whnf)
 | ((with_reducible refine OpK.id ?_); refine OpK.lkST rfl rfl rfl rfl rfl rfl rfl (by repeat (first | with_reducible apply At.head | apply At.tail)) hog ?_; conv => whnf)
 | (((refine if_f ?_ ?_); (focus (simp only [eq_self, decide_true, Bool.and_true, Bool.and_self, Bool.not_true, beq_self_eq_true] <;> fail)); conv => whnf))
 | (refine hL7 (k + 1) _ _ (by show k + 1 ≤ _; omega) (by show 16 - (k + 1) < 16 - k; omega) (by repeat' (first | exact Sub.nil | (refine Sub.cons rfl rfl ?_))) (by (try dsimp only [List.cons_append, List.nil_append, den, denL]); refine SelI.spec ?_; (repeat (first | refine SelI.blk (by repeat (first | with_reducible apply Rm.head | apply Rm.tail)) ?_ | refine SelI.ext (by repeat (first | with_reducible apply Rm.head | apply Rm.tail)) ?_ | (refine SelI.blk' (by repeat (first | with_reducible apply Rm.head | apply Rm.tail)) ?_ ?_; focus rfl) | (refine SelI.ext' (by repeat (first | with_reducible apply Rm.head | apply Rm.tail)) ?_ ?_; focus rfl))); exact SelI.nil))
 | (refine if_decT (by omega) ?_; conv => whnf)
 | with_reducible apply_assumption -symm -exfalso)
    obtain rfl : k = 16 := by omega
    clear hL7 hlt hk
    have hrf := OM.mid_refuse hm hcx rfl
    obtain ⟨hrf1, hm9⟩ := hrf
    have hxo := OM.item_ok hIs hcx
    have hap1 := fun w => apply1014 (d := d) (a := none) (cap := 0) (c := OM.resC (OM.outX o fr) 16 OM.eps) hko hIs (OM.resC_ok (res := 16) (d := OM.eps) hxo (by decide) (by decide)) (fun _ => rfl) w
    rw [hrf1] at hap1
    have hgiv := OM.mid_given hm9
    obtain ⟨cx9, hcx9⟩ := hm9.out
    generalize (s.apply (OM.resC (OM.outX o fr) 16 OM.eps)).1 = s1 at hap1 hm9 hgiv hcx9
    have hIs1 := hm9.inv
    have hap2 := fun w => apply1014 (d := d) (a := none) (cap := 0) (c := OM.resC (OM.outX o fr) 0 OM.dataS) hko hIs1 (OM.resC_ok (res := 0) (d := OM.dataS) hxo (by decide) (by decide)) (fun _ => rfl) w
    obtain ⟨hg1, hg2⟩ := hgiv
    rw [hg1] at hap2
    generalize (s1.apply (OM.resC (OM.outX o fr) 0 OM.dataS)).1 = s2 at hap2 hg2
    have hapA : ∀ w, Fr Tryz.prog 14 #[pv d, .agg (denL (cmV (OM.resC (OM.outX o fr) 16 OM.eps) none 0 0)).toArray] w (AssL [.ext 12 (OrchA d s), .ext 9 (GlA o0 o1), .ext 8 (dfA OM.zDef none 0)]) (rpV ⟨9, 0⟩) (AssL [.ext 12 (OrchA d s1), .ext 9 (GlA o0 o1), .ext 8 (dfA OM.zDef none 0)]) := hap1
    have hapB : ∀ w, Fr Tryz.prog 14 #[pv d, .agg (denL (cmV (OM.resC (OM.outX o fr) 0 OM.dataS) none 0 0)).toArray] w (AssL [.ext 12 (OrchA d s1), .ext 9 (GlA o0 o1), .ext 8 (dfA OM.zDef none 0)]) (rpV ⟨0, 0⟩) (AssL [.ext 12 (OrchA d s2), .ext 9 (GlA o0 o1), .ext 8 (dfA OM.zDef none 0)]) := hap2
    clear hap1 hap2 hg1 hrf1
    have hrbx : (true = true) ↔ (OM.outX o fr) ∈ s.items := ⟨fun _ => OM.mid_items ⟨cx, hcx⟩, fun _ => rfl⟩
    have hit1012 := fun w => items1012 (d := d) hko hIs w
    repeat' (first
 | with_reducible refine r_stop 45 ?_
 | with_reducible ((first | refine r_seq (fun KS hS => ?_) | (refine hS _ _ ?_; clear hS KS) | (refine hB _ ?_; clear hB KB)))
 | ((with_reducible (first | refine r_region ?_ | refine r_cond (fun KA hA KB hB => ?_) | refine r_exit ?_)); conv => whnf)
 | with_reducible apply_assumption -symm -exfalso)
    refine StopR.mk ?_
    refine r_seq (fun KS3 hS3 => ?_)
    refine r_par (β := Option Addr × Nat) (id := 45) [⟨0, [], none, fun _ _ => .v (pv d), fun _ _ => []⟩, ⟨1, [0], some 100, fun _ q2 => .v (.slice q2.1 s.items.length q2.2), fun _ q2 => [.ext 12 (OrchA d s), .ext 9 (GlA o0 o1), .ext 8 (dfA OM.zDef none 0), .ext 5 (SlA 31 6 q2.1 s.items.length q2.2 (imC s))]⟩, ⟨2, [], none, fun _ _ => .agg (itV ((OM.outX o fr))), fun _ _ => []⟩, ⟨3, [1, 2], some 1, fun _ _ => .v (.bool true), fun l _ => match l with | [z1, _] => [.ext 12 (OrchA d s), .ext 9 (GlA o0 o1), .ext 8 (dfA OM.zDef none 0), .ext 5 (SlA 31 6 z1.1 s.items.length z1.2 (imC s))] | _ => []⟩, ⟨4, [3], none, fun _ _ => .v (.bool false), fun _ _ => []⟩, ⟨5, [4, 3], none, fun _ _ => .v (.bool false), fun _ _ => []⟩, ⟨6, [5], none, fun _ _ => .v (pv d), fun _ _ => []⟩, ⟨7, [5], none, fun _ _ => .agg (itV ((OM.outX o fr))), fun _ _ => []⟩, ⟨8, [7, 5], none, fun _ _ => .v (.agg (denL (cmV (OM.resC (OM.outX o fr) 16 OM.eps) none 0 0)).toArray), fun _ _ => []⟩, ⟨9, [6, 8, 3, 1, 5], some 3, fun _ _ => .agg [.v (.int .i64 9), .v (.int .i64 0), .v (.string ⟨#[]⟩)], fun l _ => match l with | [_, _, _, z1, _] => [.ext 12 (OrchA d s1), .ext 9 (GlA o0 o1), .ext 8 (dfA OM.zDef none 0), .ext 5 (SlA 31 6 z1.1 s.items.length z1.2 (imC s))] | _ => []⟩, ⟨10, [5], none, fun _ _ => .agg [.v (.int .i64 9), .v (.int .i64 0), .v (.string ⟨#[]⟩)], fun _ _ => []⟩, ⟨11, [9, 10, 5], none, fun _ _ => .v (.bool false), fun _ _ => []⟩, ⟨12, [5, 11], none, fun _ _ => .v (.bool false), fun _ _ => []⟩, ⟨13, [12, 9], none, fun _ _ => .v (.bool false), fun _ _ => []⟩, ⟨14, [13], none, fun _ _ => .v (pv d), fun _ _ => []⟩, ⟨15, [13], none, fun _ _ => .agg (itV ((OM.outX o fr))), fun _ _ => []⟩, ⟨16, [15, 13], none, fun _ _ => .v (.agg (denL (cmV (OM.resC (OM.outX o fr) 0 OM.dataS) none 0 0)).toArray), fun _ _ => []⟩, ⟨17, [14, 16, 9, 1, 13], some 9, fun _ _ => .agg [.v (.int .i64 0), .v (.int .i64 0), .v (.string ⟨#[]⟩)], fun l _ => match l with | [_, _, _, z1, _] => [.ext 12 (OrchA d s2), .ext 9 (GlA o0 o1), .ext 8 (dfA OM.zDef none 0), .ext 5 (SlA 31 6 z1.1 s.items.length z1.2 (imC s))] | _ => []⟩, ⟨18, [13], none, fun _ _ => .agg [.v (.int .i64 0), .v (.int .i64 0), .v (.string ⟨#[]⟩)], fun _ _ => []⟩, ⟨19, [17, 18, 13], none, fun _ _ => .v (.bool false), fun _ _ => []⟩, ⟨20, [13, 19], none, fun _ _ => .v (.bool false), fun _ _ => []⟩] [⟨100, [], none, fun _ _ => .v undef, fun _ _ => [.ext 12 (OrchA d s), .ext 9 (GlA o0 o1), .ext 8 (dfA OM.zDef none 0)]⟩] 0 [.blk 75 b16 (itV (OM.outX o fr)) 31, .blk 74 b14 (itV (OM.outX o fr) ++ itV (OM.inX o to)) 31, .blk 70 b6 (cmV (mvK rg to) none 0 0) 42, .ext 60 (MpKT mm (oldF o 16))] mixed (by kernel_rfl) (by kernel_rfl) (by show HSub [.ext 12 (OrchA d s), .ext 9 (GlA o0 o1), .ext 8 (dfA OM.zDef none 0), .blk 75 b16 (itV (OM.outX o fr)) 31, .blk 74 b14 (itV (OM.outX o fr) ++ itV (OM.inX o to)) 31, .blk 70 b6 (cmV (mvK rg to) none 0 0) 42, .ext 60 (MpKT mm (oldF o 16))] _; exact (by (try dsimp only [List.cons_append, List.nil_append, den, denL]); refine SelI.spec ?_; (repeat (first | refine SelI.blk (by repeat (first | with_reducible apply Rm.head | apply Rm.tail)) ?_ | refine SelI.ext (by repeat (first | with_reducible apply Rm.head | apply Rm.tail)) ?_ | (refine SelI.blk' (by repeat (first | with_reducible apply Rm.head | apply Rm.tail)) ?_ ?_; focus rfl) | (refine SelI.ext' (by repeat (first | with_reducible apply Rm.head | apply Rm.tail)) ?_ ?_; focus rfl))); exact SelI.nil)) ?_ ?_
    · as_aux_lemma =>
      conv => whnf
      repeat' (first | ((with_reducible refine And.intro ?_ ?_); all_goals (conv => whnf)) | ((with_reducible intro zz2 AA KP hP); conv => whnf))
      repeat' (first
 | ((with_reducible intro b); conv => whnf)
 | ((with_reducible refine CallK.at 15 ?_); (first | refine CallK.pu (fun w => result1015 (OM.outX o fr) 16 OM.eps w) ?_ | refine CallK.pu (fun w => result1015 (OM.outX o fr) 0 OM.dataS w) ?_); conv => whnf)
 | ((with_reducible refine CallK.id ?_); (first | (refine CallK.selS (.agg [.v (.int .i64 9), .v (.int .i64 0), .v (.string ⟨#[]⟩)]) rfl (by apply Sel.cons; (case h => repeat (first | with_reducible apply Rm.head | apply Rm.tail)); apply Sel.cons; (case h => repeat (first | with_reducible apply Rm.head | apply Rm.tail)); apply Sel.cons; (case h => repeat (first | with_reducible apply Rm.head | apply Rm.tail)); exact Sel.nil) (fun ms w hk => hapA w) ?_) | (refine CallK.selS (.agg [.v (.int .i64 0), .v (.int .i64 0), .v (.string ⟨#[]⟩)]) rfl (by apply Sel.cons; (case h => repeat (first | with_reducible apply Rm.head | apply Rm.tail)); apply Sel.cons; (case h => repeat (first | with_reducible apply Rm.head | apply Rm.tail)); apply Sel.cons; (case h => repeat (first | with_reducible apply Rm.head | apply Rm.tail)); exact Sel.nil) (fun ms w hk => hapB w) ?_) | refine CallK.s2 (by repeat (first | with_reducible apply Rm.head | apply Rm.tail)) (by repeat (first | with_reducible apply Rm.head | apply Rm.tail)) (fun ms w hk => hit1012 w) ?_); conv => whnf)
 | ((with_reducible refine CallK.at 16 ?_); refine CallK.puW (fun ms w hk => contains1016 (r := true) (Sees.rd (Sees.ext (by repeat (first | with_reducible apply At.head | apply At.tail))) hk) hil hrbx) ?_; conv => whnf)
 | (((with_reducible apply OpK.more); (focus refine sok2); (conv => whnf); fail_if_success guard_target =ₛ False))
 | ((with_reducible apply hP); all_goals (first | exact default | ((repeat' (first | exact SubD.nil | (refine SubD.cons rfl rfl ?_) | (refine SubD.cons rfl (by simp [den]) ?_))); done) | ((try dsimp only [mapZ, List.cons_append, List.nil_append, den, denL]); refine SelI.spec ?_; repeat (first | apply SelI.nil | refine SelI.blk (by repeat (first | with_reducible apply Rm.head | apply Rm.tail)) ?_ | refine SelI.ext (by repeat (first | with_reducible apply Rm.head | apply Rm.tail)) ?_ | (refine SelI.blk' (by repeat (first | with_reducible apply Rm.head | apply Rm.tail)) ?_ ?_; focus rfl) | (refine SelI.ext' (by repeat (first | with_reducible apply Rm.head | apply Rm.tail)) ?_ ?_; focus rfl))))))
    conv => whnf
    intro zz2
    conv => whnf
    try dsimp only
    clear hapA hapB hit1012 hrbx
    have hIs2 := hg2.inv
    have hil2 := items_le hIs2
    have hrby : (true = true) ↔ OM.inX o to ∈ s2.items := ⟨fun _ => OM.mid_items hg2.in_, fun _ => rfl⟩
    have hit1012 := fun w => items1012 (d := d) hko hIs2 w
    repeat' (first
 | with_reducible refine r_stop 47 ?_
 | with_reducible (refine hB _ ?_; clear hB KB)
 | ((with_reducible (first | refine r_cond (fun KA hA KB hB => ?_) | refine r_skip ?_)); conv => whnf)
 | with_reducible apply_assumption -symm -exfalso)
    refine StopR.mk ?_
    refine r_seq (fun KS4 hS4 => ?_)
    refine r_par (β := Option Addr × Nat) (id := 47) [⟨0, [], none, fun _ _ => .v (.int .i64 0), fun _ _ => []⟩, ⟨1, [0], none, fun _ _ => .v (.bool true), fun _ _ => []⟩, ⟨2, [1], none, fun _ _ => .v (.bool true), fun _ _ => []⟩, ⟨3, [2], none, fun _ _ => .v (pv d), fun _ _ => []⟩, ⟨4, [3, 2], some 100, fun _ q2 => .v (.slice q2.1 s2.items.length q2.2), fun _ q2 => [.ext 12 (OrchA d s2), .ext 9 (GlA o0 o1), .ext 8 (dfA OM.zDef none 0), .ext 6 (SlA 31 6 q2.1 s2.items.length q2.2 (imC s2))]⟩, ⟨5, [2], none, fun _ _ => .v (.int .i64 ((o.moves.length : Int) + 1)), fun _ _ => []⟩, ⟨6, [2], none, fun _ _ => .loc b6 70 11, fun _ _ => []⟩, ⟨7, [6, 2], none, fun _ _ => .v (.int .i64 (mvK rg to).group), fun _ _ => []⟩, ⟨8, [5, 7, 2], none, fun _ _ => .agg (itV (OM.inX o to)), fun _ _ => []⟩, ⟨9, [4, 8, 2], some 4, fun _ _ => .v (.bool true), fun l _ => match l with | [z4, _, _] => [.ext 12 (OrchA d s2), .ext 9 (GlA o0 o1), .ext 8 (dfA OM.zDef none 0), .ext 6 (SlA 31 6 z4.1 s2.items.length z4.2 (imC s2))] | _ => []⟩, ⟨10, [9, 2], none, fun _ _ => .v (.bool false), fun _ _ => []⟩, ⟨11, [2, 10], none, fun _ _ => .v (.bool false), fun _ _ => []⟩] [⟨100, [], none, fun _ _ => .v undef, fun _ _ => [.ext 12 (OrchA d s2), .ext 9 (GlA o0 o1), .ext 8 (dfA OM.zDef none 0)]⟩] 0 [.blk 75 b16 (itV (OM.outX o fr)) 31, .blk 74 b14 (itV (OM.outX o fr) ++ itV (OM.inX o to)) 31, .blk 70 b6 (cmV (mvK rg to) none 0 0) 42, .ext 60 (MpKT mm (oldF o 16))] mixed (by kernel_rfl) (by kernel_rfl) (by show HSub [.ext 12 (OrchA d s2), .ext 9 (GlA o0 o1), .ext 8 (dfA OM.zDef none 0), .blk 75 b16 (itV (OM.outX o fr)) 31, .blk 74 b14 (itV (OM.outX o fr) ++ itV (OM.inX o to)) 31, .blk 70 b6 (cmV (mvK rg to) none 0 0) 42, .ext 60 (MpKT mm (oldF o 16))] _; exact (by (try dsimp only [List.cons_append, List.nil_append, den, denL]); refine SelI.spec ?_; (repeat (first | refine SelI.blk (by repeat (first | with_reducible apply Rm.head | apply Rm.tail)) ?_ | refine SelI.ext (by repeat (first | with_reducible apply Rm.head | apply Rm.tail)) ?_ | (refine SelI.blk' (by repeat (first | with_reducible apply Rm.head | apply Rm.tail)) ?_ ?_; focus rfl) | (refine SelI.ext' (by repeat (first | with_reducible apply Rm.head | apply Rm.tail)) ?_ ?_; focus rfl))); exact SelI.nil)) ?_ ?_
    · as_aux_lemma =>
      conv => whnf
      repeat' (first | ((with_reducible refine And.intro ?_ ?_); all_goals (conv => whnf)) | ((with_reducible intro zz2 AA KP hP); conv => whnf))
      repeat' (first
 | ((with_reducible intro b); conv => whnf)
 | ((with_reducible refine CallK.id ?_); refine CallK.s2 (by repeat (first | with_reducible apply Rm.head | apply Rm.tail)) (by repeat (first | with_reducible apply Rm.head | apply Rm.tail)) (fun ms w hk => hit1012 w) ?_; conv => whnf)
 | ((with_reducible refine CallK.at 16 ?_); refine CallK.puW (fun ms w hk => contains1016 (r := true) (Sees.rd (Sees.ext (by repeat (first | with_reducible apply At.head | apply At.tail))) hk) hil2 hrby) ?_; conv => whnf)
 | ((with_reducible apply hP); all_goals (first | exact default | ((repeat' (first | exact SubD.nil | (refine SubD.cons rfl rfl ?_) | (refine SubD.cons rfl (by simp [den]) ?_))); done) | ((try dsimp only [mapZ, List.cons_append, List.nil_append, den, denL]); refine SelI.spec ?_; repeat (first | apply SelI.nil | refine SelI.blk (by repeat (first | with_reducible apply Rm.head | apply Rm.tail)) ?_ | refine SelI.ext (by repeat (first | with_reducible apply Rm.head | apply Rm.tail)) ?_ | (refine SelI.blk' (by repeat (first | with_reducible apply Rm.head | apply Rm.tail)) ?_ ?_; focus rfl) | (refine SelI.ext' (by repeat (first | with_reducible apply Rm.head | apply Rm.tail)) ?_ ?_; focus rfl))))))
    conv => whnf
    intro zz3
    conv => whnf
    try dsimp only
    repeat' (first
 | with_reducible (refine hB _ ?_; clear hB KB)
 | ((with_reducible (first | refine r_region ?_ | refine r_cond (fun KA hA KB hB => ?_) | refine r_skip ?_)); conv => whnf)
 | ((with_reducible refine WrapK.i64 ?_ ?_); (focus omega); conv => whnf)
 | (refine hL4 s2 hg2 _ _ (by repeat' (first | exact Sub.nil | (refine Sub.cons rfl rfl ?_))) (by (try dsimp only [List.cons_append, List.nil_append, den, denL]); refine SelI.spec ?_; (repeat (first | refine SelI.blk (by repeat (first | with_reducible apply Rm.head | apply Rm.tail)) ?_ | refine SelI.ext (by repeat (first | with_reducible apply Rm.head | apply Rm.tail)) ?_ | (refine SelI.blk' (by repeat (first | with_reducible apply Rm.head | apply Rm.tail)) ?_ ?_; focus rfl) | (refine SelI.ext' (by repeat (first | with_reducible apply Rm.head | apply Rm.tail)) ?_ ?_; focus rfl))); exact SelI.nil))
 | with_reducible apply_assumption -symm -exfalso)
end Go.Proofs.YtjkmpaggfbghiaaGreatDoor

namespace Go.Proofs.YtjkmpaggfbghiaaGreatDoor
open Go Go.X
theorem routes_b1 {d b6 b14 mm : Nat} {rg : OM.Rg} {fr to : Int} {o s : OM.St} {o0 o1 : Obj} {w : World} {S : Nat → Prop} (hko : KObj o0 o1) (hIo : OM.Inv o) (hrok : rg.ok = true) {KL : KE} {k : KC} (hm : OM.Mid o s rg fr to 2 OM.dataS) (hL4 : ∀ s2 : OM.St, (OM.Inv s2 ∧ ∀ k, OM.nmOk k = true → s2.route k = if rg.has k = true then to else o.route k) → ∀ E' H', X.Sub [(5, .v (pv d)), (6, .loc b6 70 0), (7, .v (.map (some mm))), (12, .v (.int .i64 ((o.moves.length : Int) + 1))), (108, .slc b14 74 0 2 2), (109, .v (.int .i64 ((2 : Nat) : Int))), (110, .v (.int .i64 ((2 : Nat) : Int)))] E' → X.HSub [.blk 74 b14 (itV (OM.outX o fr) ++ itV (OM.inX o to)) 31, .blk 70 b6 (cmV (mvK rg to) none 0 0) 42, .ext 12 (OrchA d s2), .ext 9 (GlA o0 o1), .ext 8 (dfA OM.zDef none 0), .ext 60 (MpKT mm (oldF o 16))] H' → KL E' H') :
    Run ⟨Tryz.prog, TB, 228, w, S, none, TBok⟩ (bdy5 (bdy5 (rgt5 1 (lft5 (rgt5 12 (Tryz.f5.body.getD .skip)))))) [(5, .v (pv d)), (6, .loc b6 70 0), (7, .v (.map (some mm))), (12, .v (.int .i64 ((o.moves.length : Int) + 1))), (108, .slc b14 74 0 2 2), (109, .v (.int .i64 ((2 : Nat) : Int))), (110, .v (.int .i64 ((1 : Nat) : Int)))] [.blk 74 b14 (itV (OM.outX o fr) ++ itV (OM.inX o to)) 31, .blk 70 b6 (cmV (mvK rg to) none 0 0) 42, .ext 12 (OrchA d s), .ext 9 (GlA o0 o1), .ext 8 (dfA OM.zDef none 0), .ext 60 (MpKT mm (oldF o 16))] (thenK KL k) := by
  conv => arg 2; whnf
  obtain ⟨cx, hcx⟩ := hm.in_
  have hIs := hm.inv
  have hil := items_le hIs
  have hit1012 := fun w => items1012 (d := d) hko hIs w
  repeat' (first
 | with_reducible refine r_stop 31 ?_
 | with_reducible ((first | refine r_seq (fun KS hS => ?_) | (refine hS _ _ ?_; clear hS KS) | (refine hA _ ?_; clear hA KA) | refine r_block ?_))
 | ((with_reducible (first | refine r_region ?_ | refine r_cond (fun KA hA KB hB => ?_) | refine r_skip ?_ | refine And.intro rfl ?_ | intro b)); conv => whnf)
 | ((with_reducible apply OpK.more); (focus refine sok); (conv => whnf); fail_if_success guard_target =ₛ False)
 | with_reducible apply_assumption -symm -exfalso)
  refine StopR.mk ?_
  obtain ⟨b16, hb16⟩ : ∃ x, x = b := ⟨b, rfl⟩
  subst hb16
  refine Run.weakenD (E' := [(5, .v (pv d)), (6, .loc b6 70 0), (7, .v (.map (some mm))), (12, .v (.int .i64 ((o.moves.length : Int) + 1))), (15, .v (.int .i64 1)), (16, .loc b16 75 0), (108, .slc b14 74 0 2 2), (109, .v (.int .i64 ((2 : Nat) : Int))), (110, .v (.int .i64 ((1 : Nat) : Int)))]) (H' := [.blk 75 b16 (itV (OM.inX o to)) 31, .blk 74 b14 (itV (OM.outX o fr) ++ itV (OM.inX o to)) 31, .blk 70 b6 (cmV (mvK rg to) none 0 0) 42, .ext 12 (OrchA d s), .ext 9 (GlA o0 o1), .ext 8 (dfA OM.zDef none 0), .ext 60 (MpKT mm (oldF o 16))]) ?_ (by repeat' (first | exact SubD.nil | (refine SubD.cons rfl rfl ?_))) (by (try dsimp only [List.cons_append, List.nil_append, den, denL]); refine SelI.spec ?_; (repeat (first | refine SelI.blk (by repeat (first | with_reducible apply Rm.head | apply Rm.tail)) ?_ | refine SelI.ext (by repeat (first | with_reducible apply Rm.head | apply Rm.tail)) ?_ | (refine SelI.blk' (by repeat (first | with_reducible apply Rm.head | apply Rm.tail)) ?_ ?_; focus rfl) | (refine SelI.ext' (by repeat (first | with_reducible apply Rm.head | apply Rm.tail)) ?_ ?_; focus rfl))); exact SelI.nil)
  repeat' (first
 | with_reducible ((first | refine r_seq (fun KS hS => ?_) | (refine hS _ _ ?_; clear hS KS) | refine r_block ?_))
 | ((with_reducible (first | refine r_region ?_ | intro b)); conv => whnf)
 | ((with_reducible refine CallK.id ?_); refine CallK.s2 (by repeat (first | with_reducible apply Rm.head | apply Rm.tail)) (by repeat (first | with_reducible apply Rm.head | apply Rm.tail)) (fun ms w hk => hit1012 w) ?_; conv => whnf))
  clear hit1012
  refine r_loop (α := Nat) (fun j => [(5, .v (pv d)), (6, .loc b6 70 0), (7, .v (.map (some mm))), (12, .v (.int .i64 ((o.moves.length : Int) + 1))), (15, .v (.int .i64 1)), (16, .loc b16 75 0), (108, .slc b14 74 0 2 2), (109, .v (.int .i64 ((2 : Nat) : Int))), (110, .v (.int .i64 ((1 : Nat) : Int))), (116, .v (.slice b.1 s.items.length b.2)), (117, .v (.int .i64 (s.items.length : Nat))), (118, .v (.int .i64 (j : Nat)))]) (fun _ => [.blk 75 b16 (itV (OM.inX o to)) 31, .blk 74 b14 (itV (OM.outX o fr) ++ itV (OM.inX o to)) 31, .blk 70 b6 (cmV (mvK rg to) none 0 0) 42, .ext 12 (OrchA d s), .ext 9 (GlA o0 o1), .ext 8 (dfA OM.zDef none 0), .ext 60 (MpKT mm (oldF o 16)), .ext 61 (SlA 31 6 b.1 s.items.length b.2 (imC s))]) (fun j => j ≤ s.items.length) (fun j => s.items.length - j) 0 (Nat.zero_le _) (by repeat' (first | exact Sub.nil | (refine Sub.cons rfl rfl ?_))) (by (try dsimp only [List.cons_append, List.nil_append, den, denL]); refine SelI.spec ?_; (repeat (first | refine SelI.blk (by repeat (first | with_reducible apply Rm.head | apply Rm.tail)) ?_ | refine SelI.ext (by repeat (first | with_reducible apply Rm.head | apply Rm.tail)) ?_ | (refine SelI.blk' (by repeat (first | with_reducible apply Rm.head | apply Rm.tail)) ?_ ?_; focus rfl) | (refine SelI.ext' (by repeat (first | with_reducible apply Rm.head | apply Rm.tail)) ?_ ?_; focus rfl))); exact SelI.nil) ?_
  intro j hj KL5 hL5
  by_cases hlt : j < s.items.length
  · as_aux_lemma =>
    obtain ⟨⟨y, c⟩, hw⟩ : ∃ y, s.wanted[j]? = some y := ⟨_, List.getElem?_eq_getElem (by rw [← items_len]; exact hlt)⟩
    have hx : s.items[j]? = some y := by unfold OM.St.items; rw [List.getElem?_map, hw]; rfl
    have hmem := List.mem_of_getElem? hw
    have hcm1017 := fun w => command1017 (d := d) (x := y) hko hIs w
    rw [OM.command_at hIs hw] at hcm1017
    by_cases hmv : y.move = 0
    · have hfree := hm.free (by decide) hmem hmv
      have hky := hm.key hmem hmv
      have hhas1023 := fun w => has1023 (r := rg) (k := c.key) hrok (rsz hrok).lo (rsz hrok).hi (by have := sz_nm hky; omega) w
      rw [hfree] at hhas1023
      repeat' (first
 | with_reducible ((first | refine r_seq (fun KS hS => ?_) | (refine hS _ _ ?_; clear hS KS) | (refine hA _ ?_; clear hA KA) | (refine hB _ ?_; clear hB KB) | refine r_block ?_))
 | ((with_reducible (first | refine r_region ?_ | refine r_cond (fun KA hA KB hB => ?_) | refine r_skip ?_ | refine And.intro rfl ?_ | intro b)); conv => whnf)
 | ((with_reducible refine WrapK.i64 ?_ ?_); (focus omega); conv => whnf)
 | ((with_reducible refine OpK.id ?_); (first | refine OpK.idx (k := 6) rfl rfl rfl rfl rfl rfl rfl (Sees.ext (by repeat (first | with_reducible apply At.head | apply At.tail))) (by omega) (by omega) (it_at hx) (fun b off hp => ?_) | refine OpK.ldp rfl rfl hp (List.cons_ne_nil _ _) ?_); conv => whnf)
 | ((with_reducible refine CallK.id ?_); refine CallK.selS (.tup [.agg (cmV c none 0 0), .v (.int .i64 0)]) rfl (by apply Sel.cons; (case h => repeat (first | with_reducible apply Rm.head | apply Rm.tail)); apply Sel.cons; (case h => repeat (first | with_reducible apply Rm.head | apply Rm.tail)); exact Sel.nil) (fun ms w hk => hcm1017 w) ?_; conv => whnf)
 | ((with_reducible refine CallK.at 23 ?_); refine CallK.pu (fun w => hhas1023 w) ?_; conv => whnf)
 | (refine if_t (decide_eq_true hmv) ?_; conv => whnf)
 | (refine hL5 (j + 1) _ _ (by show j + 1 ≤ _; omega) (by show s.items.length - (j + 1) < s.items.length - j; omega) (by repeat' (first | exact Sub.nil | (refine Sub.cons rfl rfl ?_))) (by (try dsimp only [List.cons_append, List.nil_append, den, denL]); refine SelI.spec ?_; (repeat (first | refine SelI.blk (by repeat (first | with_reducible apply Rm.head | apply Rm.tail)) ?_ | refine SelI.ext (by repeat (first | with_reducible apply Rm.head | apply Rm.tail)) ?_ | (refine SelI.blk' (by repeat (first | with_reducible apply Rm.head | apply Rm.tail)) ?_ ?_; focus rfl) | (refine SelI.ext' (by repeat (first | with_reducible apply Rm.head | apply Rm.tail)) ?_ ?_; focus rfl))); exact SelI.nil))
 | (refine if_decT (by omega) ?_; conv => whnf)
 | with_reducible apply_assumption -symm -exfalso)
    · repeat' (first
 | with_reducible ((first | refine r_seq (fun KS hS => ?_) | (refine hS _ _ ?_; clear hS KS) | (refine hA _ ?_; clear hA KA) | (refine hB _ ?_; clear hB KB) | refine r_block ?_))
 | ((with_reducible (first | refine r_region ?_ | refine r_cond (fun KA hA KB hB => ?_) | refine r_skip ?_ | refine And.intro rfl ?_ | intro b)); conv => whnf)
 | ((with_reducible refine WrapK.i64 ?_ ?_); (focus omega); conv => whnf)
 | ((with_reducible refine OpK.id ?_); (first | refine OpK.idx (k := 6) rfl rfl rfl rfl rfl rfl rfl (Sees.ext (by repeat (first | with_reducible apply At.head | apply At.tail))) (by omega) (by omega) (it_at hx) (fun b off hp => ?_) | refine OpK.ldp rfl rfl hp (List.cons_ne_nil _ _) ?_); conv => whnf)
 | ((with_reducible refine CallK.id ?_); refine CallK.selS (.tup [.agg (cmV c none 0 0), .v (.int .i64 0)]) rfl (by apply Sel.cons; (case h => repeat (first | with_reducible apply Rm.head | apply Rm.tail)); apply Sel.cons; (case h => repeat (first | with_reducible apply Rm.head | apply Rm.tail)); exact Sel.nil) (fun ms w hk => hcm1017 w) ?_; conv => whnf)
 | (refine if_f (decide_eq_false hmv) ?_; conv => whnf)
 | (refine hL5 (j + 1) _ _ (by show j + 1 ≤ _; omega) (by show s.items.length - (j + 1) < s.items.length - j; omega) (by repeat' (first | exact Sub.nil | (refine Sub.cons rfl rfl ?_))) (by (try dsimp only [List.cons_append, List.nil_append, den, denL]); refine SelI.spec ?_; (repeat (first | refine SelI.blk (by repeat (first | with_reducible apply Rm.head | apply Rm.tail)) ?_ | refine SelI.ext (by repeat (first | with_reducible apply Rm.head | apply Rm.tail)) ?_ | (refine SelI.blk' (by repeat (first | with_reducible apply Rm.head | apply Rm.tail)) ?_ ?_; focus rfl) | (refine SelI.ext' (by repeat (first | with_reducible apply Rm.head | apply Rm.tail)) ?_ ?_; focus rfl))); exact SelI.nil))
 | (refine if_decT (by omega) ?_; conv => whnf)
 | with_reducible apply_assumption -symm -exfalso)
  · as_aux_lemma =>
    obtain rfl : j = s.items.length := by omega
    clear hL5 hj hlt
    repeat' (first
 | with_reducible ((first | refine r_seq (fun KS hS => ?_) | (refine hS _ _ ?_; clear hS KS) | (refine hB _ ?_; clear hB KB) | refine r_block ?_))
 | ((with_reducible (first | refine r_region ?_ | refine r_cond (fun KA hA KB hB => ?_) | refine r_exit ?_)); conv => whnf)
 | (refine if_decF (by omega) ?_; conv => whnf)
 | with_reducible apply_assumption -symm -exfalso)
    refine r_loop (α := Nat) (fun k => [(5, .v (pv d)), (6, .loc b6 70 0), (7, .v (.map (some mm))), (12, .v (.int .i64 ((o.moves.length : Int) + 1))), (15, .v (.int .i64 1)), (16, .loc b16 75 0), (108, .slc b14 74 0 2 2), (109, .v (.int .i64 ((2 : Nat) : Int))), (110, .v (.int .i64 ((1 : Nat) : Int))), (143, .v (.int .i64 (k : Nat)))]) (fun _ => [.blk 75 b16 (itV (OM.inX o to)) 31, .blk 74 b14 (itV (OM.outX o fr) ++ itV (OM.inX o to)) 31, .blk 70 b6 (cmV (mvK rg to) none 0 0) 42, .ext 12 (OrchA d s), .ext 9 (GlA o0 o1), .ext 8 (dfA OM.zDef none 0), .ext 60 (MpKT mm (oldF o 16))]) (fun k => k ≤ 16) (fun k => 16 - k) 0 (Nat.zero_le _) (by repeat' (first | exact Sub.nil | (refine Sub.cons rfl rfl ?_))) (by (try dsimp only [List.cons_append, List.nil_append, den, denL]); refine SelI.spec ?_; (repeat (first | refine SelI.blk (by repeat (first | with_reducible apply Rm.head | apply Rm.tail)) ?_ | refine SelI.ext (by repeat (first | with_reducible apply Rm.head | apply Rm.tail)) ?_ | (refine SelI.blk' (by repeat (first | with_reducible apply Rm.head | apply Rm.tail)) ?_ ?_; focus rfl) | (refine SelI.ext' (by repeat (first | with_reducible apply Rm.head | apply Rm.tail)) ?_ ?_; focus rfl))); exact SelI.nil) ?_
    intro k hk KL7 hL7
    by_cases hlt : k < 16
    · as_aux_lemma =>
      have hnm1022 := fun w => name1022 k (by omega) w
      have hrt1021 := fun w => route1021 (d := d) (key := OM.nameB k) hIs (OM.nmOk_nameB k) w
      rw [hm.route] at hrt1021
      have hog := oldF_get (o := o) hlt
      repeat' (first
 | with_reducible ((first | refine r_seq (fun KS hS => ?_) | (refine hS _ _ ?_; clear hS KS) | (refine hA _ ?_; clear hA KA) | (refine hB _ ?_; clear hB KB) | refine r_block ?_))
 | ((with_reducible (first | refine r_region ?_ | refine r_cond (fun KA hA KB hB => ?_) | refine r_skip ?_)); conv => whnf)
 | ((with_reducible refine WrapK.i64 ?_ ?_); (focus omega); conv => whnf)
 | ((with_reducible refine CallK.at 22 ?_); refine CallK.pu (fun w => hnm1022 w) ?_; conv => whnf)
 | ((with_reducible refine CallK.id ?_); refine CallK.s1V (by repeat (first | with_reducible apply Rm.head | apply Rm.tail)) (fun ms w hk => hrt1021 w) ?_; conv => whnf)
 | ((with_reducible refine OpK.id ?_); refine OpK.lkST rfl rfl rfl rfl rfl rfl rfl (by repeat (first | with_reducible apply At.head | apply At.tail)) hog ?_; conv => whnf)
 | (((refine if_f ?_ ?_); (focus (simp only [eq_self, decide_true, Bool.and_true, Bool.and_self, Bool.not_true, beq_self_eq_true] <;> fail)); conv => whnf))
 | (refine hL7 (k + 1) _ _ (by show k + 1 ≤ _; omega) (by show 16 - (k + 1) < 16 - k; omega) (by repeat' (first | exact Sub.nil | (refine Sub.cons rfl rfl ?_))) (by (try dsimp only [List.cons_append, List.nil_append, den, denL]); refine SelI.spec ?_; (repeat (first | refine SelI.blk (by repeat (first | with_reducible apply Rm.head | apply Rm.tail)) ?_ | refine SelI.ext (by repeat (first | with_reducible apply Rm.head | apply Rm.tail)) ?_ | (refine SelI.blk' (by repeat (first | with_reducible apply Rm.head | apply Rm.tail)) ?_ ?_; focus rfl) | (refine SelI.ext' (by repeat (first | with_reducible apply Rm.head | apply Rm.tail)) ?_ ?_; focus rfl))); exact SelI.nil))
 | (refine if_decT (by omega) ?_; conv => whnf)
 | with_reducible apply_assumption -symm -exfalso)
    obtain rfl : k = 16 := by omega
    clear hL7 hlt hk
    have hrf := OM.mid_refuse hm hcx rfl
    obtain ⟨hrf1, hm9⟩ := hrf
    have hxo := OM.item_ok hIs hcx
    have hap1 := fun w => apply1014 (d := d) (a := none) (cap := 0) (c := OM.resC (OM.inX o to) 16 OM.eps) hko hIs (OM.resC_ok (res := 16) (d := OM.eps) hxo (by decide) (by decide)) (fun _ => rfl) w
    rw [hrf1] at hap1
    have hgiv := OM.mid_taken hm9 (OM.ok_iff.1 hrok) hIo.cov
    obtain ⟨cx9, hcx9⟩ := hm9.in_
    generalize (s.apply (OM.resC (OM.inX o to) 16 OM.eps)).1 = s1 at hap1 hm9 hgiv hcx9
    have hIs1 := hm9.inv
    have hap2 := fun w => apply1014 (d := d) (a := none) (cap := 0) (c := OM.resC (OM.inX o to) 0 OM.dataS) hko hIs1 (OM.resC_ok (res := 0) (d := OM.dataS) hxo (by decide) (by decide)) (fun _ => rfl) w
    obtain ⟨hg1, hg2⟩ := hgiv
    rw [hg1] at hap2
    generalize (s1.apply (OM.resC (OM.inX o to) 0 OM.dataS)).1 = s2 at hap2 hg2
    have hapA : ∀ w, Fr Tryz.prog 14 #[pv d, .agg (denL (cmV (OM.resC (OM.inX o to) 16 OM.eps) none 0 0)).toArray] w (AssL [.ext 12 (OrchA d s), .ext 9 (GlA o0 o1), .ext 8 (dfA OM.zDef none 0)]) (rpV ⟨9, 0⟩) (AssL [.ext 12 (OrchA d s1), .ext 9 (GlA o0 o1), .ext 8 (dfA OM.zDef none 0)]) := hap1
    have hapB : ∀ w, Fr Tryz.prog 14 #[pv d, .agg (denL (cmV (OM.resC (OM.inX o to) 0 OM.dataS) none 0 0)).toArray] w (AssL [.ext 12 (OrchA d s1), .ext 9 (GlA o0 o1), .ext 8 (dfA OM.zDef none 0)]) (rpV ⟨0, 0⟩) (AssL [.ext 12 (OrchA d s2), .ext 9 (GlA o0 o1), .ext 8 (dfA OM.zDef none 0)]) := hap2
    clear hap1 hap2 hg1 hrf1
    have hrbx : (true = true) ↔ (OM.inX o to) ∈ s.items := ⟨fun _ => OM.mid_items ⟨cx, hcx⟩, fun _ => rfl⟩
    have hit1012 := fun w => items1012 (d := d) hko hIs w
    repeat' (first
 | with_reducible refine r_stop 45 ?_
 | with_reducible ((first | refine r_seq (fun KS hS => ?_) | (refine hS _ _ ?_; clear hS KS) | (refine hB _ ?_; clear hB KB)))
 | ((with_reducible (first | refine r_region ?_ | refine r_cond (fun KA hA KB hB => ?_) | refine r_exit ?_)); conv => whnf)
 | with_reducible apply_assumption -symm -exfalso)
    refine StopR.mk ?_
    refine r_seq (fun KS3 hS3 => ?_)
    refine r_par (β := Option Addr × Nat) (id := 45) [⟨0, [], none, fun _ _ => .v (pv d), fun _ _ => []⟩, ⟨1, [0], some 100, fun _ q2 => .v (.slice q2.1 s.items.length q2.2), fun _ q2 => [.ext 12 (OrchA d s), .ext 9 (GlA o0 o1), .ext 8 (dfA OM.zDef none 0), .ext 5 (SlA 31 6 q2.1 s.items.length q2.2 (imC s))]⟩, ⟨2, [], none, fun _ _ => .agg (itV ((OM.inX o to))), fun _ _ => []⟩, ⟨3, [1, 2], some 1, fun _ _ => .v (.bool true), fun l _ => match l with | [z1, _] => [.ext 12 (OrchA d s), .ext 9 (GlA o0 o1), .ext 8 (dfA OM.zDef none 0), .ext 5 (SlA 31 6 z1.1 s.items.length z1.2 (imC s))] | _ => []⟩, ⟨4, [3], none, fun _ _ => .v (.bool false), fun _ _ => []⟩, ⟨5, [4, 3], none, fun _ _ => .v (.bool false), fun _ _ => []⟩, ⟨6, [5], none, fun _ _ => .v (pv d), fun _ _ => []⟩, ⟨7, [5], none, fun _ _ => .agg (itV ((OM.inX o to))), fun _ _ => []⟩, ⟨8, [7, 5], none, fun _ _ => .v (.agg (denL (cmV (OM.resC (OM.inX o to) 16 OM.eps) none 0 0)).toArray), fun _ _ => []⟩, ⟨9, [6, 8, 3, 1, 5], some 3, fun _ _ => .agg [.v (.int .i64 9), .v (.int .i64 0), .v (.string ⟨#[]⟩)], fun l _ => match l with | [_, _, _, z1, _] => [.ext 12 (OrchA d s1), .ext 9 (GlA o0 o1), .ext 8 (dfA OM.zDef none 0), .ext 5 (SlA 31 6 z1.1 s.items.length z1.2 (imC s))] | _ => []⟩, ⟨10, [5], none, fun _ _ => .agg [.v (.int .i64 9), .v (.int .i64 0), .v (.string ⟨#[]⟩)], fun _ _ => []⟩, ⟨11, [9, 10, 5], none, fun _ _ => .v (.bool false), fun _ _ => []⟩, ⟨12, [5, 11], none, fun _ _ => .v (.bool false), fun _ _ => []⟩, ⟨13, [12, 9], none, fun _ _ => .v (.bool false), fun _ _ => []⟩, ⟨14, [13], none, fun _ _ => .v (pv d), fun _ _ => []⟩, ⟨15, [13], none, fun _ _ => .agg (itV ((OM.inX o to))), fun _ _ => []⟩, ⟨16, [15, 13], none, fun _ _ => .v (.agg (denL (cmV (OM.resC (OM.inX o to) 0 OM.dataS) none 0 0)).toArray), fun _ _ => []⟩, ⟨17, [14, 16, 9, 1, 13], some 9, fun _ _ => .agg [.v (.int .i64 0), .v (.int .i64 0), .v (.string ⟨#[]⟩)], fun l _ => match l with | [_, _, _, z1, _] => [.ext 12 (OrchA d s2), .ext 9 (GlA o0 o1), .ext 8 (dfA OM.zDef none 0), .ext 5 (SlA 31 6 z1.1 s.items.length z1.2 (imC s))] | _ => []⟩, ⟨18, [13], none, fun _ _ => .agg [.v (.int .i64 0), .v (.int .i64 0), .v (.string ⟨#[]⟩)], fun _ _ => []⟩, ⟨19, [17, 18, 13], none, fun _ _ => .v (.bool false), fun _ _ => []⟩, ⟨20, [13, 19], none, fun _ _ => .v (.bool false), fun _ _ => []⟩] [⟨100, [], none, fun _ _ => .v undef, fun _ _ => [.ext 12 (OrchA d s), .ext 9 (GlA o0 o1), .ext 8 (dfA OM.zDef none 0)]⟩] 0 [.blk 75 b16 (itV (OM.inX o to)) 31, .blk 74 b14 (itV (OM.outX o fr) ++ itV (OM.inX o to)) 31, .blk 70 b6 (cmV (mvK rg to) none 0 0) 42, .ext 60 (MpKT mm (oldF o 16))] mixed (by kernel_rfl) (by kernel_rfl) (by show HSub [.ext 12 (OrchA d s), .ext 9 (GlA o0 o1), .ext 8 (dfA OM.zDef none 0), .blk 75 b16 (itV (OM.inX o to)) 31, .blk 74 b14 (itV (OM.outX o fr) ++ itV (OM.inX o to)) 31, .blk 70 b6 (cmV (mvK rg to) none 0 0) 42, .ext 60 (MpKT mm (oldF o 16))] _; exact (by (try dsimp only [List.cons_append, List.nil_append, den, denL]); refine SelI.spec ?_; (repeat (first | refine SelI.blk (by repeat (first | with_reducible apply Rm.head | apply Rm.tail)) ?_ | refine SelI.ext (by repeat (first | with_reducible apply Rm.head | apply Rm.tail)) ?_ | (refine SelI.blk' (by repeat (first | with_reducible apply Rm.head | apply Rm.tail)) ?_ ?_; focus rfl) | (refine SelI.ext' (by repeat (first | with_reducible apply Rm.head | apply Rm.tail)) ?_ ?_; focus rfl))); exact SelI.nil)) ?_ ?_
    · as_aux_lemma =>
      conv => whnf
      repeat' (first | ((with_reducible refine And.intro ?_ ?_); all_goals (conv => whnf)) | ((with_reducible intro zz2 AA KP hP); conv => whnf))
      repeat' (first
 | ((with_reducible intro b); conv => whnf)
 | ((with_reducible refine CallK.at 15 ?_); (first | refine CallK.pu (fun w => result1015 (OM.inX o to) 16 OM.eps w) ?_ | refine CallK.pu (fun w => result1015 (OM.inX o to) 0 OM.dataS w) ?_); conv => whnf)
 | ((with_reducible refine CallK.id ?_); (first | (refine CallK.selS (.agg [.v (.int .i64 9), .v (.int .i64 0), .v (.string ⟨#[]⟩)]) rfl (by apply Sel.cons; (case h => repeat (first | with_reducible apply Rm.head | apply Rm.tail)); apply Sel.cons; (case h => repeat (first | with_reducible apply Rm.head | apply Rm.tail)); apply Sel.cons; (case h => repeat (first | with_reducible apply Rm.head | apply Rm.tail)); exact Sel.nil) (fun ms w hk => hapA w) ?_) | (refine CallK.selS (.agg [.v (.int .i64 0), .v (.int .i64 0), .v (.string ⟨#[]⟩)]) rfl (by apply Sel.cons; (case h => repeat (first | with_reducible apply Rm.head | apply Rm.tail)); apply Sel.cons; (case h => repeat (first | with_reducible apply Rm.head | apply Rm.tail)); apply Sel.cons; (case h => repeat (first | with_reducible apply Rm.head | apply Rm.tail)); exact Sel.nil) (fun ms w hk => hapB w) ?_) | refine CallK.s2 (by repeat (first | with_reducible apply Rm.head | apply Rm.tail)) (by repeat (first | with_reducible apply Rm.head | apply Rm.tail)) (fun ms w hk => hit1012 w) ?_); conv => whnf)
 | ((with_reducible refine CallK.at 16 ?_); refine CallK.puW (fun ms w hk => contains1016 (r := true) (Sees.rd (Sees.ext (by repeat (first | with_reducible apply At.head | apply At.tail))) hk) hil hrbx) ?_; conv => whnf)
 | (((with_reducible apply OpK.more); (focus refine sok2); (conv => whnf); fail_if_success guard_target =ₛ False))
 | ((with_reducible apply hP); all_goals (first | exact default | ((repeat' (first | exact SubD.nil | (refine SubD.cons rfl rfl ?_) | (refine SubD.cons rfl (by simp [den]) ?_))); done) | ((try dsimp only [mapZ, List.cons_append, List.nil_append, den, denL]); refine SelI.spec ?_; repeat (first | apply SelI.nil | refine SelI.blk (by repeat (first | with_reducible apply Rm.head | apply Rm.tail)) ?_ | refine SelI.ext (by repeat (first | with_reducible apply Rm.head | apply Rm.tail)) ?_ | (refine SelI.blk' (by repeat (first | with_reducible apply Rm.head | apply Rm.tail)) ?_ ?_; focus rfl) | (refine SelI.ext' (by repeat (first | with_reducible apply Rm.head | apply Rm.tail)) ?_ ?_; focus rfl))))))
    conv => whnf
    intro zz2
    conv => whnf
    try dsimp only
    clear hapA hapB hit1012 hrbx
    repeat' (first
 | with_reducible ((first | refine r_seq (fun KS hS => ?_) | (refine hS _ _ ?_; clear hS KS) | (refine hB _ ?_; clear hB KB)))
 | ((with_reducible (first | refine r_region ?_ | refine r_cond (fun KA hA KB hB => ?_) | refine r_skip ?_)); conv => whnf)
 | ((with_reducible refine WrapK.i64 ?_ ?_); (focus omega); conv => whnf)
 | (refine hL4 s2 hg2 _ _ (by repeat' (first | exact Sub.nil | (refine Sub.cons rfl rfl ?_))) (by (try dsimp only [List.cons_append, List.nil_append, den, denL]); refine SelI.spec ?_; (repeat (first | refine SelI.blk (by repeat (first | with_reducible apply Rm.head | apply Rm.tail)) ?_ | refine SelI.ext (by repeat (first | with_reducible apply Rm.head | apply Rm.tail)) ?_ | (refine SelI.blk' (by repeat (first | with_reducible apply Rm.head | apply Rm.tail)) ?_ ?_; focus rfl) | (refine SelI.ext' (by repeat (first | with_reducible apply Rm.head | apply Rm.tail)) ?_ ?_; focus rfl))); exact SelI.nil))
 | (apply r_split 3 (id := 47); refine mixed; kernel_rfl; kernel_rfl; kernel_rfl; intro K' hK; conv => whnf)
 | ((with_reducible ((first | refine InAt.mk (fun K' hK => ?_) | refine AnyAt.mk (fun K' hK => ?_) | (refine hK _ ?_; clear hK K') | (refine hK _ _ ?_; clear hK K')))); conv => whnf)
 | (refine And.intro ?_ ?_; all_goals (conv => whnf))
 | with_reducible apply_assumption -symm -exfalso)
end Go.Proofs.YtjkmpaggfbghiaaGreatDoor
