/- Contracts and lemmas for the claim (part 15); no condition of its own. -/
import Derived.Test.YtjkmpaggfbghiaaGreatDoorYQC300
import Derived.Test.YtjkmpaggfbghiaaGreatDoorYQC314
import Derived.Test.YtjkmpaggfbghiaaGreatDoorCards
import Derived.Test.YtjkmpaggfbghiaaGreatDoorTie
import Derived.ProofKit
import Derived.OpenShut
import Derived.Lay
import Derived.LaidMore
import Derived.LaidHandle
import Derived.Carry
import Derived.MakeChecks
import Derived.Deep.DeepHandedRow
import Derived.ChangeMaps5
import Derived.ChangeSlices
import Derived.Test.YtjkmpaggfbghiaaGreatDoorYQC306
set_option linter.all false
set_option linter.unusedVariables false
set_option linter.unusedSimpArgs false
set_option linter.unnecessarySimpa false
set_option linter.all false
namespace Go.Proofs.YtjkmpaggfbghiaaGreatDoor
open Go Go.X Go.ChangeShapes Go.WideShapes Go.RowKit
set_option maxRecDepth 1000000
set_option maxHeartbeats 0
section
variable {H : Type} {enc : TypeId × Value → H} {P : Program}
theorem post_of_below {f : Func} {s : ChangeSpec} {apart fresh handsOn again : Bool} {W W' : World} {args : Array Value} {v : Value} {ds gs : List (DataW H)} {before pa pv : List MemPlace}
    (hW : DataW.Whole enc P f.params.toList s.vars apart W args.toList ds gs before)
    (hres : ∀ (b : Nat) (sp : Nat → Bool) (hd : Bool), DataW.TrodAll enc P W' b sp hd f.resultTypes.toList (v.resultList f.resultTypes.size) (s.fn H (ds ++ gs)).results [])
    (hargs : ∀ sp : Nat → Bool, (∀ p ∈ before, sp p.block = true) → DataW.TrodAll enc P W' 0 sp true f.params.toList args.toList (s.fn H (ds ++ gs)).args pa)
    (hvars : ∀ sp : Nat → Bool, (∀ p ∈ before, sp p.block = true) → DataW.TrodVars enc P W' sp s.vars (s.fn H (ds ++ gs)).vars pv)
    (hps : before = pa ++ pv) (hb : Below W.heap.size W W')
    (hok : ∀ (j : Nat) (t : TypeId) (r : Value), f.resultTypes[j]? = some t → (v.resultList f.resultTypes.size)[j]? = some r → Value.okWide P W' .any 0 t r) :
    s.post enc P f apart fresh handsOn again W args v W' := by
  have hlt : ∀ p ∈ before, p.block < W.heap.size := fun p hp => hW.lt p hp
  have hold : ∀ p ∈ before, (fun b => decide (b < W.heap.size)) p.block = true := fun p hp => by simpa using hlt p hp
  refine ⟨ds, gs, before, [], pa, pv, hW, hres _ _ _, hargs _ hold, hvars _ hold, World.keptBut_mono (fun p hp => ⟨hp, ?_⟩) (hb.frame (· ∈ before)), fun _ => ?_⟩
  · rw [hps, List.mem_append] at hp
    exact Or.inr hp
  · obtain ⟨_, _, _, _, _, hz, hn⟩ := hW
    refine ⟨hok, _, _, ([] ++ pa) ++ pv, ⟨[] ++ pa, pv, trodAll_append (hargs _ (fun _ _ => rfl)) (hres _ _ _), hvars _ (fun _ _ => rfl), rfl, ?_, ?_⟩, ?_⟩
    · intro b off hp
      have hin : MemPlace.cell b off ∈ before := by rw [hps]; simpa using hp
      rw [hb.frozen (hlt _ hin)]
      exact hz b off hin
    · intro ha
      have := hn ha
      rw [hps] at this
      simpa using this
    · intro p hp _
      rw [hps]
      simpa using hp
end
theorem and_t {a b : Bool} (h : a = true) (h' : b = true) : (a && b) = true := by rw [h, h']; rfl
theorem own : ownKnob Tryz.prog.godebug = none := by kernel_rfl
theorem laidOut : laidOutB Tryz.prog = true := by kernel_rfl
section
variable {H : Type} {enc : TypeId × Value → H} {P : Program} {W W' : World} {sp : Nat → Bool}
theorem trodAll_below (hl : laidOutB P = true) (hb : Below W.heap.size W W') : ∀ {ts : List TypeId} {vs : List Value} {ds : List (DataW H)} {ps : List MemPlace}, (ts.all fun t => P.readableRec t && decide (t < P.types.size)) = true →
    DataW.TrodAll enc P W 0 (fun _ => true) true ts vs ds ps → (∀ x ∈ ps, x.block < W.heap.size) → (∀ x ∈ ps, sp x.block = true) → DataW.TrodAll enc P W' 0 sp true ts vs ds ps := by
  intro ts
  induction ts with
  | nil =>
    intro vs ds ps _ h _ _
    obtain ⟨rfl, rfl, rfl⟩ := trodAll_nil h
    rfl
  | cons t ts ih =>
    intro vs ds ps hr h hlt hsp
    obtain ⟨v, vs', d, ds', p, q, rfl, rfl, rfl, h1, h2⟩ := trodAll_cons h
    rw [List.all_cons, Bool.and_eq_true, Bool.and_eq_true] at hr
    exact trodAll_cons_mk (WideElems.Trod_stays hl hr.1.1 (of_decide_eq_true hr.1.2) h1 (fun x hx => hb.same (hlt x (List.mem_append_left _ hx))) (fun x hx => hsp x (List.mem_append_left _ hx)))
      (ih hr.2 h2 (fun x hx => hlt x (List.mem_append_right _ hx)) (fun x hx => hsp x (List.mem_append_right _ hx)))
/-- A LAW's END: it answered true, and nothing that stood ahead of it has turned. -/
theorem law_post {f : Func} {s : ChangeSpec} {t4 : TypeId} {args : Array Value} {ds gs : List (DataW H)} {before : List MemPlace} (hl : laidOutB P = true) (h4 : P.underlying t4 = some .bool)
    (hr : (f.params.toList.all fun t => P.readableRec t && decide (t < P.types.size)) = true) (hres : f.resultTypes = #[t4]) (hv : s.vars = [])
    (hW : DataW.Whole enc P f.params.toList s.vars false W args.toList ds gs before) (hfn : s.fn H (ds ++ gs) = { results := [.lit (.bool true)], args := ds }) (hb : Below W.heap.size W W') :
    s.post enc P f false true false false W args (.bool true) W' := by
  have hlt : ∀ p ∈ before, p.block < W.heap.size := fun p hp => hW.lt p hp
  have hW2 := hW
  obtain ⟨p, q, hA, hV, hbef, _⟩ := hW2
  rw [hv] at hV
  obtain ⟨_, rfl⟩ := trodVars_none hV
  have hfa : (s.fn H (ds ++ gs)).args = ds := by rw [hfn]
  have hfr : (s.fn H (ds ++ gs)).results = [.lit (.bool true)] := by rw [hfn]
  have hfv : (s.fn H (ds ++ gs)).vars = [] := by rw [hfn]
  refine post_of_below (pa := p) (pv := []) hW (fun b sp hd => ?_) (fun sp hsp => ?_) (fun sp _ => ?_) hbef hb (ok_one hres rfl (okWide_bool_mk h4 _))
  · rw [hfr, hres]; exact trodAll_mk1 (shut_bool h4 _)
  · rw [hfa]
    exact trodAll_below hl hb hr hA (fun x hx => hlt x (by rw [hbef]; exact List.mem_append_left _ hx)) (fun x hx => hsp x (by rw [hbef]; exact List.mem_append_left _ hx))
  · rw [hfv, hv]; rfl
end
theorem laidMetH.plain {P : Program} {l : List (String × DataW Unit)} {w : World} (h : laidMetH P l w) : laidMet P (l.filter fun x => x.2.handleName?.isNone) w := by
  unfold laidMetH at h
  generalize hfl : (l.filter fun x => x.2.handleName?.isSome) = fl at h
  cases fl with
  | nil =>
    have e : (l.filter fun x => x.2.handleName?.isNone) = l := by
      rw [List.filter_eq_self]
      intro x hx
      have := (List.filter_eq_nil_iff.1 hfl) x hx
      cases hn : x.2.handleName? with
      | none => rfl
      | some s => rw [hn] at this; exact absurd rfl this
    rw [e]
    exact h
  | cons q qs => exact h.1
theorem KObj.of_laid {l : List (String × DataW Unit)} {W : World} (h : laidMetH Tryz.prog l W) (hm1 : ("skald/saga.phases", Rows.laid_skald_saga_phases) ∈ l) (hm2 : ("skald/saga.follow", Rows.laid_skald_saga_follow) ∈ l) :
    ∃ o0 o1, KObj o0 o1 ∧ W.heap[0]? = some o0 ∧ W.heap[1]? = some o1 := by
  obtain ⟨t1, h1⟩ := laid_ints (laidMetH.plain h) (n := "skald/saga.phases") (k := .i64) (zs := [0, 1, 3, 2]) (List.mem_filter.2 ⟨hm1, by kernel_rfl⟩) (g := 0) (by kernel_rfl) (t := 135) (e := 3) (by kernel_rfl) Tryz.underlying135 Tryz.underlying3 (by kernel_rfl) (by kernel_rfl) (by decide)
  obtain ⟨t0, f0, h0⟩ := laid_fns h (n := "skald/saga.follow") (ds := [.nil, .iface "func" (.lit (.string [40, 115, 107, 97, 108, 100, 47, 115, 97, 103, 97, 46, 83, 97, 103, 97, 41, 46, 102, 111, 114, 119, 97, 114, 100])), .iface "func" (.lit (.string [40, 115, 107, 97, 108, 100, 47, 115, 97, 103, 97, 46, 83, 97, 103, 97, 41, 46, 102, 114, 101, 101])), .iface "func" (.lit (.string [40, 115, 107, 97, 108, 100, 47, 115, 97, 103, 97, 46, 83, 97, 103, 97, 41, 46, 117, 110, 100, 111]))]) hm2 (g := 1) (by kernel_rfl) (t := 282) (e := 281) (by kernel_rfl) Tryz.underlying282 Tryz.underlying281 (by kernel_rfl) (by kernel_rfl)
    (.z (.f "(skald/saga.Saga).forward" (by kernel_rfl) (by kernel_rfl) (.f "(skald/saga.Saga).free" (by kernel_rfl) (by kernel_rfl) (.f "(skald/saga.Saga).undo" (by kernel_rfl) (by kernel_rfl) .nil))))
  exact ⟨_, _, ⟨⟨t1, (0, 0), rfl⟩, ⟨t0, f0, rfl⟩⟩, h1, h0⟩
/-- a law's walk, as a call that changes nothing that was there -/
theorem pu_of_gl {P : Program} {f : FuncId} {args : Array Value} {w : World} {o0 o1 : Obj} (h0 : w.heap[0]? = some o0) (h1 : w.heap[1]? = some o1)
    (h : FrZ P f args w (AssL [.ext 9 (GlX o0 o1)]) (fun _ : Unit => .bool true) (fun _ => AssL [.ext 9 (GlA o0 o1)])) : Pu P f args w (.bool true) := by
  have l0 : 0 < w.heap.size := (Array.getElem?_eq_some_iff.1 h0).1
  have l1 : 1 < w.heap.size := (Array.getElem?_eq_some_iff.1 h1).1
  refine (h (fun k => (k = 0 ∨ k = 1) ∨ False) (.cons (x := .ext 9 (GlX o0 o1)) (S := fun k => k = 0 ∨ k = 1) ⟨fun _ hk => hk, ⟨.inl rfl, .inr rfl⟩, h0, h1⟩ (by rintro k (rfl | rfl) <;> assumption) .nil (fun _ _ hk => hk)) (by
    rintro k ((rfl | rfl) | hk)
    · exact l0
    · exact l1
    · exact hk.elim)).mono ?_
  rintro e w' ⟨_, rfl, he, S', hA, _⟩
  have hA : Holds w' [.ext 9 (GlA o0 o1)] S' := hA
  cases hA with
  | @cons _ _ S1 T1 hx hb hH hd =>
    obtain ⟨_, g0, g1⟩ := hx
    refine ⟨rfl, he.os, he.tape, he.output, he.size, fun k hk => ?_⟩
    by_cases e0 : k = 0
    · subst e0; rw [g0, h0]
    · by_cases e1 : k = 1
      · subst e1; rw [g1, h1]
      · exact he.old k hk (fun e => e.elim (fun e => e.elim e0 e1) id)
theorem wf_u16 {n : Int} (h : (Lit.int .u16 n).wf = true) : 0 ≤ n ∧ n ≤ 65535 := by
  simp [Lit.wf, IntKind.min, IntKind.max, IntKind.signed, IntKind.bits] at h; omega
theorem wf_u8 {n : Int} (h : (Lit.int .u8 n).wf = true) : 0 ≤ n ∧ n ≤ 255 := by
  simp [Lit.wf, IntKind.min, IntKind.max, IntKind.signed, IntKind.bits] at h; omega
section
variable {H : Type} {enc : TypeId × Value → H} {w : World} {base : Nat} {sp : Nat → Bool} {held : Bool}
theorem move_cells {fuel : Nat} {cs : List Value} {x : DataW H × List MemPlace} (h : DataW.trod enc Tryz.prog w base sp held fuel 46 cs = some x) : ∃ a b : Nat, cs = [.int .u8 (a : Nat), .int .u16 (b : Nat)] ∧ a ≤ 255 ∧ b ≤ 65535 := by
  obtain ⟨xs, n, _, _, hl, hxl, hall⟩ := DataW.trod_struct Tryz.underlying46 h
  have hC : Tryz.prog.cellsOf 46 = 2 := by kernel_rfl
  have hC5 : Tryz.prog.cellsOf 5 = 1 := by kernel_rfl
  have hC44 : Tryz.prog.cellsOf 44 = 1 := by kernel_rfl
  rw [hC] at hl
  match cs, hl with
  | [c0, c1], _ =>
  match xs, hxl with
  | [y0, y1], _ =>
  have q0 := hall 0 _ rfl
  have e0 : DataW.trod enc Tryz.prog w base sp held n 5 (([c0, c1].drop 0).take (Tryz.prog.cellsOf 5)) = some y0 := q0
  rw [hC5] at e0
  have q1 := hall 1 _ rfl
  have e1 : DataW.trod enc Tryz.prog w base sp held n 44 (([c0, c1].drop 1).take (Tryz.prog.cellsOf 44)) = some y1 := q1
  rw [hC44] at e1
  obtain ⟨z0, f0, _, g0⟩ := DataW.trod_int Tryz.underlying5 e0
  obtain ⟨z1, f1, _, g1⟩ := DataW.trod_int Tryz.underlying44 e1
  simp only [List.drop_zero, List.take_succ_cons, List.take_zero, List.drop_succ_cons, List.cons.injEq, and_true] at f0 f1
  have b0 := wf_u8 g0
  have b1 := wf_u16 g1
  refine ⟨z0.toNat, z1.toNat, ?_, by omega, by omega⟩
  rw [f0, f1, Int.toNat_of_nonneg b0.1, Int.toNat_of_nonneg b1.1]
end
theorem maxLen_le {n : Nat} (h : n ≤ maxLen) : n ≤ 9223372036854775807 := h
/-- a caller's list of moves, as it is read -/
theorem moves_arg {H : Type} {enc : TypeId × Value → H} {W : World} {v : Value} {d : DataW H} {ps : List MemPlace} {base : Nat} (hval : Value.okWide Tryz.prog W .any base 22 v) (h : DataW.Trod enc Tryz.prog W 0 (fun _ => true) true 22 v d ps) :
    ∃ (a : Option Addr) (l : List (Nat × Nat)) (cap : Nat), v = .slice a l.length cap ∧ RdB W a (lmC l) ∧ l.length ≤ cap ∧ l.length ≤ 9223372036854775807 ∧ ∀ m ∈ l, m.1 ≤ 255 ∧ m.2 ≤ 65535 := by
  obtain ⟨a, len, cap, rfl⟩ := okWide_slice Tryz.underlying22 hval
  obtain ⟨fuel, hf⟩ := h
  rcases DataW.trod_slice Tryz.underlying22 hf with ⟨h1, _⟩ | ⟨a', len', cap', elems, rest, n, _, h1, _, _, hl, hm, hlen, hel, _, _⟩
  · simp [Value.cells] at h1
    obtain ⟨rfl, rfl, rfl⟩ := h1
    exact ⟨none, [], 0, rfl, fun i v hi => by simp at hi, Nat.le_refl _, Nat.zero_le _, fun m hm => by cases hm⟩
  · simp [Value.cells] at h1
    obtain ⟨rfl, rfl, rfl⟩ := h1
    have hC : Tryz.prog.cellsOf 46 = 2 := by kernel_rfl
    rw [hC] at hel
    have each : ∀ i, i < len → ∃ m : Nat × Nat, (W.cell? (a'.add (i * 2)) = some (.int .u8 (m.1 : Nat)) ∧ W.cell? ((a'.add (i * 2)).add 1) = some (.int .u16 (m.2 : Nat))) ∧ m.1 ≤ 255 ∧ m.2 ≤ 65535 := by
      intro i hi
      have h2 := hel i hi
      rw [List.getElem?_eq_getElem (by omega), Option.bind_eq_some_iff] at h2
      obtain ⟨cs, h3, h4⟩ := h2
      obtain ⟨x, y, rfl, hx, hy⟩ := move_cells h4
      have h5 := (World.cells?_some h3).2.2
      refine ⟨(x, y), ⟨?_, ?_⟩, hx, hy⟩
      · have := h5 0 (by omega)
        simpa [Addr.add] using this
      · have := h5 1 (by omega)
        simpa using this
    have hz : a'.spot = none ∨ len = 0 := by
      rcases Nat.eq_zero_or_pos len with h0 | h0
      · exact .inr h0
      · left
        obtain ⟨m, ⟨h2, _⟩, _⟩ := each 0 h0
        obtain ⟨b, off, spot⟩ := a'
        simp only [Addr.add, Nat.zero_mul, if_pos, World.cell?] at h2
        split at h2
        · cases spot with
          | none => rfl
          | some s => simp at h2
        · cases h2
    obtain ⟨l, hl2, hlr⟩ : ∃ l : List (Nat × Nat), l.length = len ∧ ∀ i m, l[i]? = some m → (W.cell? (a'.add (i * 2)) = some (.int .u8 (m.1 : Nat)) ∧ W.cell? ((a'.add (i * 2)).add 1) = some (.int .u16 (m.2 : Nat))) ∧ m.1 ≤ 255 ∧ m.2 ≤ 65535 := by
      refine ⟨(List.range len).map fun i => if hi : i < len then Classical.choose (each i hi) else (0, 0), by simp, fun i m hm => ?_⟩
      have hi : i < len := by
        have := (List.getElem?_eq_some_iff.1 hm).1
        simpa using this
      rw [List.getElem?_map, List.getElem?_range hi] at hm
      simp only [Option.map_some, dif_pos hi, Option.some.injEq] at hm
      subst hm
      exact Classical.choose_spec (each i hi)
    subst hl2
    refine ⟨some a', l, cap, rfl, ?_, hl, by have := maxLen_le hm; omega, fun m hm => ?_⟩
    · intro i v hi
      have hlen2 : (lmC l).length = l.length * 2 := flat_len (k := 2) (fun _ => rfl) l
      have hil := (List.getElem?_eq_some_iff.1 hi).1
      rw [hlen2] at hil
      have hq : i / 2 < l.length := by omega
      have hg := flat_get (enc := fun m : Nat × Nat => [Value.int .u8 ((m.1 : Nat) : Int), Value.int .u16 ((m.2 : Nat) : Int)]) (k := 2) (fun _ => rfl) (by decide) l i
      rw [show (lmC l)[i]? = _ from hg, List.getElem?_eq_getElem hq, Option.bind_some] at hi
      obtain ⟨⟨r1, r2⟩, _⟩ := hlr (i / 2) _ (List.getElem?_eq_getElem hq)
      have hsp : a'.spot = none := hz.resolve_right (by omega)
      obtain ⟨b, off, spot⟩ := a'
      dsimp only at hsp
      subst hsp
      have add_of : ∀ n, (⟨b, off, none⟩ : Addr).add n = ⟨b, off + n, none⟩ := by
        intro n
        unfold Addr.add
        split
        · rename_i e; subst e; rfl
        · rfl
      rw [add_of] at r1 r2
      rw [show ((⟨b, off + i / 2 * 2, none⟩ : Addr).add 1) = ⟨b, off + i / 2 * 2 + 1, none⟩ from rfl] at r2
      have hmod : i % 2 = 0 ∨ i % 2 = 1 := by omega
      rcases hmod with hmod | hmod
      · rw [hmod] at hi
        have hv : Value.int .u8 ((l[i / 2].1 : Nat) : Int) = v := by simpa using hi
        rw [hv, show i / 2 * 2 = i by omega] at r1
        simp only [World.cell?] at r1
        split at r1
        · rename_i C t f hh
          exact ⟨b, off, C, t, f, rfl, hh, by simpa using r1⟩
        · cases r1
      · rw [hmod] at hi
        have hv : Value.int .u16 ((l[i / 2].2 : Nat) : Int) = v := by simpa using hi
        rw [hv, show off + i / 2 * 2 + 1 = off + i by omega] at r2
        simp only [World.cell?] at r2
        split at r2
        · rename_i C t f hh
          exact ⟨b, off, C, t, f, rfl, hh, by simpa using r2⟩
        · cases r2
    · obtain ⟨i, hi⟩ := List.mem_iff_getElem?.1 hm
      exact (hlr i m hi).2
end Go.Proofs.YtjkmpaggfbghiaaGreatDoor

set_option linter.all false
namespace Go.Proofs.YtjkmpaggfbghiaaGreatDoor
open Go Go.X
set_option maxRecDepth 100000
set_option maxHeartbeats 0
theorem noIndex1054 {L : List OM.Item} {x : OM.Item} {a : Option Addr} {cap : Nat} {w : World} (hr : RdS w 31 6 a L.length cap (L.flatMap itC)) (hx : x ∉ L) (hl : L.length ≤ 1000) :
    Pu Tryz.prog 54 #[.slice a L.length cap, .agg (denL (itV x)).toArray] w (.int .i64 (-1)) := by
  have sa := fun n' r H => Sees.old (c := ⟨Tryz.prog, TB, n', w, noS, r, TBok⟩) (H := H) hr.old
  refine enter_sound TBok Tryz.func54 rfl rfl Tryz.ntmps54 [.v (.slice a L.length cap), .agg (itV x)] (Kn.start w noS) rfl rfl ?_
  conv => whnf
  repeat' (first
 | with_reducible ((first | refine r_seq (fun KS hS => ?_) | (refine hS _ _ ?_; clear hS KS) | refine r_block ?_))
 | ((with_reducible (first | refine r_region ?_ | intro b)); conv => whnf))
  refine r_loop (α := Nat) (fun i => [(0, .v (.slice a L.length cap)), (3, .loc b 0 0), (7, .v (.int .i64 L.length)), (8, .v (.int .i64 (i : Nat)))]) (fun _ => [.blk 0 b (itV x) 31]) (fun i => i ≤ L.length) (fun i => L.length - i) 0 (Nat.zero_le _) (by repeat' (first | exact Sub.nil | (refine Sub.cons rfl rfl ?_))) (by (try dsimp only [List.cons_append, List.nil_append, den, denL]); refine SelI.spec ?_; (repeat (first | refine SelI.blk (by repeat (first | with_reducible apply Rm.head | apply Rm.tail)) ?_ | refine SelI.ext (by repeat (first | with_reducible apply Rm.head | apply Rm.tail)) ?_ | (refine SelI.blk' (by repeat (first | with_reducible apply Rm.head | apply Rm.tail)) ?_ ?_; focus rfl) | (refine SelI.ext' (by repeat (first | with_reducible apply Rm.head | apply Rm.tail)) ?_ ?_; focus rfl))); exact SelI.nil) ?_
  intro i hi KL hL2
  by_cases hlt : i < L.length
  · obtain ⟨y, hy⟩ : ∃ y, L[i]? = some y := ⟨_, List.getElem?_eq_getElem hlt⟩
    have hne : (x == y) = false := by
      have hm := List.mem_of_getElem? hy
      rw [beq_eq_false_iff_ne]
      rintro rfl
      exact hx hm
    have hcomp := (itEq x y).trans hne
    repeat' (first
 | with_reducible ((first | refine r_seq (fun KS hS => ?_) | (refine hS _ _ ?_; clear hS KS) | (refine hA _ ?_; clear hA KA) | (refine hB _ ?_; clear hB KB) | refine r_block ?_))
 | ((with_reducible (first | refine r_region ?_ | refine r_cond (fun KA hA KB hB => ?_) | refine r_skip ?_ | refine And.intro rfl ?_)); conv => whnf)
 | ((with_reducible refine WrapK.i64 ?_ ?_); (focus omega); conv => whnf)
 | ((with_reducible refine QK.id ?_); (first | refine QK.idx (k := 6) rfl rfl rfl rfl rfl rfl rfl (sa _ _ _) (by omega) (by omega) (it_at hy) (fun b off hp => ?_) | refine QK.ldp rfl rfl hp (List.cons_ne_nil _ _) ?_); conv => whnf)
 | ((with_reducible refine IK.id ?_); refine IK.eqV sok2 rfl rfl rfl ?_; conv => whnf)
 | (refine if_f hcomp ?_; conv => whnf)
 | (refine hL2 (i + 1) _ _ (by show i + 1 ≤ _; omega) (by show L.length - (i + 1) < L.length - i; omega) (by repeat' (first | exact Sub.nil | (refine Sub.cons rfl rfl ?_))) (by (try dsimp only [List.cons_append, List.nil_append, den, denL]); refine SelI.spec ?_; (repeat (first | refine SelI.blk (by repeat (first | with_reducible apply Rm.head | apply Rm.tail)) ?_ | refine SelI.ext (by repeat (first | with_reducible apply Rm.head | apply Rm.tail)) ?_ | (refine SelI.blk' (by repeat (first | with_reducible apply Rm.head | apply Rm.tail)) ?_ ?_; focus rfl) | (refine SelI.ext' (by repeat (first | with_reducible apply Rm.head | apply Rm.tail)) ?_ ?_; focus rfl))); exact SelI.nil))
 | (apply r_quiet; refine mixed; kernel_rfl; kernel_rfl; kernel_rfl; conv => whnf)
 | (refine if_decT (by omega) ?_; conv => whnf)
 | with_reducible apply_assumption -symm -exfalso)
  · obtain rfl : i = L.length := by omega
    repeat' (first
 | with_reducible ((first | refine r_seq (fun KS hS => ?_) | (refine hS _ _ ?_; clear hS KS) | (refine hB _ ?_; clear hB KB)))
 | ((with_reducible (first | refine r_region ?_ | refine r_cond (fun KA hA KB hB => ?_) | refine r_ret ?_ | refine r_exit ?_)); conv => whnf)
 | (refine if_decF (by omega) ?_; conv => whnf)
 | with_reducible apply_assumption -symm -exfalso)
    exact FinK.pu rfl
theorem index1054 {L : List OM.Item} {x : OM.Item} {a : Option Addr} {cap j : Nat} {w : World} (hr : RdS w 31 6 a L.length cap (L.flatMap itC)) (hj : L.findIdx (fun y => x == y) = j) (hjl : j < L.length) (hl : L.length ≤ 1000) :
    Pu Tryz.prog 54 #[.slice a L.length cap, .agg (denL (itV x)).toArray] w (.int .i64 (j : Nat)) := by
  have sa := fun n' r H => Sees.old (c := ⟨Tryz.prog, TB, n', w, noS, r, TBok⟩) (H := H) hr.old
  refine enter_sound TBok Tryz.func54 rfl rfl Tryz.ntmps54 [.v (.slice a L.length cap), .agg (itV x)] (Kn.start w noS) rfl rfl ?_
  conv => whnf
  repeat' (first
 | with_reducible ((first | refine r_seq (fun KS hS => ?_) | (refine hS _ _ ?_; clear hS KS) | refine r_block ?_))
 | ((with_reducible (first | refine r_region ?_ | intro b)); conv => whnf))
  refine r_loop (α := Nat) (fun i => [(0, .v (.slice a L.length cap)), (3, .loc b 0 0), (7, .v (.int .i64 L.length)), (8, .v (.int .i64 (i : Nat)))]) (fun _ => [.blk 0 b (itV x) 31]) (fun i => i ≤ j) (fun i => L.length - i) 0 (Nat.zero_le _) (by repeat' (first | exact Sub.nil | (refine Sub.cons rfl rfl ?_))) (by (try dsimp only [List.cons_append, List.nil_append, den, denL]); refine SelI.spec ?_; (repeat (first | refine SelI.blk (by repeat (first | with_reducible apply Rm.head | apply Rm.tail)) ?_ | refine SelI.ext (by repeat (first | with_reducible apply Rm.head | apply Rm.tail)) ?_ | (refine SelI.blk' (by repeat (first | with_reducible apply Rm.head | apply Rm.tail)) ?_ ?_; focus rfl) | (refine SelI.ext' (by repeat (first | with_reducible apply Rm.head | apply Rm.tail)) ?_ ?_; focus rfl))); exact SelI.nil) ?_
  intro i hi KL hL2
  have hlt : i < L.length := by omega
  obtain ⟨y, hy⟩ : ∃ y, L[i]? = some y := ⟨_, List.getElem?_eq_getElem hlt⟩
  have hyi := (List.getElem?_eq_some_iff.1 hy).2
  by_cases hij : i < j
  · have hne : (x == y) = false := by
      have := List.not_of_lt_findIdx (p := fun y => x == y) (xs := L) (i := i) (by omega)
      rw [hyi] at this
      simpa using this
    have hcomp := (itEq x y).trans hne
    repeat' (first
 | with_reducible ((first | refine r_seq (fun KS hS => ?_) | (refine hS _ _ ?_; clear hS KS) | (refine hA _ ?_; clear hA KA) | (refine hB _ ?_; clear hB KB) | refine r_block ?_))
 | ((with_reducible (first | refine r_region ?_ | refine r_cond (fun KA hA KB hB => ?_) | refine r_skip ?_ | refine And.intro rfl ?_)); conv => whnf)
 | ((with_reducible refine WrapK.i64 ?_ ?_); (focus omega); conv => whnf)
 | ((with_reducible refine QK.id ?_); (first | refine QK.idx (k := 6) rfl rfl rfl rfl rfl rfl rfl (sa _ _ _) (by omega) (by omega) (it_at hy) (fun b off hp => ?_) | refine QK.ldp rfl rfl hp (List.cons_ne_nil _ _) ?_); conv => whnf)
 | ((with_reducible refine IK.id ?_); refine IK.eqV sok2 rfl rfl rfl ?_; conv => whnf)
 | (refine if_f hcomp ?_; conv => whnf)
 | (refine hL2 (i + 1) _ _ (by show i + 1 ≤ _; omega) (by show L.length - (i + 1) < L.length - i; omega) (by repeat' (first | exact Sub.nil | (refine Sub.cons rfl rfl ?_))) (by (try dsimp only [List.cons_append, List.nil_append, den, denL]); refine SelI.spec ?_; (repeat (first | refine SelI.blk (by repeat (first | with_reducible apply Rm.head | apply Rm.tail)) ?_ | refine SelI.ext (by repeat (first | with_reducible apply Rm.head | apply Rm.tail)) ?_ | (refine SelI.blk' (by repeat (first | with_reducible apply Rm.head | apply Rm.tail)) ?_ ?_; focus rfl) | (refine SelI.ext' (by repeat (first | with_reducible apply Rm.head | apply Rm.tail)) ?_ ?_; focus rfl))); exact SelI.nil))
 | (apply r_quiet; refine mixed; kernel_rfl; kernel_rfl; kernel_rfl; conv => whnf)
 | (refine if_decT (by omega) ?_; conv => whnf)
 | with_reducible apply_assumption -symm -exfalso)
  · obtain rfl : i = j := by omega
    have hye : (x == y) = true := by
      have := List.findIdx_getElem (p := fun y => x == y) (xs := L) (w := by omega)
      simp only [hj] at this
      rw [hyi] at this
      exact this
    have hcomp := (itEq x y).trans hye
    repeat' (first
 | with_reducible ((first | refine r_seq (fun KS hS => ?_) | (refine hS _ _ ?_; clear hS KS) | (refine hA _ ?_; clear hA KA) | refine r_block ?_))
 | ((with_reducible (first | refine r_region ?_ | refine r_cond (fun KA hA KB hB => ?_) | refine r_ret ?_ | refine r_skip ?_ | refine And.intro rfl ?_)); conv => whnf)
 | ((with_reducible refine QK.id ?_); (first | refine QK.idx (k := 6) rfl rfl rfl rfl rfl rfl rfl (sa _ _ _) (by omega) (by omega) (it_at hy) (fun b off hp => ?_) | refine QK.ldp rfl rfl hp (List.cons_ne_nil _ _) ?_); conv => whnf)
 | ((with_reducible refine IK.id ?_); refine IK.eqV sok2 rfl rfl rfl ?_; conv => whnf)
 | (refine if_t hcomp ?_; conv => whnf)
 | (apply r_quiet; refine mixed; kernel_rfl; kernel_rfl; kernel_rfl; conv => whnf)
 | (refine if_decT (by omega) ?_; conv => whnf)
 | with_reducible apply_assumption -symm -exfalso)
    exact FinK.pu rfl
theorem contains1016 {L : List OM.Item} {x : OM.Item} {a : Option Addr} {cap : Nat} {w : World} (hr : RdS w 31 6 a L.length cap (L.flatMap itC)) (hl : L.length ≤ 1000) {r : Bool} (hrb : r = true ↔ x ∈ L) :
    Pu Tryz.prog 16 #[.slice a L.length cap, .agg (denL (itV x)).toArray] w (.bool r) := by
  have sa := fun n' r H => Sees.old (c := ⟨Tryz.prog, TB, n', w, noS, r, TBok⟩) (H := H) hr.old
  by_cases hx : x ∈ L
  · obtain ⟨j, hj⟩ : ∃ j, L.findIdx (fun y => x == y) = j := ⟨_, rfl⟩
    have hjl : j < L.length := by
      rw [← hj]
      exact List.findIdx_lt_length_of_exists ⟨x, hx, beq_self_eq_true x⟩
    rw [hrb.2 hx]
    refine enter_sound TBok Tryz.func16 rfl rfl Tryz.ntmps16 [.v (.slice a L.length cap), .agg (itV x)] (Kn.start w noS) rfl rfl ?_
    conv => whnf
    repeat' (first
 | with_reducible ((first | refine r_seq (fun KS hS => ?_) | (refine hS _ _ ?_; clear hS KS)))
 | ((with_reducible (first | refine r_region ?_ | refine r_ret ?_ | refine And.intro rfl ?_ | intro b)); conv => whnf)
 | ((with_reducible refine CallK.at 54 ?_); refine CallK.puW (fun ms w hk => index1054 (Sees.rd (sa _ _ _) hk) hj hjl hl) ?_; conv => whnf))
    exact FinK.pu (by show Value.bool (decide (_ ≤ _)) = _; rw [decide_eq_true (by omega)])
  · have : r = false := by
      cases r with
      | false => rfl
      | true => exact absurd (hrb.1 rfl) hx
    rw [this]
    refine enter_sound TBok Tryz.func16 rfl rfl Tryz.ntmps16 [.v (.slice a L.length cap), .agg (itV x)] (Kn.start w noS) rfl rfl ?_
    conv => whnf
    repeat' (first
 | with_reducible ((first | refine r_seq (fun KS hS => ?_) | (refine hS _ _ ?_; clear hS KS)))
 | ((with_reducible (first | refine r_region ?_ | refine r_ret ?_ | refine And.intro rfl ?_ | intro b)); conv => whnf)
 | ((with_reducible refine CallK.at 54 ?_); refine CallK.puW (fun ms w hk => noIndex1054 (Sees.rd (sa _ _ _) hk) hx hl) ?_; conv => whnf))
    exact FinK.pu rfl
theorem lm_one {l : List (Nat × Nat)} : ∀ u ∈ lmC l, u.oneCell' = true := by
  intro u hu
  obtain ⟨m, _, hm⟩ := List.mem_flatMap.1 hu
  simp only [List.mem_cons, List.not_mem_nil, or_false] at hm
  rcases hm with rfl | rfl <;> rfl
theorem lm_take {w : World} {a : Option Addr} {l : List (Nat × Nat)} (h : RdB w a (lmC l)) (n : Nat) : RdB w a (lmC (l.take n)) := by
  have := h.take (n * 2)
  rwa [flat_take (k := 2) (fun _ => rfl)] at this
def dS : ByteArray := ⟨#[100]⟩
theorem orchOnce1003 {l1 l2 : List (Nat × Nat)} {a1 a2 : Option Addr} {cap1 cap2 n : Nat} {o0 o1 : Obj} {w : World} (hko : KObj o0 o1)
    (hr1 : RdB w a1 (lmC l1)) (hcap1 : l1.length ≤ cap1) (hll1 : l1.length ≤ 9223372036854775807) (hl1 : ∀ m ∈ l1, m.1 ≤ 255 ∧ m.2 ≤ 65535) (hn : n ≤ 255)
    (hr2 : RdB w a2 (lmC l2)) (hcap2 : l2.length ≤ cap2) (hll2 : l2.length ≤ 9223372036854775807) (hl2 : ∀ m ∈ l2, m.1 ≤ 255 ∧ m.2 ≤ 65535) :
    FrZ Tryz.prog 3 #[.slice a1 l1.length cap1, .int .u8 (n : Nat), .slice a2 l2.length cap2] w (AssL [.ext 9 (GlX o0 o1)]) (fun _ : Unit => .bool true) (fun _ => AssL [.ext 9 (GlA o0 o1)]) := by
  refine enter_frZ TBok (H := [.ext 9 (GlX o0 o1)]) all_foot Tryz.func3 rfl rfl Tryz.ntmps3 [.v (.slice a1 l1.length cap1), .v (.int .u8 (n : Nat)), .v (.slice a2 l2.length cap2)] rfl rfl ?_
  intro S hA hlt
  obtain ⟨hSx, hh0, hh1⟩ := GlX.only hA
  have hng1 := notGl hko hh0 hh1 hr1
  have hm1 : Nat.min l2.length 40 ≤ l2.length := Nat.min_le_left _ _
  have hm2 : Nat.min l2.length 40 ≤ 40 := Nat.min_le_right _ _
  have htl : (l2.take (Nat.min l2.length 40)).length = Nat.min l2.length 40 := by rw [List.length_take]; exact Nat.min_eq_left hm1
  have hr2' := lm_take hr2 (Nat.min l2.length 40)
  have hng2 := notGl hko hh0 hh1 hr2'
  have sa := fun n' r H => SeesB.oldX (c := ⟨Tryz.prog, TB, n', w, S, r, TBok⟩) (H := H) hr1 (fun i v b off h1 h2 hb => by
    have := hng1 i v b off h1 h2
    rcases hSx b hb with e | e <;> omega)
  have sb := fun n' r H => SeesB.oldX (c := ⟨Tryz.prog, TB, n', w, S, r, TBok⟩) (H := H) hr2' (fun i v b off h1 h2 hb => by
    have := hng2 i v b off h1 h2
    rcases hSx b hb with e | e <;> omega)
  clear hA hlt hSx hng1 hng2
  obtain ⟨o, ho⟩ : ∃ o, OM.playF (OM.init 4) (l1.take 60) = o := ⟨_, rfl⟩
  have hIo : OM.Inv o := by rw [← ho]; exact (OM.Inv.init (g := 4) (by decide)).play _
  have hpl1011 := fun (w : World) (hr : RdB w a1 (lmC l1)) => played1011 hko hr hcap1 hll1 hl1
  simp only [ho] at hpl1011
  clear ho
  have hil := items_le hIo
  conv => whnf
  by_cases he : o.items.length = 0
  · repeat' (first
 | with_reducible ((first | refine r_seq (fun KS hS => ?_) | (refine hS _ _ ?_; clear hS KS) | (refine hA _ ?_; clear hA KA) | (refine hB _ ?_; clear hB KB)))
 | ((with_reducible (first | refine r_region ?_ | refine r_cond (fun KA hA KB hB => ?_) | refine r_ret ?_ | refine r_skip ?_ | intro b)); conv => whnf)
 | ((with_reducible refine CallK.id ?_); (first | refine CallK.s1 (by repeat (first | with_reducible apply Rm.head | apply Rm.tail)) (fun ms w hk => hpl1011 w (sa _ _ _ ms w hk)) ?_ | refine CallK.s2 (by repeat (first | with_reducible apply Rm.head | apply Rm.tail)) (by repeat (first | with_reducible apply Rm.head | apply Rm.tail)) (fun ms w hk => items1012 hko hIo w) ?_ | refine CallK.s1V (by repeat (first | with_reducible apply Rm.head | apply Rm.tail)) (fun ms w hk => works1013 hko w) ?_); conv => whnf)
 | ((with_reducible apply OpK.more); (focus refine sok); (conv => whnf); fail_if_success guard_target =ₛ False)
 | (refine if_decT (by omega) ?_; conv => whnf)
 | with_reducible apply_assumption -symm -exfalso)
    exact FinK.frZL () rfl (by (try dsimp only [List.cons_append, List.nil_append, den, denL]); refine SelI.spec ?_; (repeat (first | refine SelI.blk (by repeat (first | with_reducible apply Rm.head | apply Rm.tail)) ?_ | refine SelI.ext (by repeat (first | with_reducible apply Rm.head | apply Rm.tail)) ?_ | (refine SelI.blk' (by repeat (first | with_reducible apply Rm.head | apply Rm.tail)) ?_ ?_; focus rfl) | (refine SelI.ext' (by repeat (first | with_reducible apply Rm.head | apply Rm.tail)) ?_ ?_; focus rfl))); exact SelI.nil)
  have hnl : n % o.items.length < o.items.length := Nat.mod_lt _ (by omega)
  obtain ⟨x, hx⟩ : ∃ x, o.items[n % o.items.length]? = some x := ⟨_, List.getElem?_eq_getElem hnl⟩
  obtain ⟨cx, hxw⟩ : ∃ c, (x, c) ∈ o.wanted := by
    have hm := List.mem_of_getElem? hx
    unfold OM.St.items at hm
    obtain ⟨⟨y, c⟩, h1, rfl⟩ := List.mem_map.1 hm
    exact ⟨c, h1⟩
  have hxo := OM.item_ok hIo hxw
  obtain ⟨honce, hgone⟩ := OM.once hIo hxw (d := dS) (by decide)
  have hI1 : OM.Inv (o.apply (OM.resC x 0 dS)).1 := hIo.apply _
  obtain ⟨oa, hoa⟩ : ∃ oa, (o.apply (OM.resC x 0 dS)).1 = oa := ⟨_, rfl⟩
  have hap1014 : ∀ d w, Fr Tryz.prog 14 #[pv d, .agg (denL (cmV (OM.resC x 0 dS) none 0 0)).toArray] w (AssL [.ext 12 (OrchA d o), .ext 9 (GlA o0 o1), .ext 8 (dfA OM.zDef none 0)]) (rpV ⟨0, 0⟩) (AssL [.ext 12 (OrchA d oa), .ext 9 (GlA o0 o1), .ext 8 (dfA OM.zDef none 0)]) := fun d w => by
    have := apply1014 (d := d) (a := none) (cap := 0) (c := OM.resC x 0 dS) hko hIo (OM.resC_ok (res := 0) (d := dS) hxo (by decide) (by decide)) (fun _ => rfl) w
    rw [honce, hoa] at this
    exact this
  rw [hoa] at hgone hI1
  have hIa := hI1
  clear hoa honce
  repeat' (first
 | with_reducible refine r_stop 8 ?_
 | with_reducible ((first | refine r_seq (fun KS hS => ?_) | (refine hS _ _ ?_; clear hS KS) | (refine hB _ ?_; clear hB KB)))
 | ((with_reducible (first | refine r_region ?_ | refine r_cond (fun KA hA KB hB => ?_) | refine r_skip ?_ | refine And.intro rfl ?_ | intro b)); conv => whnf)
 | ((with_reducible refine WrapK.i64 ?_ ?_); (focus omega); conv => whnf)
 | ((with_reducible refine RemK.id ?_); refine RemK.eq (by omega) (tmN n o.items.length) ?_; conv => whnf)
 | ((with_reducible refine CallK.id ?_); (first | refine CallK.s1 (by repeat (first | with_reducible apply Rm.head | apply Rm.tail)) (fun ms w hk => hpl1011 w (sa _ _ _ ms w hk)) ?_ | refine CallK.s2 (by repeat (first | with_reducible apply Rm.head | apply Rm.tail)) (by repeat (first | with_reducible apply Rm.head | apply Rm.tail)) (fun ms w hk => items1012 hko hIo w) ?_); conv => whnf)
 | ((with_reducible refine OpK.id ?_); (first | refine OpK.idx (k := 6) rfl rfl rfl rfl rfl rfl rfl (Sees.ext (by repeat (first | with_reducible apply At.head | apply At.tail))) (by omega) (by omega) (it_at hx) (fun b off hp => ?_) | refine OpK.ldp rfl rfl hp (List.cons_ne_nil _ _) ?_); conv => whnf)
 | ((with_reducible apply OpK.more); (focus refine sok); (conv => whnf); fail_if_success guard_target =ₛ False)
 | (refine if_decF (by omega) ?_; conv => whnf)
 | with_reducible apply_assumption -symm -exfalso)
  refine StopR.mk ?_
  rename_i d _ _ _ _ z _ _ bq
  revert b
  intro b9
  refine Run.hsub (H' := [.ext 12 (OrchA d o), .ext 9 (GlA o0 o1), .blk 13 b9 (itV x) 31, .ext 8 (dfA OM.zDef none 0)]) (HSub.addSlL (L' := [.ext 12 (OrchA d o), .ext 9 (GlA o0 o1), .blk 13 b9 (itV x) 31]) (by (try dsimp only [List.cons_append, List.nil_append, den, denL]); refine SelI.spec ?_; (repeat (first | refine SelI.blk (by repeat (first | with_reducible apply Rm.head | apply Rm.tail)) ?_ | refine SelI.ext (by repeat (first | with_reducible apply Rm.head | apply Rm.tail)) ?_ | (refine SelI.blk' (by repeat (first | with_reducible apply Rm.head | apply Rm.tail)) ?_ ?_; focus rfl) | (refine SelI.ext' (by repeat (first | with_reducible apply Rm.head | apply Rm.tail)) ?_ ?_; focus rfl))); exact SelI.nil)) ?_
  have hlen2 : (lmC (l2.take (Nat.min l2.length 40))).length = Nat.min l2.length 40 * 2 := by rw [flat_len (k := 2) (fun _ => rfl), htl]
  repeat' (first
 | with_reducible ((first | refine r_seq (fun KS hS => ?_) | (refine hS _ _ ?_; clear hS KS) | (refine hB _ ?_; clear hB KB) | refine r_block ?_))
 | ((with_reducible (first | refine r_region ?_ | refine r_cond (fun KA hA KB hB => ?_) | refine r_skip ?_ | refine And.intro rfl ?_ | intro b)); conv => whnf)
 | ((with_reducible refine CallK.at 15 ?_); refine CallK.pu (fun w => result1015 x 0 dS w) ?_; conv => whnf)
 | ((with_reducible refine CallK.id ?_); refine CallK.selS (.agg [.v (.int .i64 0), .v (.int .i64 0), .v (.string ⟨#[]⟩)]) rfl (by apply Sel.cons; (case h => repeat (first | with_reducible apply Rm.head | apply Rm.tail)); apply Sel.cons; (case h => repeat (first | with_reducible apply Rm.head | apply Rm.tail)); apply Sel.cons; (case h => repeat (first | with_reducible apply Rm.head | apply Rm.tail)); exact Sel.nil) (fun ms w hk => hap1014 d w) ?_; dsimp only [layF]; conv => whnf)
 | (((with_reducible apply OpK.more); (focus refine sok2); (conv => whnf); fail_if_success guard_target =ₛ False))
 | ((with_reducible refine OpK.id ?_); (first | refine OpK.minN (b := 40) rfl rfl rfl ?_ | refine OpK.slB rfl rfl rfl rfl rfl rfl (Nat.le_trans (Nat.min_le_left _ _) hcap2) ?_ | refine OpK.appS (k := 2) rfl rfl rfl rfl rfl rfl rfl rfl (by repeat (first | with_reducible apply At.head | apply At.tail)) rfl (SrcK.rdb rfl rfl (sb _ _ _) hlen2 (by decide) lm_one) (big_ok (by omega) (by decide)) (fun a' cap' => ?_)); conv => whnf)
 | with_reducible apply_assumption -symm -exfalso)
  obtain ⟨M, hM⟩ : ∃ M, ((0, 0) :: l2.take (Nat.min l2.length 40) : List (Nat × Nat)) = M := ⟨_, rfl⟩
  have hMl : M.length = 1 + Nat.min l2.length 40 := by rw [← hM, List.length_cons, htl]; omega
  have hMb : ∀ m ∈ M, m.1 ≤ 255 ∧ m.2 ≤ 65535 := by
    intro m hm
    rw [← hM] at hm
    rcases List.mem_cons.1 hm with rfl | hm
    · exact ⟨by decide, by decide⟩
    · exact hl2 m (List.mem_of_mem_take hm)
  have hMc : denL [.v (.int .u8 0), .v (.int .u16 0)] ++ lmC (l2.take (Nat.min l2.length 40)) = lmC M := by rw [← hM]; rfl
  rw [hMc]
  refine r_loop (α := Nat × OM.St) (fun z => [(7, .v (pv d)), (9, .loc b9 13 0), (45, .v (.slice a' (1 + Nat.min l2.length 40) cap')), (46, .v (.int .i64 ((1 + Nat.min l2.length 40 : Nat) : Int))), (47, .v (.int .i64 (z.1 : Nat)))]) (fun z => [.ext 13 (SlA 46 2 a' (1 + Nat.min l2.length 40) cap' (lmC M)), .ext 12 (OrchA d z.2), .ext 9 (GlA o0 o1), .ext 8 (dfA OM.zDef none 0), .blk 13 b9 (itV x) 31]) (fun z => z.1 ≤ 1 + Nat.min l2.length 40 ∧ OM.Reach oa z.2) (fun z => 1 + Nat.min l2.length 40 - z.1) (0, oa) ⟨Nat.zero_le _, .refl oa⟩ (by repeat' (first | exact Sub.nil | (refine Sub.cons rfl rfl ?_))) (by (try dsimp only [List.cons_append, List.nil_append, den, denL]); refine SelI.spec ?_; (repeat (first | refine SelI.blk (by repeat (first | with_reducible apply Rm.head | apply Rm.tail)) ?_ | refine SelI.ext (by repeat (first | with_reducible apply Rm.head | apply Rm.tail)) ?_ | (refine SelI.blk' (by repeat (first | with_reducible apply Rm.head | apply Rm.tail)) ?_ ?_; focus rfl) | (refine SelI.ext' (by repeat (first | with_reducible apply Rm.head | apply Rm.tail)) ?_ ?_; focus rfl))); exact SelI.nil) ?_
  clear hMc hM htl hlen2 hr2' sa sb hap1014 hpl1011 hp hI1
  rintro ⟨i, s⟩ ⟨hi, hre⟩ KL hL2
  dsimp only at hi hre ⊢
  have hI1 : OM.Inv oa := hIa
  have hIs := hre.inv hI1
  by_cases hlt : i < 1 + Nat.min l2.length 40
  · obtain ⟨m, hxm⟩ : ∃ m, M[i]? = some m := ⟨_, List.getElem?_eq_getElem (by omega)⟩
    obtain ⟨hm3, hm4⟩ := hMb m (List.mem_of_getElem? hxm)
    have hgo := hgone s hre
    have hnm : x ∉ s.items := by
      intro hm
      unfold OM.St.items at hm
      obtain ⟨⟨y, c⟩, h1, rfl⟩ := List.mem_map.1 hm
      exact hgo c h1
    have hcn := OM.command_none hgo
    have hrb : (false = true) ↔ x ∈ s.items := ⟨(fun h => by cases h), fun h => absurd h hnm⟩
    have hsl := items_le hIs
    obtain ⟨s1, hs1⟩ : ∃ s1, (s.apply (OM.resC x 0 OM.eps)).1 = s1 := ⟨_, rfl⟩
    have hre1 : OM.Reach oa s1 := by rw [← hs1]; exact .step _ hre
    have hI1s := hre1.inv hI1
    have hap1014 : ∀ w, Fr Tryz.prog 14 #[pv d, .agg (denL (cmV (OM.resC x 0 OM.eps) none 0 0)).toArray] w (AssL [.ext 12 (OrchA d s), .ext 9 (GlA o0 o1), .ext 8 (dfA OM.zDef none 0)]) (rpV ⟨9, 0⟩) (AssL [.ext 12 (OrchA d s1), .ext 9 (GlA o0 o1), .ext 8 (dfA OM.zDef none 0)]) := fun w => by
      have := apply1014 (d := d) (a := none) (cap := 0) (c := OM.resC x 0 OM.eps) hko hIs (OM.resC_ok (res := 0) (d := OM.eps) hxo (by decide) (by decide)) (fun _ => rfl) w
      rw [OM.res_refused hxo (by decide) (by decide) hcn, hs1] at this
      exact this
    have hcm1017 := fun w => command1017 (d := d) (x := x) hko hI1s w
    rw [OM.command_none (hgone s1 hre1)] at hcm1017
    have hok := OM.cmdOf_ok hI1s m.1 m.2
    have hcm1018 := fun w => command1018 (d := d) hko hI1s hm3 hm4 w
    obtain ⟨s2, hs2⟩ : ∃ s2, (s1.apply (OM.cmdOf s1 m.1 m.2)).1 = s2 := ⟨_, rfl⟩
    have hre2 : OM.Reach oa s2 := by rw [← hs2]; exact .step _ hre1
    have hbp1014 := fun a cap ha w => apply1014 (d := d) (a := a) (cap := cap) (c := OM.cmdOf s1 m.1 m.2) hko hI1s hok ha w
    simp only [hs2] at hbp1014
    repeat' (first
 | with_reducible refine r_stop 13 ?_
 | with_reducible ((first | refine r_seq (fun KS hS => ?_) | (refine hS _ _ ?_; clear hS KS) | (refine hA _ ?_; clear hA KA) | refine r_block ?_))
 | ((with_reducible (first | refine r_region ?_ | refine r_cond (fun KA hA KB hB => ?_) | refine r_skip ?_ | refine And.intro rfl ?_ | intro b)); conv => whnf)
 | ((with_reducible refine OpK.id ?_); (first | refine OpK.idx (k := 2) rfl rfl rfl rfl rfl rfl rfl (Sees.ext (by repeat (first | with_reducible apply At.head | apply At.tail))) (by omega) (by omega) (lm_at hxm) (fun b off hp => ?_) | refine OpK.ldp rfl rfl hp (List.cons_ne_nil _ _) ?_); conv => whnf)
 | (refine if_decT (by omega) ?_; conv => whnf)
 | with_reducible apply_assumption -symm -exfalso)
    refine StopR.mk ?_
    refine r_seq (fun KS3 hS3 => ?_)
    refine r_par (β := Option Addr × Nat) (id := 13) [⟨0, [], none, fun _ _ => .v (pv d), fun _ _ => []⟩, ⟨1, [0], some 100, fun _ q2 => .v (.slice q2.1 s.items.length q2.2), fun _ q2 => [.ext 12 (OrchA d s), .ext 9 (GlA o0 o1), .ext 8 (dfA OM.zDef none 0), .ext 5 (SlA 31 6 q2.1 s.items.length q2.2 (imC s))]⟩, ⟨2, [], none, fun _ _ => .agg (itV x), fun _ _ => []⟩, ⟨3, [1, 2], some 1, fun _ _ => .v (.bool false), fun l _ => match l with | [z1, _] => [.ext 12 (OrchA d s), .ext 9 (GlA o0 o1), .ext 8 (dfA OM.zDef none 0), .ext 5 (SlA 31 6 z1.1 s.items.length z1.2 (imC s))] | _ => []⟩, ⟨4, [3], none, fun _ _ => .v (.bool false), fun _ _ => []⟩, ⟨5, [4], none, fun _ _ => .v (pv d), fun _ _ => []⟩, ⟨6, [4], none, fun _ _ => .agg (itV x), fun _ _ => []⟩, ⟨7, [6, 4], none, fun _ _ => .v (.agg (denL (cmV (OM.resC x 0 OM.eps) none 0 0)).toArray), fun _ _ => []⟩, ⟨8, [5, 7, 3, 1, 4], some 3, fun _ _ => .agg [.v (.int .i64 9), .v (.int .i64 0), .v (.string ⟨#[]⟩)], fun l _ => match l with | [_, _, _, z1, _] => [.ext 12 (OrchA d s1), .ext 9 (GlA o0 o1), .ext 8 (dfA OM.zDef none 0), .ext 5 (SlA 31 6 z1.1 s.items.length z1.2 (imC s))] | _ => []⟩, ⟨9, [4], none, fun _ _ => .agg [.v (.int .i64 9), .v (.int .i64 0), .v (.string ⟨#[]⟩)], fun _ _ => []⟩, ⟨10, [8, 9, 4], none, fun _ _ => .v (.bool false), fun _ _ => []⟩, ⟨11, [4, 10], none, fun _ _ => .v (.bool false), fun _ _ => []⟩] [⟨100, [], none, fun _ _ => .v undef, fun _ _ => [.ext 12 (OrchA d s), .ext 9 (GlA o0 o1), .ext 8 (dfA OM.zDef none 0)]⟩] 0 [.blk 14 b [.v (.int .u8 ((m.1 : Nat) : Int)), .v (.int .u16 ((m.2 : Nat) : Int))] 46, .blk 13 b9 (itV x) 31, .ext 13 (SlA 46 2 a' (1 + Nat.min l2.length 40) cap' (lmC M))] mixed (by kernel_rfl) (by kernel_rfl) (by show HSub [.ext 12 (OrchA d s), .ext 9 (GlA o0 o1), .ext 8 (dfA OM.zDef none 0), .blk 14 b [.v (.int .u8 ((m.1 : Nat) : Int)), .v (.int .u16 ((m.2 : Nat) : Int))] 46, .blk 13 b9 (itV x) 31, .ext 13 (SlA 46 2 a' (1 + Nat.min l2.length 40) cap' (lmC M))] _; exact (by (try dsimp only [List.cons_append, List.nil_append, den, denL]); refine SelI.spec ?_; (repeat (first | refine SelI.blk (by repeat (first | with_reducible apply Rm.head | apply Rm.tail)) ?_ | refine SelI.ext (by repeat (first | with_reducible apply Rm.head | apply Rm.tail)) ?_ | (refine SelI.blk' (by repeat (first | with_reducible apply Rm.head | apply Rm.tail)) ?_ ?_; focus rfl) | (refine SelI.ext' (by repeat (first | with_reducible apply Rm.head | apply Rm.tail)) ?_ ?_; focus rfl))); exact SelI.nil)) ?_ ?_
    · conv => whnf
      repeat' (first | ((with_reducible refine And.intro ?_ ?_); all_goals (conv => whnf)) | ((with_reducible intro zz2 AA KP hP); conv => whnf))
      repeat' (first
 | ((with_reducible intro b); conv => whnf)
 | ((with_reducible refine CallK.at 15 ?_); refine CallK.pu (fun w => result1015 x 0 OM.eps w) ?_; conv => whnf)
 | ((with_reducible refine CallK.id ?_); (first | (refine CallK.selS (.agg [.v (.int .i64 9), .v (.int .i64 0), .v (.string ⟨#[]⟩)]) rfl (by apply Sel.cons; (case h => repeat (first | with_reducible apply Rm.head | apply Rm.tail)); apply Sel.cons; (case h => repeat (first | with_reducible apply Rm.head | apply Rm.tail)); apply Sel.cons; (case h => repeat (first | with_reducible apply Rm.head | apply Rm.tail)); exact Sel.nil) (fun ms w hk => hap1014 w) ?_; dsimp only [layF]) | refine CallK.s2 (by repeat (first | with_reducible apply Rm.head | apply Rm.tail)) (by repeat (first | with_reducible apply Rm.head | apply Rm.tail)) (fun ms w hk => items1012 hko hIs w) ?_); conv => whnf)
 | ((with_reducible refine CallK.at 16 ?_); refine CallK.puW (fun ms w hk => contains1016 (r := false) (Sees.rd (Sees.ext (by repeat (first | with_reducible apply At.head | apply At.tail))) hk) hsl hrb) ?_; conv => whnf)
 | (((with_reducible apply OpK.more); (focus refine sok2); (conv => whnf); fail_if_success guard_target =ₛ False))
 | ((with_reducible apply hP); all_goals (first | exact default | ((repeat' (first | exact SubD.nil | (refine SubD.cons rfl rfl ?_) | (refine SubD.cons rfl (by simp [den]) ?_))); done) | ((try dsimp only [mapZ, List.cons_append, List.nil_append, den, denL]); refine SelI.spec ?_; repeat (first | apply SelI.nil | refine SelI.blk (by repeat (first | with_reducible apply Rm.head | apply Rm.tail)) ?_ | refine SelI.ext (by repeat (first | with_reducible apply Rm.head | apply Rm.tail)) ?_ | (refine SelI.blk' (by repeat (first | with_reducible apply Rm.head | apply Rm.tail)) ?_ ?_; focus rfl) | (refine SelI.ext' (by repeat (first | with_reducible apply Rm.head | apply Rm.tail)) ?_ ?_; focus rfl))))))
    conv => whnf
    intro zz2
    conv => whnf
    try dsimp only
    repeat' (first
 | with_reducible ((first | refine r_seq (fun KS hS => ?_) | (refine hS _ _ ?_; clear hS KS) | (refine hB _ ?_; clear hB KB)))
 | ((with_reducible (first | refine r_region ?_ | refine r_cond (fun KA hA KB hB => ?_) | refine r_skip ?_ | refine And.intro rfl ?_ | intro b)); conv => whnf)
 | ((with_reducible refine WrapK.i64 ?_ ?_); (focus omega); conv => whnf)
 | ((with_reducible refine CallK.id ?_); (first | refine CallK.s2V (by repeat (first | with_reducible apply Rm.head | apply Rm.tail)) (by repeat (first | with_reducible apply Rm.head | apply Rm.tail)) (fun ms w hk => hcm1017 w) ?_ | refine CallK.s2 (by repeat (first | with_reducible apply Rm.head | apply Rm.tail)) (by repeat (first | with_reducible apply Rm.head | apply Rm.tail)) (fun ms w hk => hcm1018 w) ?_ | (refine CallK.selV (by apply Sel.cons; (case h => repeat (first | with_reducible apply Rm.head | apply Rm.tail)); apply Sel.cons; (case h => repeat (first | with_reducible apply Rm.head | apply Rm.tail)); apply Sel.cons; (case h => repeat (first | with_reducible apply Rm.head | apply Rm.tail)); exact Sel.nil) (fun ms w hk => hbp1014 b.1.1 b.1.2 b.2 w) ?_; dsimp only [layF])); conv => whnf)
 | (refine hL2 (i + 1, s2) _ _ ⟨by show i + 1 ≤ _; omega, hre2⟩ (by show _ - (i + 1) < _ - i; omega) (by repeat' (first | exact Sub.nil | (refine Sub.cons rfl rfl ?_))) (by (try dsimp only [List.cons_append, List.nil_append, den, denL]); refine SelI.spec ?_; (repeat (first | refine SelI.blk (by repeat (first | with_reducible apply Rm.head | apply Rm.tail)) ?_ | refine SelI.ext (by repeat (first | with_reducible apply Rm.head | apply Rm.tail)) ?_ | (refine SelI.blk' (by repeat (first | with_reducible apply Rm.head | apply Rm.tail)) ?_ ?_; focus rfl) | (refine SelI.ext' (by repeat (first | with_reducible apply Rm.head | apply Rm.tail)) ?_ ?_; focus rfl))); exact SelI.nil))
 | with_reducible apply_assumption -symm -exfalso)
  · obtain rfl : i = 1 + Nat.min l2.length 40 := by omega
    clear hL2
    repeat' (first
 | with_reducible ((first | refine r_seq (fun KS hS => ?_) | (refine hS _ _ ?_; clear hS KS) | (refine hB _ ?_; clear hB KB)))
 | ((with_reducible (first | refine r_region ?_ | refine r_cond (fun KA hA KB hB => ?_) | refine r_ret ?_ | refine r_exit ?_)); conv => whnf)
 | ((with_reducible refine CallK.id ?_); refine CallK.s1V (by repeat (first | with_reducible apply Rm.head | apply Rm.tail)) (fun ms w hk => works1013 hko w) ?_; conv => whnf)
 | (refine if_decF (by omega) ?_; conv => whnf)
 | with_reducible apply_assumption -symm -exfalso)
    exact FinK.frZL () rfl (by (try dsimp only [List.cons_append, List.nil_append, den, denL]); refine SelI.spec ?_; (repeat (first | refine SelI.blk (by repeat (first | with_reducible apply Rm.head | apply Rm.tail)) ?_ | refine SelI.ext (by repeat (first | with_reducible apply Rm.head | apply Rm.tail)) ?_ | (refine SelI.blk' (by repeat (first | with_reducible apply Rm.head | apply Rm.tail)) ?_ ?_; focus rfl) | (refine SelI.ext' (by repeat (first | with_reducible apply Rm.head | apply Rm.tail)) ?_ ?_; focus rfl))); exact SelI.nil)
end Go.Proofs.YtjkmpaggfbghiaaGreatDoor

set_option linter.all false
namespace Go.Proofs.YtjkmpaggfbghiaaGreatDoor
open Go Go.X Go.ChangeShapes Go.WideShapes Go.RowKit
set_option maxRecDepth 1000000
set_option maxHeartbeats 0
noncomputable def plainLaid3 : List (String × DataW Unit) := Rows.orchOnceRow.laid.filter fun x => x.2.handleName?.isNone
noncomputable def witW3 (os : Os) : World :=
  { World.laidAll Tryz.prog os plainLaid3 with heap := (World.laidAll Tryz.prog os plainLaid3).heap.setIfInBounds 1 (.cells #[.nilFunc, .func (.func 366) #[] #[], .func (.func 367) #[] #[], .func (.func 368) #[] #[]] 282) }
theorem metAll3 (os : Os) (args : Array Value) : laidMetH Tryz.prog Rows.orchOnceRow.laid ((witW3 os).forCall (fun _ _ => 0) ⟨#[], args, []⟩).memory :=
  laidMetH_of_parts3 (fuel := 8) (laidMet_of_run' 8 (by kernel_rfl) (by kernel_rfl)) (by kernel_rfl) (by kernel_rfl)
theorem shaped3 (os : Os) : (witW3 os).Shaped Tryz.prog := World.shaped_of_ZipB (by kernel_rfl) (by kernel_rfl)
theorem contract3 (H : Type) (enc : TypeId × Value → H) (W : World) (base : Nat) (args : Array Value) (ds gs : List (DataW H)) (before : List MemPlace)
    (hval : ∀ (j : Nat) t v, Tryz.f3.params[j]? = some t → args[j]? = some v → Value.okWide Tryz.prog W .any base t v)
    (hW : DataW.Whole enc Tryz.prog Tryz.f3.params.toList Rows.orchOnceSpec.vars false W args.toList ds gs before) (hL : laidMetH Tryz.prog Rows.orchOnceRow.laid W) :
    Calls Tryz.prog 3 args W fun e W' => ∃ v, e = .returned v ∧ Rows.orchOnceSpec.post enc Tryz.prog Tryz.f3 false true false false W args v W' := by
  obtain ⟨o0, o1, hko, hh0, hh1⟩ := KObj.of_laid hL (by simp [Rows.orchOnceRow]) (by simp [Rows.orchOnceRow])
  have hW' := hW
  obtain ⟨p, q, hA0, hV, _, _, _⟩ := hW
  have hA : DataW.TrodAll enc Tryz.prog W 0 (fun _ => true) true Tryz.f3.params.toList args.toList ds p := hA0
  clear hA0
  rw [Tryz.params3] at hA hval
  obtain ⟨rfl, _⟩ := trodVars_none hV
  obtain ⟨v0, vs0, d0, ds0, p0, q0, e0, rfl, _, h0, r0⟩ := trodAll_cons hA
  obtain ⟨v1, vs1, d1, ds1, p1, q1, e1, rfl, _, h1, r1⟩ := trodAll_cons r0
  subst e1
  obtain ⟨v2, vs2, d2, ds2, p2, q2, e2, rfl, _, h2, r2⟩ := trodAll_cons r1
  subst e2
  obtain ⟨e3, rfl, _⟩ := trodAll_nil r2
  subst e3
  obtain rfl : args = #[v0, v1, v2] := by cases args; exact congrArg Array.mk e0
  obtain ⟨sa0, sl0, sc0, rfl, r0z, c0, m0, k0⟩ := moves_arg (hval 0 22 v0 rfl rfl) h0
  obtain ⟨n1, rfl, rfl, _, w1⟩ := open_int Tryz.underlying5 (hval 1 5 v1 rfl rfl) h1
  have b1 := wf_u8 w1
  obtain ⟨x1, rfl⟩ : ∃ x : Nat, n1 = (x : Int) := ⟨n1.toNat, by omega⟩
  obtain ⟨sa2, sl2, sc2, rfl, r2z, c2, m2, k2⟩ := moves_arg (hval 2 22 v2 rfl rfl) h2
  refine (Pu.calls (pu_of_gl hh0 hh1 (orchOnce1003 hko r0z c0 m0 k0 (by omega) r2z c2 m2 k2))).mono fun e W' ⟨he, hb⟩ => ?_
  subst he
  exact ⟨_, rfl, law_post laidOut Tryz.underlying4 (by kernel_rfl) rfl rfl hW' rfl hb⟩
theorem lifted3 (os : Os) (started : os.Started) (H : Type) (enc : TypeId × Value → H) :
    ReturnsInHanded {} Tryz.checked os 3 .any (fun w args => (Rows.orchOnceSpec.pre enc Tryz.prog Tryz.f3 Rows.orchOnceRow.domain false w args ∧ laidMetH Tryz.prog Rows.orchOnceRow.laid w) ∧ sizedMet enc Tryz.prog Tryz.f3 (OpenSpec.ofChange Rows.orchOnceSpec) false w args)
      (Rows.orchOnceSpec.post enc Tryz.prog Tryz.f3 false true false false) := by
  refine returnsInHanded_of_change_and (C := Tryz.checked) (X := fun w _ => laidMetH Tryz.prog Rows.orchOnceRow.laid w) (fun _ _ _ hh h => h.of_heap hh) own started (by kernel_rfl) Tryz.func3
    (ChangeSpec.witness_shaped (enc := enc) (C := Tryz.checked) (os := os) (X := fun w _ => laidMetH Tryz.prog Rows.orchOnceRow.laid w) false (witW3 os) #[.slice none 0 0, .int .u8 0, .slice none 0 0] 8 (World.laidAll_os _ _ _)
      (shaped3 os) (by kernel_rfl) (by kernel_rfl) (by kernel_rfl)
      (metAll3 os _)) ?_
  intro W base args ds gs before hval0 hW _ _ hL _
  exact contract3 H enc W base args ds gs before hval0 hW hL
end Go.Proofs.YtjkmpaggfbghiaaGreatDoor

set_option linter.all false
namespace Go.Proofs.YtjkmpaggfbghiaaGreatDoor
open Go Go.X Go.ChangeShapes Go.WideShapes Go.RowKit
set_option maxRecDepth 1000000
set_option maxHeartbeats 0
theorem facts3 : joinedFacts Tryz.pinned.checked.prog 3 Tryz.f3 Rows.orchOnceSpec Rows.orchOnceRow = true := by
  unfold joinedFacts
  repeat' (with_reducible refine and_t ?_ ?_)
  all_goals (as_aux_lemma => kernel_rfl)
end Go.Proofs.YtjkmpaggfbghiaaGreatDoor

set_option linter.all false
namespace Go.Proofs.YtjkmpaggfbghiaaGreatDoor
open Go Go.X Go.ChangeShapes Go.WideShapes Go.RowKit
set_option maxRecDepth 1000000
set_option maxHeartbeats 0
theorem said3 : Rows.OrchOnceSaid :=
  OpenClaim.holds_of_wide 3 Tryz.f3 rfl rfl rfl rfl rfl rfl rfl ⟨rfl, rfl, rfl, rfl, rfl⟩ rfl rfl rfl rfl rfl (by as_aux_lemma => kernel_rfl) Tryz.func3 facts3
    (of_decide_eq_true (by kernel_rfl)) (by unfold Func.isWrapper; first | (rw [if_pos (by decide +kernel)]; kernel_rfl) | (rw [if_neg (by decide +kernel)]; exact ⟨rfl, rfl⟩))
    (fun os started H enc _ => lifted3 os started H enc)
end Go.Proofs.YtjkmpaggfbghiaaGreatDoor
