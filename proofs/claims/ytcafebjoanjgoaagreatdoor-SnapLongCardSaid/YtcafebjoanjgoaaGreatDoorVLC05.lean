/- Lemmas for the claim (part 5); no condition of its own. -/
import Derived.Test.YtcafebjoanjgoaaGreatDoorVLC02
import Derived.Shelf.SlIterI.Nil
import Derived.Shelf.SortM.Plain
import Derived.Shelf.SortM.SortNone
import Derived.Ground.GgzProg
import Derived.Ground.SlgmProg
set_option linter.all false
set_option linter.unusedVariables false
set_option linter.unusedSimpArgs false
set_option linter.unnecessarySimpa false
set_option linter.all false
namespace Go.Proofs
open Go.RowKit Go.Maps Go.Sort Go.Shelf
section
variable {P : Program} {ρ : Ren}
set_option maxRecDepth 100000 in
set_option maxHeartbeats 1000000 in
/-- the iterator over a map's keys, its variable at whatever place -/
theorem keys1N_inOI (L : SlLaysZI.n10 P ρ) {H : Type} (F : Fence) (n : Nat) (h10 : F.fn (ρ.f 10)) (hro : F.round = none) (hn : 1 ≤ n) (l Bm oo b nn : Nat) (D0 : DataW H) {R : Value → Option (DataW H × List MemPlace)} (J : List Int → World → Prop)
    (hY : ∀ pre x W, J pre W → pre.length < Maps.size D0 → YieldAt F (n - 1) P l #[encZ x] W fun e W' => e = .returned (.bool true) ∧ J (pre ++ [x]) W' ∧ KeepsWalks W W')
    (W : World) (hJ : AbidesFrom W.heap.size J) (hm : W.cell? ⟨Bm, oo, none⟩ = some (.map (some b))) (hown : W.ownsMap P (ρ.t 26) R b nn D0) (h0 : J [] W) :
    CallsIn F n P (ρ.f 10) #[.func (.yield l) #[] #[], .pointer (some ⟨Bm, oo, none⟩)] W fun e W' => (∃ v, e = .returned v) ∧ ∃ ss : List Int, ss.Perm (intKeys D0) ∧ J ss W' := by
  have mixed := L.mixed; have t0 := L.t0; have a0 := L.a0; have z0 := L.z0; have v0 := L.v0; have t4 := L.t4; have a4 := L.a4; have z4 := L.z4; have v4 := L.v4; have t23 := L.t23; have a23 := L.a23; have z23 := L.z23; have v23 := L.v23; have t26 := L.t26; have a26 := L.a26; have z26 := L.z26; have v26 := L.v26; have t33 := L.t33; have a33 := L.a33; have z33 := L.z33; have v33 := L.v33
  have u0 := run_underlying L.t0; have u4 := run_underlying L.t4; have u23 := run_underlying L.t23; have u26 := run_underlying L.t26; have u33 := run_underlying L.t33
  obtain ⟨_, _, FG⟩ := L.f10
  refine callsIn_of_wp FG rfl h10 ?_ hro
  simp only [SlBodyZ.n10_ntmps ρ, List.size_toArray, List.length_cons, List.length_nil, Nat.reduceAdd, Nat.reduceSub, Array.replicate_succ, Array.replicate_zero, List.push_toArray, List.append_toArray, List.nil_append, List.cons_append]
  gi_wp2_with (first
    | (gi_at_range; refine wpListIn_range_own _ rfl _ (ρ.t 23) rfl (ρ.t 26) (ρ.t 3) (int_keyed L.t26) L.t23 _ b nn _ rfl hown ?_; intro w0 hrg0 hg0 hs0)
    | gi_in)
  go_frame
  gi_loopw [3] (fun _ wr => ∃ (left : Lit → Bool) (cnt : Nat) (ss : List Int), wr.ranges P (ρ.t 26) R b W.heap.size nn D0 left cnt ∧ ss.length + cnt ≤ Maps.size D0 ∧ CollectedI D0 left ss ∧ J ss wr)
    (fun _ wr => wr.rangeLeft b W.heap.size)
  case atStart =>
    exact ⟨_, _, [], hrg0, by simp, CollectedI.start D0, hJ [] W w0 none h0 hg0 (fun r e => by cases e)⟩
  case round =>
    obtain ⟨left, cnt, ss, hrg, hcs, hC, hJs⟩ := hrel
    gi_wp2_with (first
      | (gi_at_next; refine wpListIn_next_ranges _ rfl _ rfl (ρ.t 26) (int_keyed L.t26) R encZ id (fun key kl hk => by obtain ⟨x, hx, _⟩ := Maps.keyOf_i64 L.t26 hk; exact ⟨x, hx⟩) (fun v _ _ => ⟨v, rfl⟩) b W.heap.size nn _ _ _ rfl hrg ?_ ?_)
      | gi_in)
    · intro hc0 hl0
      gi_wp2
      go_end0
      exact ⟨⟨_, rfl⟩, ss, hC.perm hown (int_keyed L.t26) L.t26 hl0, hJs⟩
    · intro x c kl yd yp w2 cnt2 hkey hlk hv hat hrg2 hlt hg2 hs2 hen
      obtain ⟨x', ex, rfl, _⟩ := Maps.keyOf_i64 L.t26 hkey
      obtain rfl : x = x' := encZ_inj ex
      have hJ2 : J ss w2 := hJ ss wr w2 (some W.heap.size) hJs hg2 (fun r e => by cases e; exact ⟨Nat.le_refl _, hrg.iter_walk⟩)
      obtain ⟨fn, tmps, assign, body, hy, hR⟩ := hY ss x w2 hJ2 (by omega)
      clear hs2
      gi_wp2
      refine hR.mono ?_
      rintro e W3 ⟨rfl, hJ3, hk3⟩
      gi_wp2
      have hrg3 := hrg2.of_walks hk3
      go_roundw
      case rel => exact ⟨_, cnt2, ss ++ [x], hrg3, by simp; omega, hC.step hlk hat, hJ3⟩
      case measure => rw [hrg3.left_eq, hrg.left_eq]; exact hlt
theorem keys_givesOI (L : SlLaysZI.n10 P ρ) {H : Type} (F : Fence) (n : Nat) (h10 : F.fn (ρ.f 10)) (hro : F.round = none) (hn : 1 ≤ n) (Bm oo b nn : Nat) (D0 : DataW H) {R : Value → Option (DataW H × List MemPlace)} (w : World) (hBm : Bm < w.heap.size)
    (hm : w.cell? ⟨Bm, oo, none⟩ = some (.map (some b))) (hown : w.ownsMap P (ρ.t 26) R b nn D0) :
    SeqGives F n P (ρ.f 10) #[.pointer (some ⟨Bm, oo, none⟩)] encZ (fun ss => ss.Perm (intKeys D0)) (Maps.size D0) w := fun l J W hW hJ hY h0 => by
  have hown' : W.ownsMap P (ρ.t 26) R b nn D0 := by
    have hbl := hown.lt
    obtain ⟨es, clock, hb, Ft, hs, hD⟩ := hown
    exact ⟨es, clock, (hW.block b hbl).trans hb, Ft, hs, hD⟩
  exact keys1N_inOI { L with } F n h10 hro hn l Bm oo b nn D0 J hY W hJ ((hW.cell (p := ⟨Bm, oo, none⟩) hBm).trans hm) hown' h0
end
end Go.Proofs
namespace Go.Y
open Go Go.X Go.RowKit Go.Maps Go.Sort Go.Shelf Go.Proofs Go.WideElems Go.WideShapes
theorem wf_i64 {z : Int} (h0 : 0 ≤ z) (h1 : z < 9223372036854775808) : (Lit.int .i64 z).wf = true := by
  have h2 : IntKind.i64.min = -9223372036854775808 := by decide
  have h3 : IntKind.i64.max = 9223372036854775807 := by decide
  simp only [Lit.wf, h2, h3, Bool.and_eq_true, decide_eq_true_eq]
  omega
theorem rd_int {P : Program} {k : TypeId} (hk : P.underlying k = some (.int .i64)) {z : Int} (h0 : 0 ≤ z) (h1 : z < 9223372036854775808) (v : Value) (b : Nat) :
    rd (H := Unit) P k (fun _ => some (.lit (.bool true), [])) ⟨encI z, v, b⟩ = some (.int .i64 z, .lit (.bool true)) := by
  refine rd_mk (yv := (.lit (.bool true), [])) ?_ rfl
  have := wf_i64 h0 h1
  simp [keyOf, hk, mapKey, encI, this]
theorem encI_inj {x y : Int} (h : encI x = encI y) : x = y := by simpa [encI] using h
set_option maxRecDepth 100000 in
theorem srtI_of {P : Program} {ρk ρs : Ren} (Lk : SlLaysZI.n10 P ρk) (Ls : SlLaysZI.n6 P ρs) (hsort : ∀ m, AnyZI.SortsIn P ρs Fence.wide m) (e9 : ∀ args w, (callFunc (ρs.f 9) args).run P w = .ok (.enter (ρs.f 9) args) w)
    (eg : ∀ args w, (callFunc (ρk.f 10) args).run P w = .ok (.enter (ρk.f 10) args) w) (ef : ∀ args w, (callFunc (ρs.f 6) args).run P w = .ok (.enter (ρs.f 6) args) w) : SrtI P (ρs.f 6) (ρk.f 10) (ρs.t 26) where
  enters := ef
  calls := by
    intro w bb o m C tb fr es clk zs hbb hC hm hkeys hne hb1 hb2 hnd hmax hok
    have hlen : es.length = zs.length := by simpa using congrArg List.length hkeys
    let R : Value → Option (DataW Unit × List MemPlace) := fun _ => some (.lit (.bool true), [])
    let D0 : DataW Unit := .map ((es.map (rg P (ρk.t 26) R)).foldr DataW.insert [])
    have hml : (1000000 : Nat) ≤ maxLen := by decide
    have hex : ∀ x ∈ es, ∃ z ∈ zs, x.key = encI z := by
      intro x hx
      have h1 : x.key ∈ zs.map encI := hkeys ▸ List.mem_map.2 ⟨x, hx, rfl⟩
      obtain ⟨z, h2, h3⟩ := List.mem_map.1 h1
      exact ⟨z, h2, h3.symm⟩
    have hrd : ∀ x ∈ es, ∃ z ∈ zs, x.key = encI z ∧ rd P (ρk.t 26) R x = some (.int .i64 z, .lit (.bool true)) := by
      intro x hx
      obtain ⟨z, h1, h2⟩ := hex x hx
      obtain ⟨k, v, b⟩ := x
      cases (show k = encI z from h2)
      exact ⟨z, h1, rfl, rd_int Lk.t26 (hok z h1).1 (hok z h1).2 v b⟩
    have hown : w.ownsMap P (ρk.t 26) R m es.length D0 := by
      refine ⟨es.toArray, clk, hm, ⟨by simpa [hlen] using Nat.le_trans hmax hml, ⟨by simpa using hb1, by simpa using hb2, ?_⟩, fun x hx => ?_⟩, by simp, by simp [D0]⟩
      · show (es.toArray.toList.map (·.key)).Nodup
        simp only [List.toList_toArray, hkeys]
        exact List.pairwise_map.2 (hnd.imp fun h e => h (encI_inj e))
      · obtain ⟨z, _, _, h⟩ := hrd x (by simpa using hx)
        exact ⟨_, h⟩
    have hD : (intKeys D0).Perm zs := by
      show (((es.map (rg P (ρk.t 26) R)).foldr DataW.insert []).map fun p => intOf p.1).Perm zs
      refine ((sorted_perm _).map _).trans ?_
      have : (es.map (rg P (ρk.t 26) R)).map (fun p => intOf p.1) = zs := by
        have h1 : ∀ (es : List MapEntry) (zs : List Int), es.map (·.key) = zs.map encI → (∀ x ∈ es, ∃ z, x.key = encI z ∧ rd P (ρk.t 26) R x = some (.int .i64 z, .lit (.bool true))) → (es.map (rg P (ρk.t 26) R)).map (fun p => intOf p.1) = zs := by
          intro es
          induction es with
          | nil => intro zs h _; cases zs with | nil => rfl | cons z zs => simp at h
          | cons x es ih =>
            intro zs h hx
            cases zs with
            | nil => simp at h
            | cons z zs =>
              simp only [List.map_cons, List.cons.injEq] at h
              obtain ⟨z', h1, h2⟩ := hx x (by simp)
              have : z' = z := encI_inj (h1.symm.trans h.1)
              subst this
              simp only [List.map_cons, rg_of h2]
              rw [ih zs h.2 (fun y hy => hx y (by simp [hy]))]
              rfl
        exact h1 es zs hkeys fun x hx => by obtain ⟨z, _, h2, h3⟩ := hrd x hx; exact ⟨z, h2, h3⟩
      rw [this]
    have hsize : Maps.size D0 = zs.length := by
      show ((es.map (rg P (ρk.t 26) R)).foldr DataW.insert []).length = _
      rw [(sorted_perm _).length_eq, List.length_map, hlen]
    have hbl : bb < w.heap.size := (Array.getElem?_eq_some_iff.1 hbb).1
    have hcell : w.cell? ⟨bb, o, none⟩ = some (.map (some m)) := by
      simp [World.cell?, hbb, hC]
    have hseq := keys_givesOI Lk Fence.wide 2 trivial rfl (by omega) bb o m es.length D0 w hbl hcell hown
    have cS := AnyZI.sorted_in Ls Fence.wide 5 trivial trivial trivial trivial rfl (by omega) (hsort _) e9 (ρk.f 10) #[.pointer (some ⟨bb, o, none⟩)] trivial eg _ (Maps.size D0) (by rw [hsize]; omega) (by rw [hsize]; omega) w hseq
    refine (callsIn_wide.1 cS).mono ?_
    rintro e w' ⟨v, ss, rfl, hp, hrow, hnil, hB⟩
    have hp2 : ss.Perm zs := hp.trans hD
    rcases hrow.2 with ⟨rfl, hz⟩ | ⟨g, cap, cur, rfl, hge, hg, h1, h2, h3, h4⟩
    · exact absurd (List.eq_nil_of_length_eq_zero (by rw [← hp2.length_eq]; exact hz)) hne
    · have hms : ss.mergeSort (fun x y => decide (x ≤ y)) = zs.mergeSort (fun x y => decide (x ≤ y)) := mergeSort_of_perm_i hp2
      have hl := hp2.length_eq
      rw [hl] at h1 h4 ⊢
      have hcur : cur = (((zs.mergeSort (fun x y => decide (x ≤ y))).map encI) ++ cur.toList.drop zs.length).toArray := by
        apply Array.ext'
        simp only
        rw [hms] at h4
        have h4' : cur.toList.take zs.length = (zs.mergeSort (fun x y => decide (x ≤ y))).map encI := by
          rw [Nat.mul_one] at h4
          exact h4
        rw [← h4', List.take_append_drop]
      refine ⟨⟨g, 0, none⟩, cap, rfl, ⟨hB.os, hB.tape, hB.output, hB.size, fun k hk _ => hB.block k hk⟩, fun k => k = g, .inr ⟨g, rfl, [], cur.toList.drop zs.length, (0, 0), rfl, ?_, ?_, h1, ?_, ?_⟩, ?_⟩
      · rw [hg, List.nil_append]
        congr 2
      · rw [List.length_map, List.length_mergeSort, Nat.mul_one]
      · have : cur.toList.length = cap := by simp [h3]
        rw [List.length_drop, this]
        simp
      · simp
      · rintro k rfl
        exact ⟨(Array.getElem?_eq_some_iff.1 hg).1, .inr hge⟩
end Go.Y
