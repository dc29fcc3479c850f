/- Contracts and lemmas for the claim (part XC1); no condition of its own. -/
import Derived.Test.YtbgnoibellfojaaGreatDoorXC0
import Derived.Deep.Slices
set_option linter.all false
set_option linter.unusedVariables false
set_option linter.unusedSimpArgs false
set_option linter.unnecessarySimpa false
namespace Go.Proofs.YtbgnoibellfojaaGreatDoor
open Go Go.X Go.ChangeShapes Go.WideShapes Go.RowKit
set_option maxRecDepth 100000
set_option maxHeartbeats 0
section
variable {H : Type} {enc : TypeId × Value → H} {w : World} {sp : Nat → Bool}
theorem eff_cells {fuel : Nat} {cs : List Value} {x : DataW H × List MemPlace} (h : DataW.trod enc Tryz.prog w 0 sp true fuel 39 cs = some x) : ∃ a b c : Int, cs = [.int .i64 a, .int .i64 b, .int .i64 c] := by
  obtain ⟨xs, n, rfl, hx, hl, hxl, hall⟩ := DataW.trod_struct Tryz.underlying39 h
  have hC : Tryz.prog.cellsOf 39 = 3 := by kernel_rfl
  rw [hC] at hl
  match cs, hl with
  | [c0, c1, c2], _ =>
  match xs, hxl with
  | [y0, y1, y2], _ =>
  have q0 := hall 0 _ rfl
  have e0 : DataW.trod enc Tryz.prog w 0 sp true n 3 (([c0, c1, c2].drop 0).take (Tryz.prog.cellsOf 3)) = some y0 := q0
  rw [show Tryz.prog.cellsOf 3 = 1 by kernel_rfl] at e0
  obtain ⟨z0, f0, _, _⟩ := DataW.trod_int Tryz.underlying3 e0
  simp only [List.drop_zero, List.take_succ_cons, List.take_zero, List.drop_succ_cons, List.cons.injEq, and_true] at f0
  have q1 := hall 1 _ rfl
  have e1 : DataW.trod enc Tryz.prog w 0 sp true n 3 (([c0, c1, c2].drop 1).take (Tryz.prog.cellsOf 3)) = some y1 := q1
  rw [show Tryz.prog.cellsOf 3 = 1 by kernel_rfl] at e1
  obtain ⟨z1, f1, _, _⟩ := DataW.trod_int Tryz.underlying3 e1
  simp only [List.drop_zero, List.take_succ_cons, List.take_zero, List.drop_succ_cons, List.cons.injEq, and_true] at f1
  have q2 := hall 2 _ rfl
  have e2 : DataW.trod enc Tryz.prog w 0 sp true n 3 (([c0, c1, c2].drop 2).take (Tryz.prog.cellsOf 3)) = some y2 := q2
  rw [show Tryz.prog.cellsOf 3 = 1 by kernel_rfl] at e2
  obtain ⟨z2, f2, _, _⟩ := DataW.trod_int Tryz.underlying3 e2
  simp only [List.drop_zero, List.take_succ_cons, List.take_zero, List.drop_succ_cons, List.cons.injEq, and_true] at f2
  subst f0 f1 f2
  exact ⟨_, _, _, rfl⟩
theorem bal_cells {fuel : Nat} {cs : List Value} {x : DataW H × List MemPlace} (h : DataW.trod enc Tryz.prog w 0 sp true fuel 23 cs = some x) : ∃ a b : Int, cs = [.int .i64 a, .int .i64 b] := by
  obtain ⟨xs, n, rfl, hx, hl, hxl, hall⟩ := DataW.trod_struct Tryz.underlying23 h
  have hC : Tryz.prog.cellsOf 23 = 2 := by kernel_rfl
  rw [hC] at hl
  match cs, hl with
  | [c0, c1], _ =>
  match xs, hxl with
  | [y0, y1], _ =>
  have q0 := hall 0 _ rfl
  have e0 : DataW.trod enc Tryz.prog w 0 sp true n 3 (([c0, c1].drop 0).take (Tryz.prog.cellsOf 3)) = some y0 := q0
  rw [show Tryz.prog.cellsOf 3 = 1 by kernel_rfl] at e0
  obtain ⟨z0, f0, _, _⟩ := DataW.trod_int Tryz.underlying3 e0
  simp only [List.drop_zero, List.take_succ_cons, List.take_zero, List.drop_succ_cons, List.cons.injEq, and_true] at f0
  have q1 := hall 1 _ rfl
  have e1 : DataW.trod enc Tryz.prog w 0 sp true n 3 (([c0, c1].drop 1).take (Tryz.prog.cellsOf 3)) = some y1 := q1
  rw [show Tryz.prog.cellsOf 3 = 1 by kernel_rfl] at e1
  obtain ⟨z1, f1, _, _⟩ := DataW.trod_int Tryz.underlying3 e1
  simp only [List.drop_zero, List.take_succ_cons, List.take_zero, List.drop_succ_cons, List.cons.injEq, and_true] at f1
  subst f0 f1
  exact ⟨_, _, rfl⟩
theorem item_cells {fuel : Nat} {cs : List Value} {x : DataW H × List MemPlace} (h : DataW.trod enc Tryz.prog w 0 sp true fuel 48 cs = some x) : ∃ (a b c d : Int) (e : Bool) (f : Int), cs = [.int .i64 a, .int .i64 b, .int .i64 c, .int .i64 d, .bool e, .int .i64 f] := by
  obtain ⟨xs, n, rfl, hx, hl, hxl, hall⟩ := DataW.trod_struct Tryz.underlying48 h
  have hC : Tryz.prog.cellsOf 48 = 6 := by kernel_rfl
  rw [hC] at hl
  match cs, hl with
  | [c0, c1, c2, c3, c4, c5], _ =>
  match xs, hxl with
  | [y0, y1, y2, y3], _ =>
  have q0 := hall 0 _ rfl
  have e0 : DataW.trod enc Tryz.prog w 0 sp true n 39 (([c0, c1, c2, c3, c4, c5].drop 0).take (Tryz.prog.cellsOf 39)) = some y0 := q0
  rw [show Tryz.prog.cellsOf 39 = 3 by kernel_rfl] at e0
  obtain ⟨za, zb, zc, f0⟩ := eff_cells e0
  simp only [List.drop_zero, List.take_succ_cons, List.take_zero, List.drop_succ_cons, List.cons.injEq, and_true] at f0
  have q1 := hall 1 _ rfl
  have e1 : DataW.trod enc Tryz.prog w 0 sp true n 3 (([c0, c1, c2, c3, c4, c5].drop 3).take (Tryz.prog.cellsOf 3)) = some y1 := q1
  rw [show Tryz.prog.cellsOf 3 = 1 by kernel_rfl] at e1
  obtain ⟨z1, f1, _, _⟩ := DataW.trod_int Tryz.underlying3 e1
  simp only [List.drop_zero, List.take_succ_cons, List.take_zero, List.drop_succ_cons, List.cons.injEq, and_true] at f1
  have q2 := hall 2 _ rfl
  have e2 : DataW.trod enc Tryz.prog w 0 sp true n 4 (([c0, c1, c2, c3, c4, c5].drop 4).take (Tryz.prog.cellsOf 4)) = some y2 := q2
  rw [show Tryz.prog.cellsOf 4 = 1 by kernel_rfl] at e2
  obtain ⟨z2, f2, _⟩ := DataW.trod_bool Tryz.underlying4 e2
  simp only [List.drop_zero, List.take_succ_cons, List.take_zero, List.drop_succ_cons, List.cons.injEq, and_true] at f2
  have q3 := hall 3 _ rfl
  have e3 : DataW.trod enc Tryz.prog w 0 sp true n 3 (([c0, c1, c2, c3, c4, c5].drop 5).take (Tryz.prog.cellsOf 3)) = some y3 := q3
  rw [show Tryz.prog.cellsOf 3 = 1 by kernel_rfl] at e3
  obtain ⟨z3, f3, _, _⟩ := DataW.trod_int Tryz.underlying3 e3
  simp only [List.drop_zero, List.take_succ_cons, List.take_zero, List.drop_succ_cons, List.cons.injEq, and_true] at f3
  obtain ⟨rfl, rfl, rfl⟩ := f0
  subst f1 f2 f3
  exact ⟨_, _, _, _, _, _, rfl⟩
theorem ent_cells {fuel : Nat} {cs : List Value} {x : DataW H × List MemPlace} (h : DataW.trod enc Tryz.prog w 0 sp true fuel 87 cs = some x) : ∃ (a b c : Int) (v : ByteArray), cs = [.int .i64 a, .int .i64 b, .int .i64 c, .string v] ∧ v.size ≤ maxLen := by
  obtain ⟨xs, n, rfl, hx, hl, hxl, hall⟩ := DataW.trod_struct Tryz.underlying87 h
  have hC : Tryz.prog.cellsOf 87 = 4 := by kernel_rfl
  rw [hC] at hl
  match cs, hl with
  | [c0, c1, c2, c3], _ =>
  match xs, hxl with
  | [y0, y1, y2], _ =>
  have q0 := hall 0 _ rfl
  have e0 : DataW.trod enc Tryz.prog w 0 sp true n 3 (([c0, c1, c2, c3].drop 0).take (Tryz.prog.cellsOf 3)) = some y0 := q0
  rw [show Tryz.prog.cellsOf 3 = 1 by kernel_rfl] at e0
  obtain ⟨z0, f0, _, _⟩ := DataW.trod_int Tryz.underlying3 e0
  simp only [List.drop_zero, List.take_succ_cons, List.take_zero, List.drop_succ_cons, List.cons.injEq, and_true] at f0
  have q1 := hall 1 _ rfl
  have e1 : DataW.trod enc Tryz.prog w 0 sp true n 23 (([c0, c1, c2, c3].drop 1).take (Tryz.prog.cellsOf 23)) = some y1 := q1
  rw [show Tryz.prog.cellsOf 23 = 2 by kernel_rfl] at e1
  obtain ⟨za, zb, f1⟩ := bal_cells e1
  simp only [List.drop_zero, List.take_succ_cons, List.take_zero, List.drop_succ_cons, List.cons.injEq, and_true] at f1
  have q2 := hall 2 _ rfl
  have e2 : DataW.trod enc Tryz.prog w 0 sp true n 9 (([c0, c1, c2, c3].drop 3).take (Tryz.prog.cellsOf 9)) = some y2 := q2
  rw [show Tryz.prog.cellsOf 9 = 1 by kernel_rfl] at e2
  obtain ⟨z2, f2, _, g2⟩ := DataW.trod_string Tryz.underlying9 e2
  simp only [List.drop_zero, List.take_succ_cons, List.take_zero, List.drop_succ_cons, List.cons.injEq, and_true] at f2
  obtain ⟨rfl, rfl⟩ := f1
  subst f0 f2
  exact ⟨_, _, _, _, rfl, g2⟩
theorem list_ent {fuel : Nat} {cs : List Value} {x : DataW H × List MemPlace} (h : DataW.trod enc Tryz.prog w 0 sp true fuel 24 cs = some x) : ∃ (a : Option Addr) (n cap : Nat), cs = [.slice a n cap] ∧ EntAt w a n ∧ n ≤ maxLen := by
  rcases Go.Deep.open_slice Tryz.underlying24 h with ⟨rfl, _⟩ | ⟨a, len, cap, m, n, D, Pl, rfl, _, hl, hm, hmm, _, hi⟩
  · exact ⟨none, 0, 0, rfl, .inl rfl, Nat.zero_le _⟩
  refine ⟨some a, len, cap, rfl, ?_, Nat.le_trans hl hm⟩
  by_cases h0 : len = 0
  · exact .inl h0
  have hlm : len ≤ m := by rw [hmm]; split <;> omega
  rw [show Tryz.prog.cellsOf 87 = 4 by kernel_rfl] at hi
  have cell : ∀ i, i < len → ∃ (s r nd : Int) (v : ByteArray), v.size ≤ maxLen ∧ ∀ j u, [Value.int .i64 s, .int .i64 r, .int .i64 nd, .string v][j]? = some u → w.cell? ((a.add (i * 4)).add j) = some u := by
    intro i hil
    obtain ⟨cs', hc, ht⟩ := hi i (by omega)
    obtain ⟨s, r, nd, v, rfl, hv⟩ := ent_cells ht
    obtain ⟨_, hcl, hat⟩ := World.cells?_some hc
    refine ⟨s, r, nd, v, hv, fun j u hu => ?_⟩
    have hj : j < 4 := (List.getElem?_eq_some_iff.1 hu).1
    rw [hat j hj]
    exact hu
  have spot0 : a.spot = none ∧ ∃ C t f, w.heap[a.block]? = some (.cells C t f) := by
    obtain ⟨s, _, _, _, _, hc⟩ := cell 0 (by omega)
    have := hc 0 _ rfl
    simp only [Nat.zero_mul, Addr.add, if_pos] at this
    unfold World.cell? at this
    split at this
    · rename_i C t f hh
      split at this
      · cases this
      · rename_i hs
        exact ⟨by simpa using hs, C, t, f, hh⟩
    · cases this
  obtain ⟨hs, C, t, f, hh⟩ := spot0
  obtain ⟨b, off, sp⟩ := a
  dsimp only at hs hh
  subst hs
  refine .inr ⟨b, off, C, t, f, rfl, hh, fun i hil => ?_⟩
  obtain ⟨s, r, nd, v, hv, hc⟩ := cell i hil
  refine ⟨s, r, nd, v, hv, fun j u hu => ?_⟩
  have := hc j u hu
  rw [add_none, add_none] at this
  rw [← this]
  simp [World.cell?, hh]
theorem msg_cells {fuel : Nat} {cs : List Value} {x : DataW H × List MemPlace} (h : DataW.trod enc Tryz.prog w 0 sp true fuel 26 cs = some x) : ∃ (k f t br bn sl nu : Int) (v : ByteArray) (a : Option Addr) (n cap : Nat), cs = [.int .i64 k, .int .i64 f, .int .i64 t, .int .i64 br, .int .i64 bn, .int .i64 sl, .int .i64 nu, .string v, .slice a n cap] ∧ v.size ≤ maxLen ∧ EntAt w a n ∧ n ≤ maxLen := by
  obtain ⟨xs, n, rfl, hx, hl, hxl, hall⟩ := DataW.trod_struct Tryz.underlying26 h
  have hC : Tryz.prog.cellsOf 26 = 9 := by kernel_rfl
  rw [hC] at hl
  match cs, hl with
  | [c0, c1, c2, c3, c4, c5, c6, c7, c8], _ =>
  match xs, hxl with
  | [y0, y1, y2, y3, y4, y5, y6, y7], _ =>
  have q0 := hall 0 _ rfl
  have e0 : DataW.trod enc Tryz.prog w 0 sp true n 3 (([c0, c1, c2, c3, c4, c5, c6, c7, c8].drop 0).take (Tryz.prog.cellsOf 3)) = some y0 := q0
  rw [show Tryz.prog.cellsOf 3 = 1 by kernel_rfl] at e0
  obtain ⟨z0, f0, _, _⟩ := DataW.trod_int Tryz.underlying3 e0
  simp only [List.drop_zero, List.take_succ_cons, List.take_zero, List.drop_succ_cons, List.cons.injEq, and_true] at f0
  have q1 := hall 1 _ rfl
  have e1 : DataW.trod enc Tryz.prog w 0 sp true n 3 (([c0, c1, c2, c3, c4, c5, c6, c7, c8].drop 1).take (Tryz.prog.cellsOf 3)) = some y1 := q1
  rw [show Tryz.prog.cellsOf 3 = 1 by kernel_rfl] at e1
  obtain ⟨z1, f1, _, _⟩ := DataW.trod_int Tryz.underlying3 e1
  simp only [List.drop_zero, List.take_succ_cons, List.take_zero, List.drop_succ_cons, List.cons.injEq, and_true] at f1
  have q2 := hall 2 _ rfl
  have e2 : DataW.trod enc Tryz.prog w 0 sp true n 3 (([c0, c1, c2, c3, c4, c5, c6, c7, c8].drop 2).take (Tryz.prog.cellsOf 3)) = some y2 := q2
  rw [show Tryz.prog.cellsOf 3 = 1 by kernel_rfl] at e2
  obtain ⟨z2, f2, _, _⟩ := DataW.trod_int Tryz.underlying3 e2
  simp only [List.drop_zero, List.take_succ_cons, List.take_zero, List.drop_succ_cons, List.cons.injEq, and_true] at f2
  have q3 := hall 3 _ rfl
  have e3 : DataW.trod enc Tryz.prog w 0 sp true n 23 (([c0, c1, c2, c3, c4, c5, c6, c7, c8].drop 3).take (Tryz.prog.cellsOf 23)) = some y3 := q3
  rw [show Tryz.prog.cellsOf 23 = 2 by kernel_rfl] at e3
  obtain ⟨za, zb, f3⟩ := bal_cells e3
  simp only [List.drop_zero, List.take_succ_cons, List.take_zero, List.drop_succ_cons, List.cons.injEq, and_true] at f3
  have q4 := hall 4 _ rfl
  have e4 : DataW.trod enc Tryz.prog w 0 sp true n 3 (([c0, c1, c2, c3, c4, c5, c6, c7, c8].drop 5).take (Tryz.prog.cellsOf 3)) = some y4 := q4
  rw [show Tryz.prog.cellsOf 3 = 1 by kernel_rfl] at e4
  obtain ⟨z4, f4, _, _⟩ := DataW.trod_int Tryz.underlying3 e4
  simp only [List.drop_zero, List.take_succ_cons, List.take_zero, List.drop_succ_cons, List.cons.injEq, and_true] at f4
  have q5 := hall 5 _ rfl
  have e5 : DataW.trod enc Tryz.prog w 0 sp true n 3 (([c0, c1, c2, c3, c4, c5, c6, c7, c8].drop 6).take (Tryz.prog.cellsOf 3)) = some y5 := q5
  rw [show Tryz.prog.cellsOf 3 = 1 by kernel_rfl] at e5
  obtain ⟨z5, f5, _, _⟩ := DataW.trod_int Tryz.underlying3 e5
  simp only [List.drop_zero, List.take_succ_cons, List.take_zero, List.drop_succ_cons, List.cons.injEq, and_true] at f5
  have q6 := hall 6 _ rfl
  have e6 : DataW.trod enc Tryz.prog w 0 sp true n 9 (([c0, c1, c2, c3, c4, c5, c6, c7, c8].drop 7).take (Tryz.prog.cellsOf 9)) = some y6 := q6
  rw [show Tryz.prog.cellsOf 9 = 1 by kernel_rfl] at e6
  obtain ⟨z6, f6, _, g6⟩ := DataW.trod_string Tryz.underlying9 e6
  simp only [List.drop_zero, List.take_succ_cons, List.take_zero, List.drop_succ_cons, List.cons.injEq, and_true] at f6
  have q7 := hall 7 _ rfl
  have e7 : DataW.trod enc Tryz.prog w 0 sp true n 24 (([c0, c1, c2, c3, c4, c5, c6, c7, c8].drop 8).take (Tryz.prog.cellsOf 24)) = some y7 := q7
  rw [show Tryz.prog.cellsOf 24 = 1 by kernel_rfl] at e7
  obtain ⟨la, ln, lc, f7, he, hn⟩ := list_ent e7
  simp only [List.drop_zero, List.take_succ_cons, List.take_zero, List.drop_succ_cons, List.cons.injEq, and_true] at f7
  obtain ⟨rfl, rfl⟩ := f3
  subst f0 f1 f2 f4 f5 f6 f7
  exact ⟨_, _, _, _, _, _, _, _, _, _, _, rfl, g6, he, hn⟩
end
end Go.Proofs.YtbgnoibellfojaaGreatDoor
