/- Contracts and lemmas for the claim (part XE39); no condition of its own. -/
import Derived.Test.YtbgnoibellfojaaGreatDoorXE38
set_option linter.all false
set_option linter.unusedVariables false
set_option linter.unusedSimpArgs false
set_option linter.unnecessarySimpa false
namespace Go.X
open Go
section
variable {c : Cx} {H : List Blk} {E : Env} {nx : K1} {o : Oper}
/-- a slice that is not empty has an address -/
theorem Run.slAddr {x : Code} {k : KC} {i e m : Nat} {a : Option Addr} {n cap : Nat} {cs : List Value} {f : Blk → List Blk} (hu : At H (.ext i (SlA e m a n cap cs)) f) (hn : 0 < n)
    (h : ∀ b off, a = some ⟨b, off, none⟩ → Run c x E H k) : Run c x E H k := by
  match a with
  | none =>
    refine .of fun ms ac w hac hk => ?_
    obtain ⟨S, hS, _⟩ := (Sees.ext (c := c) hu) ms w hk
    rcases hS with ⟨_, rfl, _, _⟩ | ⟨b', hb, pre, post, fr, he, _⟩
    · omega
    · cases he
  | some ⟨b, off, none⟩ => exact h b off rfl
  | some ⟨b, off, some p⟩ =>
    refine .of fun ms ac w hac hk => ?_
    obtain ⟨S, hS, _⟩ := (Sees.ext (c := c) hu) ms w hk
    rcases hS with ⟨he, _⟩ | ⟨b', hb, pre, post, fr, he, _⟩
    · cases he
    · simp at he
theorem PC.sl {i e m : Nat} {b off n cap : Nat} {cs : List Value} {f : Blk → List Blk} (j : Nat) (hu : At H (.ext i (SlA e m (some ⟨b, off, none⟩) n cap cs)) f) {ecs : List SV} (hc : (cs.drop (j * m)).take m = denL ecs) : PC c H b (off + j * m) ecs := by
  intro ms' w' hk'
  obtain ⟨S', hS', _⟩ := (Sees.ext (c := c) hu) ms' w' hk'
  rcases hS' with ⟨hn, _⟩ | ⟨b', hb', pre', post', fr', he, hh', hl', hnc', hp', hf'⟩
  · cases hn
  · simp only [Option.some.injEq, Addr.mk.injEq, and_true] at he
    obtain ⟨rfl, rfl⟩ := he
    refine ⟨_, _, _, hh', fun q v hm => ?_⟩
    rw [← hc, List.getElem?_take] at hm
    split at hm
    · rw [List.getElem?_drop] at hm
      have hlt : j * m + q < cs.length := (List.getElem?_eq_some_iff.1 hm).1
      simp only [List.getElem?_toArray]
      rw [List.append_assoc, List.getElem?_append_right (by omega), List.getElem?_append_left (by omega)]
      rw [show pre'.length + j * m + q - pre'.length = j * m + q by omega]
      exact hm
    · cases hm
theorem OpK.idxA {t e : Nat} {x ix : Operand} {ti j : TI} (ho : o.op = .indexAddr t x ix) {b off n cap : Nat} {q : IntKind} {z : Int} (hx : opd E x = some (.v (.slice (some ⟨b, off, none⟩) n cap))) (hi : opd E ix = some (.v (.int q z)))
    (hti : c.T.get t = some ti) (hd : ti.desc = .slice e) (hj : c.T.get e = some j) {k : Nat} (hkk : j.size = k) (h0 : 0 ≤ z) (hlt : z < n)
    (h : nx (.v (.pointer (some ⟨b, off + z.toNat * k, none⟩))) H) : OpK c o E H nx := by
  subst hkk
  have hnd : ∀ cl, o.op ≠ .defer cl := by rw [ho]; intro cl e; cases e
  refine OpK.run hnd fun ms ac w hac hk => ?_
  have hu := (c.ok t ti hti).1
  rw [hd] at hu
  have e1 := hac.opd hx
  have e2 := hac.opd hi
  simp only [den] at e1 e2
  refine ⟨_, H, w, ?_, hk, h⟩
  simp [execOp, ho, e1, e2, Instr.indexAt, asIntOf, run_underlying hu, r_sizeOf (c.ok e j hj) w, hlt, h0, add_none, den]
theorem QK.idxA {kk : SV → Prop} {t e : Nat} {x ix : Operand} {ti j : TI} (ho : o.op = .indexAddr t x ix) {b off n cap : Nat} {q : IntKind} {z : Int} (hx : opd E x = some (.v (.slice (some ⟨b, off, none⟩) n cap))) (hi : opd E ix = some (.v (.int q z)))
    (hti : c.T.get t = some ti) (hd : ti.desc = .slice e) (hj : c.T.get e = some j) {k : Nat} (hkk : j.size = k) (h0 : 0 ≤ z) (hlt : z < n)
    (h : kk (.v (.pointer (some ⟨b, off + z.toNat * k, none⟩)))) : QK c o E H kk := by
  subst hkk
  have hu := (c.ok t ti hti).1
  rw [hd] at hu
  refine QK.val _ (fun ms ac w hac hk => ?_) h
  have e1 := hac.opd hx
  have e2 := hac.opd hi
  simp only [den] at e1 e2
  simp [execOp, ho, e1, e2, Instr.indexAt, asIntOf, run_underlying hu, r_sizeOf (c.ok e j hj) w, hlt, h0, add_none, den]
/-- the place of an array's element, by its block -/
theorem OpK.ixL {t e len : Nat} {x ix : Operand} {ti j : TI} (ho : o.op = .indexAddr t x ix) {b i off : Nat} {q : IntKind} {z : Int} (hx : opd E x = some (.loc b i off)) (hi : opd E ix = some (.v (.int q z)))
    (hti : c.T.get t = some ti) (hd : ti.desc = .array len e) (hj : c.T.get e = some j) (h0 : 0 ≤ z) (hlt : z < len) (h : nx (.loc b i (off + z.toNat * j.size)) H) : OpK c o E H nx := by
  have hnd : ∀ cl, o.op ≠ .defer cl := by rw [ho]; intro cl e; cases e
  refine OpK.val hnd _ (fun ms ac w ha hk => ?_) h
  have hu := (c.ok t ti hti).1
  rw [hd] at hu
  have e1 := ha.opd hx
  have e2 := ha.opd hi
  simp only [den] at e1 e2
  simp [execOp, ho, e1, e2, Instr.indexAt, asIntOf, Instr.sureAddr, run_underlying hu, r_sizeOf (c.ok e j hj) w, hlt, h0, add_none, den]
theorem PC.blk {i b t : Nat} {cs : List SV} {f : Blk → List Blk} (hu : At H (.blk i b cs t) f) : PC c H b 0 cs := by
  intro ms w hk
  obtain ⟨A, B, rfl, hf⟩ := hu.spec
  obtain ⟨T, hT, ho⟩ := Kn0.foot hk
  obtain ⟨TX, TY, h1, h2, h3, h4⟩ := hT.split _ _
  obtain ⟨TA, TB, g1, g2, g3, g4⟩ := h2.split A (.blk i b cs t :: B)
  cases g2 with
  | cons hx hb hH hd => exact ⟨_, _, _, hx.2, fun j v hj => by simpa using hj⟩
end
end Go.X
