/- Contracts and lemmas for the claim (part 7); no condition of its own. -/
import Derived.Test.YtjkmpaggfbghiaaGreatDoorYQC806
set_option linter.all false
set_option linter.unusedVariables false
set_option linter.unusedSimpArgs false
set_option linter.unnecessarySimpa false
set_option linter.all false
/-! an element of an array that is a value -/
namespace Go.X
open Go
section
variable {c : Cx} {o : Oper} {E : Env} {H : List Blk} {nx : K1}
theorem OpK.ixG {t e len : Nat} {x ix : Operand} {ti j : TI} (ho : o.op = .index t x ix) {cs : List SV} {q : IntKind} {z : Int} (hx : opd E x = some (.agg cs)) (hi : opd E ix = some (.v (.int q z)))
    (hti : c.T.get t = some ti) (hd : ti.desc = .array len e) (hj : c.T.get e = some j) (hz : j.size = 1) (hg : TypeDesc.isAgg j.desc = false) (h0 : 0 ≤ z) (hlt : z < len) {s : SV} (hs : cs[z.toNat]? = some s) (h : nx s H) : OpK c o E H nx := by
  have hnd : ∀ cl, o.op ≠ .defer cl := by rw [ho]; intro cl e; cases e
  refine OpK.val hnd _ (fun ms ac w ha hk => ?_) h
  have hu := (c.ok t ti hti).1
  rw [hd] at hu
  have e1 := ha.opd hx
  have e2 := ha.opd hi
  simp only [den] at e1 e2
  have hs' : (denL cs)[z.toNat]? = some (den s) := by rw [denL_getElem?, hs]; rfl
  simp [execOp, ho, e1, e2, Instr.index, asIntOf, run_underlying hu, r_sizeOf (c.ok e j hj) w, hz, hlt, h0, part, r_isAgg (c.ok e j hj) w, hg, hs']
theorem CallK.selZS {α : Type} {g : FuncId} {l : List SV} {L R : List Blk} {v : α → Value} {L' : α → List Blk} (s : α → SV) (hv : ∀ z, den (s z) = v z) (hs : Sel H L R)
    (h : ∀ ms w, Kn c.W c.S ms H w → FrZ c.P g (denL l).toArray w (AssL L) v (fun z => AssL (L' z))) (hn : ∀ z, layF (L' z) R fun H' => nx (s z) H') : CallK c g l H nx := by
  refine CallK.gen fun ms w hk => ?_
  have hk2 : Kn c.W c.S ms (assB 0 L :: R) w := hk.hsub (HSub.trans (HSub.app2 (A' := [assB 0 L]) HSub.join (HSub.refl R)) (HSub.perm hs.spec))
  obtain ⟨T, h1, h2, _, h3⟩ := hk2.upd1 (At.head)
  refine (h ms w hk T h1 h2).mono ?_
  rintro e w' ⟨z, rfl, hp⟩
  refine ⟨s z, L' z ++ R, by rw [hv z], ?_, layF_spec (hn z)⟩
  exact (h3 (assB 0 (L' z)) w' hp).hsub (HSub.app2 (A := [assB 0 (L' z)]) HSub.unjoin (HSub.refl R))
end
end Go.X
