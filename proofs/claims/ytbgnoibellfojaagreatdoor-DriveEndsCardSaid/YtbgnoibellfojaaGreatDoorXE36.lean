/- Contracts and lemmas for the claim (part XE36); no condition of its own. -/
import Derived.Test.YtbgnoibellfojaaGreatDoorXB
set_option linter.all false
set_option linter.unusedVariables false
set_option linter.unusedSimpArgs false
set_option linter.unnecessarySimpa false
namespace Go.X
open Go
/-- E' as far as it goes, up to the blocks' indices -/
inductive SubD : Env → Env → Prop
  | nil {E : Env} : SubD [] E
  | cons {t : Nat} {s s' : SV} {I E : Env} (h : look t E = some s') (e : den s' = den s) (hr : SubD I E) : SubD ((t, s) :: I) E
theorem SubD.spec {I E : Env} (h : SubD I E) : ∀ t s, look t I = some s → ∃ s', look t E = some s' ∧ den s' = den s := by
  induction h with
  | nil => intro t s h; cases h
  | @cons t s s' I E h e hr ih =>
    intro t' s1 h1
    simp only [look] at h1
    cases hb : Nat.beq t t' with
    | true =>
      rw [hb] at h1
      simp only [cond_true, Option.some.injEq] at h1
      subst h1
      exact ⟨s', Nat.eq_of_beq_eq_true hb ▸ h, e⟩
    | false => rw [hb] at h1; exact ih t' s1 h1
theorem Has.subD {n ds E I a} (h : Has n ds E a) (hs : SubD I E) : Has n ds I a :=
  ⟨h.size, h.defers, fun t s hl => by obtain ⟨s', h1, h2⟩ := hs.spec t s hl; rw [← h2]; exact h.get t s' h1⟩
theorem Run.weakenD {c : Cx} {x : Code} {E E' : Env} {H H' : List Blk} {k : KC} (h : Run c x E' H' k) (hE : SubD E' E) (hH : HSub H' H) : Run c x E H k :=
  .of fun ms a w ha hk => h.out ms a w (ha.subD hE) (hk.hsub hH)
theorem r_cutD {c : Cx} {α : Type} (I : α → Env) (HH : α → List Blk) (Φ : α → Prop) {x y : Code} {E : Env} {H : List Blk} {k : KC}
    (hx : ∀ KL : KE, (∀ z E' H', Φ z → SubD (I z) E' → HSub (HH z) H' → KL E' H') → Run c x E H (thenK KL k))
    (hy : ∀ z, Φ z → Run c y (I z) (HH z) k) : Run c (.seq x y) E H k := by
  refine .of fun ms a w ha hk => ?_
  refine wpIn_seq (wpIn_mono ((hx (fun E' H' => ∃ z, Φ z ∧ SubD (I z) E' ∧ HSub (HH z) H') (fun z _ _ p1 p2 p3 => ⟨z, p1, p2, p3⟩)).out ms a w ha hk) (thenK_sem ?_))
  rintro E' H' ⟨z, p1, p2, p3⟩
  exact ((hy z p1).weakenD p2 p3).out
theorem IK.fap {c : Cx} {o : Oper} {E : Env} {k : SV → Prop} {t f : Nat} {x : Operand} (ho : o.op = .fieldAddr t x f) {b off : Nat} (hx : opd E x = some (.v (.pointer (some ⟨b, off, none⟩)))) (h : fieldF c t f (fun m => k (.v (.pointer (some ⟨b, off + m, none⟩))))) : IK c o E k := by
  obtain ⟨m, h1, h2⟩ := r_fieldAt2 c.ok h b off
  refine ⟨_, fun ms a ha w => ?_, h2⟩
  have e1 := ha.opd hx
  simp only [den] at e1
  simp [execOp, ho, e1, h1 w, den]
theorem PC.drop {c : Cx} {x : Blk} {H : List Blk} {b off : Nat} {cs : List SV} (h : PC c H b off cs) : PC c (x :: H) b off cs := fun ms w hk => h ms w (hk.hsub (HSub.drop (HSub.refl _)))
end Go.X
