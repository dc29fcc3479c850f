/- Contracts and lemmas for the claim (part 16); no condition of its own. -/
import Derived.Test.YtjkmpaggfbghiaaGreatDoorYQC615
set_option linter.all false
set_option linter.unusedVariables false
set_option linter.unusedSimpArgs false
set_option linter.unnecessarySimpa false
set_option linter.all false
namespace Go.Proofs.YtjkmpaggfbghiaaGreatDoor
open Go Go.X Go.ChangeShapes Go.WideShapes Go.RowKit
set_option maxRecDepth 1000000
set_option maxHeartbeats 0
noncomputable def plainLaid6 : List (String × DataW Unit) := Rows.orchItemsRow.laid.filter fun x => x.2.handleName?.isNone
noncomputable def witW6 (os : Os) : World :=
  { World.laidAll Tryz.prog os plainLaid6 with heap := (World.laidAll Tryz.prog os plainLaid6).heap.setIfInBounds 1 (.cells #[.nilFunc, .func (.func 366) #[] #[], .func (.func 367) #[] #[], .func (.func 368) #[] #[]] 282) }
theorem metAll6 (os : Os) (args : Array Value) : laidMetH Tryz.prog Rows.orchItemsRow.laid ((witW6 os).forCall (fun _ _ => 0) ⟨#[], args, []⟩).memory :=
  laidMetH_of_parts3 (fuel := 8) (laidMet_of_run' 8 (by kernel_rfl) (by kernel_rfl)) (by kernel_rfl) (by kernel_rfl)
theorem shaped6 (os : Os) : (witW6 os).Shaped Tryz.prog := World.shaped_of_ZipB (by kernel_rfl) (by kernel_rfl)
theorem contract6 (H : Type) (enc : TypeId × Value → H) (W : World) (base : Nat) (args : Array Value) (ds gs : List (DataW H)) (before : List MemPlace)
    (hval : ∀ (j : Nat) t v, Tryz.f6.params[j]? = some t → args[j]? = some v → Value.okWide Tryz.prog W .any base t v)
    (hW : DataW.Whole enc Tryz.prog Tryz.f6.params.toList Rows.orchItemsSpec.vars false W args.toList ds gs before) (hL : laidMetH Tryz.prog Rows.orchItemsRow.laid W) :
    Calls Tryz.prog 6 args W fun e W' => ∃ v, e = .returned v ∧ Rows.orchItemsSpec.post enc Tryz.prog Tryz.f6 false true false false W args v W' := by
  obtain ⟨o0, o1, hko, hh0, hh1⟩ := KObj.of_laid hL (by simp [Rows.orchItemsRow]) (by simp [Rows.orchItemsRow])
  have hW' := hW
  obtain ⟨p, q, hA0, hV, _, _, _⟩ := hW
  have hA : DataW.TrodAll enc Tryz.prog W 0 (fun _ => true) true Tryz.f6.params.toList args.toList ds p := hA0
  clear hA0
  rw [Tryz.params6] at hA hval
  obtain ⟨rfl, _⟩ := trodVars_none hV
  obtain ⟨v0, vs0, d0, ds0, p0, q0, e0, rfl, _, h0, r0⟩ := trodAll_cons hA
  obtain ⟨e1, rfl, _⟩ := trodAll_nil r0
  subst e1
  obtain rfl : args = #[v0] := by cases args; exact congrArg Array.mk e0
  obtain ⟨sa0, sl0, sc0, rfl, r0z, c0, m0, k0⟩ := moves_arg (hval 0 22 v0 rfl rfl) h0
  refine (Pu.calls (pu_of_gl hh0 hh1 (orchItems1006 hko r0z c0 m0 k0))).mono fun e W' ⟨he, hb⟩ => ?_
  subst he
  exact ⟨_, rfl, law_post laidOut Tryz.underlying4 (by kernel_rfl) rfl rfl hW' rfl hb⟩
theorem lifted6 (os : Os) (started : os.Started) (H : Type) (enc : TypeId × Value → H) :
    ReturnsInHanded {} Tryz.checked os 6 .any (fun w args => (Rows.orchItemsSpec.pre enc Tryz.prog Tryz.f6 Rows.orchItemsRow.domain false w args ∧ laidMetH Tryz.prog Rows.orchItemsRow.laid w) ∧ sizedMet enc Tryz.prog Tryz.f6 (OpenSpec.ofChange Rows.orchItemsSpec) false w args)
      (Rows.orchItemsSpec.post enc Tryz.prog Tryz.f6 false true false false) := by
  refine returnsInHanded_of_change_and (C := Tryz.checked) (X := fun w _ => laidMetH Tryz.prog Rows.orchItemsRow.laid w) (fun _ _ _ hh h => h.of_heap hh) own started (by kernel_rfl) Tryz.func6
    (ChangeSpec.witness_shaped (enc := enc) (C := Tryz.checked) (os := os) (X := fun w _ => laidMetH Tryz.prog Rows.orchItemsRow.laid w) false (witW6 os) #[.slice none 0 0] 8 (World.laidAll_os _ _ _)
      (shaped6 os) (by kernel_rfl) (by kernel_rfl) (by kernel_rfl)
      (metAll6 os _)) ?_
  intro W base args ds gs before hval0 hW _ _ hL _
  exact contract6 H enc W base args ds gs before hval0 hW hL
end Go.Proofs.YtjkmpaggfbghiaaGreatDoor

set_option linter.all false
namespace Go.Proofs.YtjkmpaggfbghiaaGreatDoor
open Go Go.X Go.ChangeShapes Go.WideShapes Go.RowKit
set_option maxRecDepth 1000000
set_option maxHeartbeats 0
theorem facts6 : joinedFacts Tryz.pinned.checked.prog 6 Tryz.f6 Rows.orchItemsSpec Rows.orchItemsRow = true := by
  unfold joinedFacts
  repeat' (with_reducible refine and_t ?_ ?_)
  all_goals (as_aux_lemma => kernel_rfl)
end Go.Proofs.YtjkmpaggfbghiaaGreatDoor

set_option linter.all false
namespace Go.Proofs.YtjkmpaggfbghiaaGreatDoor
open Go Go.X Go.ChangeShapes Go.WideShapes Go.RowKit
set_option maxRecDepth 1000000
set_option maxHeartbeats 0
theorem said6 : Rows.OrchItemsSaid :=
  OpenClaim.holds_of_wide 6 Tryz.f6 rfl rfl rfl rfl rfl rfl rfl ⟨rfl, rfl, rfl, rfl, rfl⟩ rfl rfl rfl rfl rfl (by as_aux_lemma => kernel_rfl) Tryz.func6 facts6
    (of_decide_eq_true (by kernel_rfl)) (by unfold Func.isWrapper; first | (rw [if_pos (by decide +kernel)]; kernel_rfl) | (rw [if_neg (by decide +kernel)]; exact ⟨rfl, rfl⟩))
    (fun os started H enc _ => lifted6 os started H enc)
end Go.Proofs.YtjkmpaggfbghiaaGreatDoor
