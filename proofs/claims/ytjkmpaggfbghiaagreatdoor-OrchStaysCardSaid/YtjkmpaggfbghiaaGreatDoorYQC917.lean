/- Contracts and lemmas for the claim (part 17); no condition of its own. -/
import Derived.Test.YtjkmpaggfbghiaaGreatDoorYQC914
import Derived.Test.YtjkmpaggfbghiaaGreatDoorYQC916
set_option linter.all false
set_option maxRecDepth 100000
set_option maxHeartbeats 0
set_option linter.unusedVariables false
set_option linter.unusedSimpArgs false
set_option linter.unnecessarySimpa false
namespace Go.Proofs.YtjkmpaggfbghiaaGreatDoor
open Go Go.X Go.ChangeShapes Go.WideShapes Go.RowKit
set_option maxRecDepth 1000000
noncomputable def plainLaid9 : List (String × DataW Unit) := Rows.orchStaysRow.laid.filter fun x => x.2.handleName?.isNone
noncomputable def witW9 (os : Os) : World :=
  { World.laidAll Tryz.prog os plainLaid9 with heap := (World.laidAll Tryz.prog os plainLaid9).heap.setIfInBounds 1 (.cells #[.nilFunc, .func (.func 366) #[] #[], .func (.func 367) #[] #[], .func (.func 368) #[] #[]] 282) }
theorem metAll9 (os : Os) (args : Array Value) : laidMetH Tryz.prog Rows.orchStaysRow.laid ((witW9 os).forCall (fun _ _ => 0) ⟨#[], args, []⟩).memory :=
  laidMetH_of_parts3 (fuel := 8) (laidMet_of_run' 8 (by kernel_rfl) (by kernel_rfl)) (by kernel_rfl) (by kernel_rfl)
theorem shaped9 (os : Os) : (witW9 os).Shaped Tryz.prog := World.shaped_of_ZipB (by kernel_rfl) (by kernel_rfl)
theorem contract9 (H : Type) (enc : TypeId × Value → H) (W : World) (base : Nat) (args : Array Value) (ds gs : List (DataW H)) (before : List MemPlace)
    (hval : ∀ (j : Nat) t v, Tryz.f9.params[j]? = some t → args[j]? = some v → Value.okWide Tryz.prog W .any base t v)
    (hW : DataW.Whole enc Tryz.prog Tryz.f9.params.toList Rows.orchStaysSpec.vars false W args.toList ds gs before) (hL : laidMetH Tryz.prog Rows.orchStaysRow.laid W) :
    Calls Tryz.prog 9 args W fun e W' => ∃ v, e = .returned v ∧ Rows.orchStaysSpec.post enc Tryz.prog Tryz.f9 false true false false W args v W' := by
  obtain ⟨o0, o1, hko, hh0, hh1⟩ := KObj.of_laid hL (by simp [Rows.orchStaysRow]) (by simp [Rows.orchStaysRow])
  have hW' := hW
  obtain ⟨p, q, hA0, hV, _, _, _⟩ := hW
  have hA : DataW.TrodAll enc Tryz.prog W 0 (fun _ => true) true Tryz.f9.params.toList args.toList ds p := hA0
  clear hA0
  rw [Tryz.params9] at hA hval
  obtain ⟨rfl, _⟩ := trodVars_none hV
  obtain ⟨v0, vs0, d0, ds0, p0, q0, e0, rfl, _, h0, r0⟩ := trodAll_cons hA
  obtain ⟨v1, vs1, d1, ds1, p1, q1, e1, rfl, _, h1, r1⟩ := trodAll_cons r0
  subst e1
  obtain ⟨v2, vs2, d2, ds2, p2, q2, e2, rfl, _, h2, r2⟩ := trodAll_cons r1
  subst e2
  obtain ⟨e3, rfl, _⟩ := trodAll_nil r2
  subst e3
  obtain rfl : args = #[v0, v1, v2] := by cases args; exact congrArg Array.mk e0
  obtain ⟨sa0, sl0, sc0, rfl, r0z, c0, m0, k0⟩ := moves_arg (hval 0 22 v0 rfl rfl) h0
  obtain ⟨cs1, rfl, _⟩ := okWide_struct Tryz.underlying46 (hval 1 46 v1 rfl rfl)
  obtain ⟨fu1, h1⟩ := h1
  obtain ⟨x1, y1, hc1, k1, n1⟩ := move_cells h1
  obtain rfl : cs1 = #[.int .u8 (x1 : Nat), .int .u16 (y1 : Nat)] := by cases cs1; exact congrArg Array.mk hc1
  obtain ⟨n2, rfl, rfl, _, w2⟩ := open_int Tryz.underlying5 (hval 2 5 v2 rfl rfl) h2
  have b2 := wf_u8 w2
  obtain ⟨x2, rfl⟩ : ∃ x : Nat, n2 = (x : Int) := ⟨n2.toNat, by omega⟩
  refine (Pu.calls (pu_of_gl hh0 hh1 (orchStays1009 hko r0z c0 m0 k0 k1 n1 (by omega)))).mono fun e W' ⟨he, hb⟩ => ?_
  subst he
  exact ⟨_, rfl, law_post laidOut Tryz.underlying4 (by kernel_rfl) rfl rfl hW' rfl hb⟩
theorem lifted9 (os : Os) (started : os.Started) (H : Type) (enc : TypeId × Value → H) :
    ReturnsInHanded {} Tryz.checked os 9 .any (fun w args => (Rows.orchStaysSpec.pre enc Tryz.prog Tryz.f9 Rows.orchStaysRow.domain false w args ∧ laidMetH Tryz.prog Rows.orchStaysRow.laid w) ∧ sizedMet enc Tryz.prog Tryz.f9 (OpenSpec.ofChange Rows.orchStaysSpec) false w args)
      (Rows.orchStaysSpec.post enc Tryz.prog Tryz.f9 false true false false) := by
  refine returnsInHanded_of_change_and (C := Tryz.checked) (X := fun w _ => laidMetH Tryz.prog Rows.orchStaysRow.laid w) (fun _ _ _ hh h => h.of_heap hh) own started (by kernel_rfl) Tryz.func9
    (ChangeSpec.witness_shaped (enc := enc) (C := Tryz.checked) (os := os) (X := fun w _ => laidMetH Tryz.prog Rows.orchStaysRow.laid w) false (witW9 os) #[.slice none 0 0, .agg #[.int .u8 0, .int .u16 0], .int .u8 0] 8 (World.laidAll_os _ _ _)
      (shaped9 os) (by kernel_rfl) (by kernel_rfl) (by kernel_rfl)
      (metAll9 os _)) ?_
  intro W base args ds gs before hval0 hW _ _ hL _
  exact contract9 H enc W base args ds gs before hval0 hW hL
end Go.Proofs.YtjkmpaggfbghiaaGreatDoor

namespace Go.Proofs.YtjkmpaggfbghiaaGreatDoor
open Go Go.X Go.ChangeShapes Go.WideShapes Go.RowKit
set_option maxRecDepth 1000000
theorem facts9 : joinedFacts Tryz.pinned.checked.prog 9 Tryz.f9 Rows.orchStaysSpec Rows.orchStaysRow = true := by
  unfold joinedFacts
  repeat' (with_reducible refine and_t ?_ ?_)
  all_goals (as_aux_lemma => kernel_rfl)
end Go.Proofs.YtjkmpaggfbghiaaGreatDoor

namespace Go.Proofs.YtjkmpaggfbghiaaGreatDoor
open Go Go.X Go.ChangeShapes Go.WideShapes Go.RowKit
set_option maxRecDepth 1000000
theorem said9 : Rows.OrchStaysSaid :=
  OpenClaim.holds_of_wide 9 Tryz.f9 rfl rfl rfl rfl rfl rfl rfl ⟨rfl, rfl, rfl, rfl, rfl⟩ rfl rfl rfl rfl rfl (by as_aux_lemma => kernel_rfl) Tryz.func9 facts9
    (of_decide_eq_true (by kernel_rfl)) (by unfold Func.isWrapper; first | (rw [if_pos (by decide +kernel)]; kernel_rfl) | (rw [if_neg (by decide +kernel)]; exact ⟨rfl, rfl⟩))
    (fun os started H enc _ => lifted9 os started H enc)
end Go.Proofs.YtjkmpaggfbghiaaGreatDoor
