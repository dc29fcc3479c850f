/- Contracts and lemmas for the claim (part 16); no condition of its own. -/
import Derived.Test.YtjkmpaggfbghiaaGreatDoorYQC915
import Derived.Test.YtjkmpaggfbghiaaGreatDoorYQC906
import Derived.Test.YtjkmpaggfbghiaaGreatDoorYQC905
import Derived.Test.YtjkmpaggfbghiaaGreatDoorYQC907
set_option linter.all false
set_option maxRecDepth 100000
set_option maxHeartbeats 0
set_option linter.unusedVariables false
set_option linter.unusedSimpArgs false
set_option linter.unnecessarySimpa false
namespace Go.Proofs.YtjkmpaggfbghiaaGreatDoor
open Go Go.X
theorem withinF298 {a lo hi : Int} (h : a < lo ∨ hi < a) (w : World) : Pu Tryz.prog 288 #[.int .i64 a, .int .i64 lo, .int .i64 hi] w (.bool false) := by
  refine enter_sound TBok Tryz.func288 rfl rfl Tryz.ntmps288 [.v (.int .i64 a), .v (.int .i64 lo), .v (.int .i64 hi)] (Kn.start w noS) rfl rfl ?_
  conv => whnf
  repeat' (first
 | with_reducible ((first | refine r_seq (fun KS hS => ?_) | (refine hS _ _ ?_; clear hS KS)))
 | ((with_reducible (first | refine r_region ?_ | refine r_ret ?_)); conv => whnf)
 | (refine if_dec (fun h => ?_) (fun h => ?_); all_goals (conv => whnf)))
  all_goals (refine FinK.pu ?_; simp [den] <;> omega)
theorem defnBad1127 (w : World) : Pu Tryz.prog 127 #[.agg #[.string ⟨#[]⟩, .int .i64 0, .int .i64 0, .slice none 0 0]] w (.int .i64 15) := by
  have hnm1059 : ∀ w, Pu Tryz.prog 59 #[.string ⟨#[]⟩] w (.bool false) := fun w => by have := name1059 (s := ⟨#[]⟩) (by decide) w; rwa [show OM.nmOk ⟨#[]⟩ = false by decide] at this
  refine enter_sound TBok Tryz.func127 rfl rfl Tryz.ntmps127 [.agg [.v (.string ⟨#[]⟩), .v (.int .i64 0), .v (.int .i64 0), .v (.slice none 0 0)]] (Kn.start w noS) rfl rfl ?_
  conv => whnf
  repeat' (first
 | with_reducible ((first | refine r_seq (fun KS hS => ?_) | (refine hS _ _ ?_; clear hS KS) | (refine hA _ ?_; clear hA KA)))
 | ((with_reducible (first | refine r_region ?_ | refine r_cond (fun KA hA KB hB => ?_) | refine r_ret ?_ | refine And.intro rfl ?_ | intro b)); conv => whnf)
 | ((with_reducible refine CallK.at 59 ?_); refine CallK.pu (fun w => hnm1059 w) ?_; conv => whnf))
  all_goals exact FinK.pu rfl
theorem ckB3_1053  (w : World) : Pu Tryz.prog 53 #[.agg #[.int .i64 0, .int .i64 1, .int .i64 0, .int .i64 0, .int .i64 0, .int .i64 0, .string ⟨#[]⟩, .int .i64 0, .int .i64 0, .string ⟨#[]⟩, .string ⟨#[]⟩, .int .i64 0, .string ⟨#[]⟩, .int .i64 0, .int .i64 0, .slice none 0 0, .int .i64 0, .int .i64 0, .int .i64 0, .int .i64 0, .bool false, .int .i64 0, .int .i64 0, .string ⟨#[]⟩]] w (.int .i64 2) := by
  refine enter_sound TBok Tryz.func53 rfl rfl Tryz.ntmps53 [.agg [.v (.int .i64 0), .v (.int .i64 1), .v (.int .i64 0), .v (.int .i64 0), .v (.int .i64 0), .v (.int .i64 0), .v (.string ⟨#[]⟩), .v (.int .i64 0), .v (.int .i64 0), .v (.string ⟨#[]⟩), .v (.string ⟨#[]⟩), .v (.int .i64 0), .v (.string ⟨#[]⟩), .v (.int .i64 0), .v (.int .i64 0), .v (.slice none 0 0), .v (.int .i64 0), .v (.int .i64 0), .v (.int .i64 0), .v (.int .i64 0), .v (.bool false), .v (.int .i64 0), .v (.int .i64 0), .v (.string ⟨#[]⟩)]] (Kn.start w noS) rfl rfl ?_
  conv => whnf
  repeat' (first
 | with_reducible ((first | refine r_seq (fun KS hS => ?_) | (refine hS _ _ ?_; clear hS KS) | (refine hA _ ?_; clear hA KA) | (refine hB _ ?_; clear hB KB) | refine r_block ?_))
 | ((with_reducible (first | refine r_region ?_ | refine r_cond (fun KA hA KB hB => ?_) | refine r_ret ?_ | refine r_skip ?_ | refine r_exit ?_ | refine And.intro rfl ?_ | intro b)); conv => whnf)
 | ((with_reducible refine CallK.id ?_); (first | apply in103 | apply in29 | apply in66 | apply in112); rfl; rfl; rfl; intro A; conv => whnf)
 | ((with_reducible apply OpK.more); (focus refine sok); (conv => whnf); fail_if_success guard_target =ₛ False)
 | with_reducible (first | refine Rounds.step (fun KL hL => ?_) | refine r_rounds 100 ?_)
 | with_reducible apply_assumption -symm -exfalso)
  all_goals exact FinK.pu rfl
theorem ckB4_1053 {a : Option Addr} (w : World) : Pu Tryz.prog 53 #[.agg #[.int .i64 11, .int .i64 0, .int .i64 10000, .int .i64 0, .int .i64 0, .int .i64 0, .string ⟨#[]⟩, .int .i64 0, .int .i64 0, .string ⟨#[]⟩, .string ⟨#[]⟩, .int .i64 0, .string OM.payD.name, .int .i64 OM.payD.retries, .int .i64 OM.payD.deadline, .slice a OM.payD.steps.length 2, .int .i64 0, .int .i64 0, .int .i64 0, .int .i64 0, .bool false, .int .i64 0, .int .i64 0, .string ⟨#[]⟩]] w (.int .i64 2) := by
  refine enter_sound TBok Tryz.func53 rfl rfl Tryz.ntmps53 [.agg [.v (.int .i64 11), .v (.int .i64 0), .v (.int .i64 10000), .v (.int .i64 0), .v (.int .i64 0), .v (.int .i64 0), .v (.string ⟨#[]⟩), .v (.int .i64 0), .v (.int .i64 0), .v (.string ⟨#[]⟩), .v (.string ⟨#[]⟩), .v (.int .i64 0), .v (.string OM.payD.name), .v (.int .i64 OM.payD.retries), .v (.int .i64 OM.payD.deadline), .v (.slice a OM.payD.steps.length 2), .v (.int .i64 0), .v (.int .i64 0), .v (.int .i64 0), .v (.int .i64 0), .v (.bool false), .v (.int .i64 0), .v (.int .i64 0), .v (.string ⟨#[]⟩)]] (Kn.start w noS) rfl rfl ?_
  conv => whnf
  repeat' (first
 | with_reducible ((first | refine r_seq (fun KS hS => ?_) | (refine hS _ _ ?_; clear hS KS) | (refine hA _ ?_; clear hA KA) | (refine hB _ ?_; clear hB KB) | refine r_block ?_))
 | ((with_reducible (first | refine r_region ?_ | refine r_cond (fun KA hA KB hB => ?_) | refine r_ret ?_ | refine r_skip ?_ | refine r_exit ?_ | refine And.intro rfl ?_ | intro b)); conv => whnf)
 | ((with_reducible refine WrapK.i64 ?_ ?_); (focus omega); conv => whnf)
 | ((with_reducible refine CallK.id ?_); (first | apply in103 | apply in226 | apply in297 | apply in302 | apply in1163 | apply in1167 | apply in1168 | apply in1246); rfl; rfl; rfl; intro A; conv => whnf)
 | (refine aq227 ?_; conv => whnf)
 | (refine ak227 ?_; conv => whnf)
 | (refine aq239 ?_; conv => whnf)
 | (refine ak239 ?_; conv => whnf)
 | ((with_reducible refine CallQ.at 288 ?_); (first | refine CallQ.pu (fun w => within298 (by decide) w) ?_ | refine CallQ.pu (fun w => withinF298 (by decide) w) ?_); conv => whnf)
 | ((with_reducible apply OpK.more); (focus refine sok); (conv => whnf); fail_if_success guard_target =ₛ False)
 | with_reducible (first | refine Rounds.step (fun KL hL => ?_) | refine r_rounds 100 ?_)
 | (apply r_quiet; refine mixed; kernel_rfl; kernel_rfl; kernel_rfl; conv => whnf)
 | with_reducible apply_assumption -symm -exfalso)
  all_goals exact FinK.pu rfl
theorem ckB5_1053  (w : World) : Pu Tryz.prog 53 #[.agg #[.int .i64 11, .int .i64 0, .int .i64 500, .int .i64 0, .int .i64 0, .int .i64 0, .string ⟨#[]⟩, .int .i64 0, .int .i64 0, .string ⟨#[]⟩, .string ⟨#[]⟩, .int .i64 0, .string ⟨#[]⟩, .int .i64 0, .int .i64 0, .slice none 0 0, .int .i64 0, .int .i64 0, .int .i64 0, .int .i64 0, .bool false, .int .i64 0, .int .i64 0, .string ⟨#[]⟩]] w (.int .i64 2) := by
  refine enter_sound TBok Tryz.func53 rfl rfl Tryz.ntmps53 [.agg [.v (.int .i64 11), .v (.int .i64 0), .v (.int .i64 500), .v (.int .i64 0), .v (.int .i64 0), .v (.int .i64 0), .v (.string ⟨#[]⟩), .v (.int .i64 0), .v (.int .i64 0), .v (.string ⟨#[]⟩), .v (.string ⟨#[]⟩), .v (.int .i64 0), .v (.string ⟨#[]⟩), .v (.int .i64 0), .v (.int .i64 0), .v (.slice none 0 0), .v (.int .i64 0), .v (.int .i64 0), .v (.int .i64 0), .v (.int .i64 0), .v (.bool false), .v (.int .i64 0), .v (.int .i64 0), .v (.string ⟨#[]⟩)]] (Kn.start w noS) rfl rfl ?_
  conv => whnf
  repeat' (first
 | with_reducible ((first | refine r_seq (fun KS hS => ?_) | (refine hS _ _ ?_; clear hS KS) | (refine hA _ ?_; clear hA KA) | (refine hB _ ?_; clear hB KB) | refine r_block ?_))
 | ((with_reducible (first | refine r_region ?_ | refine r_cond (fun KA hA KB hB => ?_) | refine r_ret ?_ | refine r_skip ?_ | refine r_exit ?_ | refine And.intro rfl ?_ | intro b)); conv => whnf)
 | ((with_reducible refine WrapK.i64 ?_ ?_); (focus omega); conv => whnf)
 | ((with_reducible refine CallK.id ?_); (first | apply in103 | apply in226 | apply in297 | apply in302 | apply in1163 | apply in1167 | apply in1168 | apply in1238 | apply in1246); rfl; rfl; rfl; intro A; conv => whnf)
 | (refine aq227 ?_; conv => whnf)
 | (refine ak227 ?_; conv => whnf)
 | (refine aq239 ?_; conv => whnf)
 | (refine ak239 ?_; conv => whnf)
 | ((with_reducible refine CallQ.at 288 ?_); refine CallQ.pu (fun w => within298 (by decide) w) ?_; conv => whnf)
 | ((with_reducible refine CallK.at 127 ?_); refine CallK.pu (fun w => defnBad1127 w) ?_; conv => whnf)
 | ((with_reducible apply OpK.more); (focus refine sok); (conv => whnf); fail_if_success guard_target =ₛ False)
 | with_reducible (first | refine Rounds.step (fun KL hL => ?_) | refine r_rounds 100 ?_)
 | (apply r_quiet; refine mixed; kernel_rfl; kernel_rfl; kernel_rfl; conv => whnf)
 | with_reducible apply_assumption -symm -exfalso)
  all_goals exact FinK.pu rfl
theorem ckB6_1053  (w : World) : Pu Tryz.prog 53 #[.agg #[.int .i64 14, .int .i64 0, .int .i64 0, .int .i64 0, .int .i64 0, .int .i64 0, .string ⟨#[]⟩, .int .i64 0, .int .i64 0, .string ⟨#[98]⟩, .string ⟨#[97]⟩, .int .i64 1, .string ⟨#[]⟩, .int .i64 0, .int .i64 0, .slice none 0 0, .int .i64 0, .int .i64 0, .int .i64 0, .int .i64 0, .bool false, .int .i64 0, .int .i64 0, .string ⟨#[]⟩]] w (.int .i64 2) := by
  have hck1115 : ∀ w, Pu Tryz.prog 115 #[.agg #[.string ⟨#[98]⟩, .string ⟨#[97]⟩]] w (.int .i64 2) := fun w => by have := check1115 (r := ⟨⟨#[98]⟩, ⟨#[97]⟩⟩) (by decide) (by decide) w; rwa [if_neg (by decide +kernel)] at this
  refine enter_sound TBok Tryz.func53 rfl rfl Tryz.ntmps53 [.agg [.v (.int .i64 14), .v (.int .i64 0), .v (.int .i64 0), .v (.int .i64 0), .v (.int .i64 0), .v (.int .i64 0), .v (.string ⟨#[]⟩), .v (.int .i64 0), .v (.int .i64 0), .v (.string ⟨#[98]⟩), .v (.string ⟨#[97]⟩), .v (.int .i64 1), .v (.string ⟨#[]⟩), .v (.int .i64 0), .v (.int .i64 0), .v (.slice none 0 0), .v (.int .i64 0), .v (.int .i64 0), .v (.int .i64 0), .v (.int .i64 0), .v (.bool false), .v (.int .i64 0), .v (.int .i64 0), .v (.string ⟨#[]⟩)]] (Kn.start w noS) rfl rfl ?_
  conv => whnf
  repeat' (first
 | with_reducible ((first | refine r_seq (fun KS hS => ?_) | (refine hS _ _ ?_; clear hS KS) | (refine hA _ ?_; clear hA KA) | (refine hB _ ?_; clear hB KB) | refine r_block ?_))
 | ((with_reducible (first | refine r_region ?_ | refine r_cond (fun KA hA KB hB => ?_) | refine r_ret ?_ | refine r_skip ?_ | refine r_exit ?_ | refine And.intro rfl ?_ | intro b)); conv => whnf)
 | ((with_reducible refine WrapK.i64 ?_ ?_); (focus omega); conv => whnf)
 | ((with_reducible refine CallK.id ?_); (first | apply in103 | apply in148 | apply in226 | apply in297 | apply in229 | apply in302 | apply in235 | apply in1163 | apply in1169); rfl; rfl; rfl; intro A; conv => whnf)
 | (refine aq227 ?_; conv => whnf)
 | (refine ak227 ?_; conv => whnf)
 | (refine ak249 ?_; conv => whnf)
 | ((with_reducible refine CallQ.at 288 ?_); refine CallQ.pu (fun w => within298 (by decide) w) ?_; conv => whnf)
 | ((with_reducible refine CallK.at 115 ?_); refine CallK.pu (fun w => hck1115 w) ?_; conv => whnf)
 | ((with_reducible apply OpK.more); (focus refine sok); (conv => whnf); fail_if_success guard_target =ₛ False)
 | with_reducible (first | refine Rounds.step (fun KL hL => ?_) | refine r_rounds 100 ?_)
 | (apply r_quiet; refine mixed; kernel_rfl; kernel_rfl; kernel_rfl; conv => whnf)
 | with_reducible apply_assumption -symm -exfalso)
  all_goals exact FinK.pu rfl
theorem ckB8_1053  (w : World) : Pu Tryz.prog 53 #[.agg #[.int .i64 12, .int .i64 0, .int .i64 0, .int .i64 0, .int .i64 0, .int .i64 0, .string ⟨#[]⟩, .int .i64 0, .int .i64 0, .string ⟨#[]⟩, .string ⟨#[]⟩, .int .i64 0, .string ⟨#[]⟩, .int .i64 0, .int .i64 0, .slice none 0 0, .int .i64 0, .int .i64 0, .int .i64 0, .int .i64 0, .bool false, .int .i64 0, .int .i64 0, .string ⟨#[]⟩]] w (.int .i64 2) := by
  refine enter_sound TBok Tryz.func53 rfl rfl Tryz.ntmps53 [.agg [.v (.int .i64 12), .v (.int .i64 0), .v (.int .i64 0), .v (.int .i64 0), .v (.int .i64 0), .v (.int .i64 0), .v (.string ⟨#[]⟩), .v (.int .i64 0), .v (.int .i64 0), .v (.string ⟨#[]⟩), .v (.string ⟨#[]⟩), .v (.int .i64 0), .v (.string ⟨#[]⟩), .v (.int .i64 0), .v (.int .i64 0), .v (.slice none 0 0), .v (.int .i64 0), .v (.int .i64 0), .v (.int .i64 0), .v (.int .i64 0), .v (.bool false), .v (.int .i64 0), .v (.int .i64 0), .v (.string ⟨#[]⟩)]] (Kn.start w noS) rfl rfl ?_
  conv => whnf
  repeat' (first
 | with_reducible ((first | refine r_seq (fun KS hS => ?_) | (refine hS _ _ ?_; clear hS KS) | (refine hA _ ?_; clear hA KA) | (refine hB _ ?_; clear hB KB) | refine r_block ?_))
 | ((with_reducible (first | refine r_region ?_ | refine r_cond (fun KA hA KB hB => ?_) | refine r_ret ?_ | refine r_skip ?_ | refine r_exit ?_ | refine And.intro rfl ?_ | intro b)); conv => whnf)
 | ((with_reducible refine WrapK.i64 ?_ ?_); (focus omega); conv => whnf)
 | ((with_reducible refine CallK.id ?_); (first | apply in103 | apply in226 | apply in297 | apply in302 | apply in1163 | apply in1167); rfl; rfl; rfl; intro A; conv => whnf)
 | (refine aq227 ?_; conv => whnf)
 | (refine ak227 ?_; conv => whnf)
 | (refine aq239 ?_; conv => whnf)
 | (refine ak239 ?_; conv => whnf)
 | ((with_reducible refine CallQ.at 288 ?_); (first | refine CallQ.pu (fun w => within298 (by decide) w) ?_ | refine CallQ.pu (fun w => withinF298 (by decide) w) ?_); conv => whnf)
 | ((with_reducible apply OpK.more); (focus refine sok); (conv => whnf); fail_if_success guard_target =ₛ False)
 | with_reducible (first | refine Rounds.step (fun KL hL => ?_) | refine r_rounds 100 ?_)
 | (apply r_quiet; refine mixed; kernel_rfl; kernel_rfl; kernel_rfl; conv => whnf)
 | with_reducible apply_assumption -symm -exfalso)
  all_goals exact FinK.pu rfl
theorem ckB9_1053  (w : World) : Pu Tryz.prog 53 #[.agg #[.int .i64 15, .int .i64 0, .int .i64 0, .int .i64 0, .int .i64 0, .int .i64 0, .string ⟨#[]⟩, .int .i64 0, .int .i64 0, .string ⟨#[]⟩, .string ⟨#[]⟩, .int .i64 0, .string ⟨#[]⟩, .int .i64 0, .int .i64 0, .slice none 0 0, .int .i64 0, .int .i64 0, .int .i64 0, .int .i64 0, .bool false, .int .i64 0, .int .i64 0, .string ⟨#[]⟩]] w (.int .i64 2) := by
  refine enter_sound TBok Tryz.func53 rfl rfl Tryz.ntmps53 [.agg [.v (.int .i64 15), .v (.int .i64 0), .v (.int .i64 0), .v (.int .i64 0), .v (.int .i64 0), .v (.int .i64 0), .v (.string ⟨#[]⟩), .v (.int .i64 0), .v (.int .i64 0), .v (.string ⟨#[]⟩), .v (.string ⟨#[]⟩), .v (.int .i64 0), .v (.string ⟨#[]⟩), .v (.int .i64 0), .v (.int .i64 0), .v (.slice none 0 0), .v (.int .i64 0), .v (.int .i64 0), .v (.int .i64 0), .v (.int .i64 0), .v (.bool false), .v (.int .i64 0), .v (.int .i64 0), .v (.string ⟨#[]⟩)]] (Kn.start w noS) rfl rfl ?_
  conv => whnf
  repeat' (first
 | with_reducible ((first | refine r_seq (fun KS hS => ?_) | (refine hS _ _ ?_; clear hS KS) | (refine hA _ ?_; clear hA KA) | (refine hB _ ?_; clear hB KB) | refine r_block ?_))
 | ((with_reducible (first | refine r_region ?_ | refine r_cond (fun KA hA KB hB => ?_) | refine r_ret ?_ | refine r_skip ?_ | refine r_exit ?_ | refine And.intro rfl ?_ | intro b)); conv => whnf)
 | ((with_reducible refine WrapK.i64 ?_ ?_); (focus omega); conv => whnf)
 | ((with_reducible refine CallK.id ?_); (first | apply in103 | apply in149 | apply in216 | apply in292 | apply in250 | apply in1170 | apply in1171 | apply in1254 | apply in1259); rfl; rfl; rfl; intro A; conv => whnf)
 | (refine ak236 ?_; conv => whnf)
 | ((with_reducible refine CallK.at 69 ?_); refine CallK.pu (fun w => itemBad50 (by unfold ItemOk; omega) w) ?_; conv => whnf)
 | ((with_reducible apply OpK.more); (focus refine sok); (conv => whnf); fail_if_success guard_target =ₛ False)
 | with_reducible (first | refine Rounds.step (fun KL hL => ?_) | refine r_rounds 100 ?_)
 | with_reducible apply_assumption -symm -exfalso)
  all_goals exact FinK.pu rfl
theorem apB0_1014 {d : Nat} {o : OM.St} {o0 o1 : Obj} (hI : OM.Inv o) (w : World) :
    Fr Tryz.prog 14 #[pv d, .agg (denL (cmV (OM.badC 0) none 0 0)).toArray] w (AssL [.ext 12 (OrchA d o), .ext 9 (GlA o0 o1), .ext 8 (dfA (OM.badC 0).d none 0)]) (rpV ⟨2, 0⟩) (AssL [.ext 12 (OrchA d { o with done := OM.bump o }), .ext 9 (GlA o0 o1), .ext 8 (dfA (OM.badC 0).d none 0)]) := by
  have hdn0 := hI.dn
  refine enter_fr TBok (H := [.ext 12 (OrchA d o), .ext 9 (GlA o0 o1), .ext 8 (dfA (OM.badC 0).d none 0)]) all_foot Tryz.func14 rfl rfl Tryz.ntmps14 [.loc d 0 0, .agg (cmV (OM.badC 0) none 0 0)] rfl rfl ?_
  intro S
  conv => whnf
  repeat' (first
 | with_reducible refine r_stop 7 ?_
 | with_reducible ((first | refine r_seq (fun KS hS => ?_) | (refine hS _ _ ?_; clear hS KS) | (refine hB _ ?_; clear hB KB)))
 | ((with_reducible (first | refine r_region ?_ | refine r_cond (fun KA hA KB hB => ?_) | refine r_skip ?_ | refine And.intro rfl ?_ | intro b)); conv => whnf)
 | ((with_reducible refine CallK.id ?_); refine CallK.s1V rmG (fun ms w hk => made1041 (by have := hI.gr; omega) w) ?_; conv => whnf)
 | ((with_reducible refine OpK.id ?_); refine OpK.mkMK rfl ?_; conv => whnf)
 | ((with_reducible refine OpK.id ?_); (first | refine OpK.inK rfl rfl rfl rfl rfl rfl rfl rfl atG ⟨by decide, by decide⟩ ?_ | refine OpK.lkV (s := .v .nilFunc) rfl rfl rfl rfl rfl rfl rfl rfl (SeesM.ext atG) rfl ?_); conv => whnf)
 | ((with_reducible refine CallK.at 46 ?_); refine CallK.pu (fun w => refuse1046 w) ?_; conv => whnf)
 | ((with_reducible apply OpK.more); (focus refine sok); (conv => whnf); fail_if_success guard_target =ₛ False)
 | with_reducible apply_assumption -symm -exfalso)
  refine StopR.mk ?_
  refine Run.ex (A := orH d o) (i := 12) rmG ?_
  rintro ⟨t1, t2, t3⟩
  dsimp only [orH, layF]
  repeat' (first
 | with_reducible ((first | refine r_seq (fun KS hS => ?_) | (refine hS _ _ ?_; clear hS KS)))
 | ((with_reducible (first | refine r_region ?_ | refine r_ret ?_ | refine And.intro rfl ?_)); conv => whnf)
 | ((with_reducible refine WrapK.i64 ?_ ?_); (focus omega); conv => whnf)
 | ((with_reducible refine OpK.id ?_); refine OpK.minI rfl rfl rfl ?_; conv => whnf))
  all_goals exact FinK.frL rfl (HSub.trans (HSub.app2 (A' := [.ext 12 (OrchA d { o with done := OM.bump o })]) (or_id (i := 0) (j := 1) (k := 2) (l := 3) (d := d) (s := { o with done := OM.bump o }) (t1 := t1) (t2 := t2) (t3 := t3)) (HSub.refl [.ext 9 (GlA o0 o1), .ext 8 (dfA (OM.badC 0).d none 0)])) seG)
theorem apB1_1014 {d : Nat} {o : OM.St} {o0 o1 : Obj} (hI : OM.Inv o) (w : World) :
    Fr Tryz.prog 14 #[pv d, .agg (denL (cmV (OM.badC 1) none 0 0)).toArray] w (AssL [.ext 12 (OrchA d o), .ext 9 (GlA o0 o1), .ext 8 (dfA (OM.badC 1).d none 0)]) (rpV ⟨2, 0⟩) (AssL [.ext 12 (OrchA d { o with done := OM.bump o }), .ext 9 (GlA o0 o1), .ext 8 (dfA (OM.badC 1).d none 0)]) := by
  have hdn0 := hI.dn
  refine enter_fr TBok (H := [.ext 12 (OrchA d o), .ext 9 (GlA o0 o1), .ext 8 (dfA (OM.badC 1).d none 0)]) all_foot Tryz.func14 rfl rfl Tryz.ntmps14 [.loc d 0 0, .agg (cmV (OM.badC 1) none 0 0)] rfl rfl ?_
  intro S
  conv => whnf
  repeat' (first
 | with_reducible refine r_stop 7 ?_
 | with_reducible ((first | refine r_seq (fun KS hS => ?_) | (refine hS _ _ ?_; clear hS KS) | (refine hB _ ?_; clear hB KB)))
 | ((with_reducible (first | refine r_region ?_ | refine r_cond (fun KA hA KB hB => ?_) | refine r_skip ?_ | refine And.intro rfl ?_ | intro b)); conv => whnf)
 | ((with_reducible refine CallK.id ?_); refine CallK.s1V rmG (fun ms w hk => made1041 (by have := hI.gr; omega) w) ?_; conv => whnf)
 | ((with_reducible refine OpK.id ?_); refine OpK.mkMK rfl ?_; conv => whnf)
 | ((with_reducible refine OpK.id ?_); (first | refine OpK.inK rfl rfl rfl rfl rfl rfl rfl rfl atG ⟨by decide, by decide⟩ ?_ | refine OpK.lkV (s := .v .nilFunc) rfl rfl rfl rfl rfl rfl rfl rfl (SeesM.ext atG) rfl ?_); conv => whnf)
 | ((with_reducible refine CallK.at 46 ?_); refine CallK.pu (fun w => refuse1046 w) ?_; conv => whnf)
 | ((with_reducible apply OpK.more); (focus refine sok); (conv => whnf); fail_if_success guard_target =ₛ False)
 | with_reducible apply_assumption -symm -exfalso)
  refine StopR.mk ?_
  refine Run.ex (A := orH d o) (i := 12) rmG ?_
  rintro ⟨t1, t2, t3⟩
  dsimp only [orH, layF]
  repeat' (first
 | with_reducible ((first | refine r_seq (fun KS hS => ?_) | (refine hS _ _ ?_; clear hS KS)))
 | ((with_reducible (first | refine r_region ?_ | refine r_ret ?_ | refine And.intro rfl ?_)); conv => whnf)
 | ((with_reducible refine WrapK.i64 ?_ ?_); (focus omega); conv => whnf)
 | ((with_reducible refine OpK.id ?_); refine OpK.minI rfl rfl rfl ?_; conv => whnf))
  all_goals exact FinK.frL rfl (HSub.trans (HSub.app2 (A' := [.ext 12 (OrchA d { o with done := OM.bump o })]) (or_id (i := 0) (j := 1) (k := 2) (l := 3) (d := d) (s := { o with done := OM.bump o }) (t1 := t1) (t2 := t2) (t3 := t3)) (HSub.refl [.ext 9 (GlA o0 o1), .ext 8 (dfA (OM.badC 1).d none 0)])) seG)
theorem apB2_1014 {d : Nat} {o : OM.St} {o0 o1 : Obj} (hI : OM.Inv o) (w : World) :
    Fr Tryz.prog 14 #[pv d, .agg (denL (cmV (OM.badC 2) none 0 0)).toArray] w (AssL [.ext 12 (OrchA d o), .ext 9 (GlA o0 o1), .ext 8 (dfA (OM.badC 2).d none 0)]) (rpV ⟨2, 0⟩) (AssL [.ext 12 (OrchA d { o with done := OM.bump o }), .ext 9 (GlA o0 o1), .ext 8 (dfA (OM.badC 2).d none 0)]) := by
  have hdn0 := hI.dn
  refine enter_fr TBok (H := [.ext 12 (OrchA d o), .ext 9 (GlA o0 o1), .ext 8 (dfA (OM.badC 2).d none 0)]) all_foot Tryz.func14 rfl rfl Tryz.ntmps14 [.loc d 0 0, .agg (cmV (OM.badC 2) none 0 0)] rfl rfl ?_
  intro S
  conv => whnf
  repeat' (first
 | with_reducible refine r_stop 7 ?_
 | with_reducible ((first | refine r_seq (fun KS hS => ?_) | (refine hS _ _ ?_; clear hS KS) | (refine hB _ ?_; clear hB KB)))
 | ((with_reducible (first | refine r_region ?_ | refine r_cond (fun KA hA KB hB => ?_) | refine r_skip ?_ | refine And.intro rfl ?_ | intro b)); conv => whnf)
 | ((with_reducible refine CallK.id ?_); refine CallK.s1V rmG (fun ms w hk => made1041 (by have := hI.gr; omega) w) ?_; conv => whnf)
 | ((with_reducible refine OpK.id ?_); refine OpK.mkMK rfl ?_; conv => whnf)
 | ((with_reducible refine OpK.id ?_); (first | refine OpK.inK rfl rfl rfl rfl rfl rfl rfl rfl atG ⟨by decide, by decide⟩ ?_ | refine OpK.lkV (s := .v .nilFunc) rfl rfl rfl rfl rfl rfl rfl rfl (SeesM.ext atG) rfl ?_); conv => whnf)
 | ((with_reducible refine CallK.at 46 ?_); refine CallK.pu (fun w => refuse1046 w) ?_; conv => whnf)
 | ((with_reducible apply OpK.more); (focus refine sok); (conv => whnf); fail_if_success guard_target =ₛ False)
 | with_reducible apply_assumption -symm -exfalso)
  refine StopR.mk ?_
  refine Run.ex (A := orH d o) (i := 12) rmG ?_
  rintro ⟨t1, t2, t3⟩
  dsimp only [orH, layF]
  repeat' (first
 | with_reducible ((first | refine r_seq (fun KS hS => ?_) | (refine hS _ _ ?_; clear hS KS)))
 | ((with_reducible (first | refine r_region ?_ | refine r_ret ?_ | refine And.intro rfl ?_)); conv => whnf)
 | ((with_reducible refine WrapK.i64 ?_ ?_); (focus omega); conv => whnf)
 | ((with_reducible refine OpK.id ?_); refine OpK.minI rfl rfl rfl ?_; conv => whnf))
  all_goals exact FinK.frL rfl (HSub.trans (HSub.app2 (A' := [.ext 12 (OrchA d { o with done := OM.bump o })]) (or_id (i := 0) (j := 1) (k := 2) (l := 3) (d := d) (s := { o with done := OM.bump o }) (t1 := t1) (t2 := t2) (t3 := t3)) (HSub.refl [.ext 9 (GlA o0 o1), .ext 8 (dfA (OM.badC 2).d none 0)])) seG)
theorem apB3_1014 {d : Nat} {o : OM.St} {o0 o1 : Obj} (hI : OM.Inv o) (w : World) :
    Fr Tryz.prog 14 #[pv d, .agg (denL (cmV (OM.badC 3) none 0 0)).toArray] w (AssL [.ext 12 (OrchA d o), .ext 9 (GlA o0 o1), .ext 8 (dfA (OM.badC 3).d none 0)]) (rpV ⟨2, 0⟩) (AssL [.ext 12 (OrchA d { o with done := OM.bump o }), .ext 9 (GlA o0 o1), .ext 8 (dfA (OM.badC 3).d none 0)]) := by
  have hdn0 := hI.dn
  refine enter_fr TBok (H := [.ext 12 (OrchA d o), .ext 9 (GlA o0 o1), .ext 8 (dfA (OM.badC 3).d none 0)]) all_foot Tryz.func14 rfl rfl Tryz.ntmps14 [.loc d 0 0, .agg (cmV (OM.badC 3) none 0 0)] rfl rfl ?_
  intro S
  conv => whnf
  repeat' (first
 | with_reducible refine r_stop 7 ?_
 | with_reducible ((first | refine r_seq (fun KS hS => ?_) | (refine hS _ _ ?_; clear hS KS) | (refine hB _ ?_; clear hB KB)))
 | ((with_reducible (first | refine r_region ?_ | refine r_cond (fun KA hA KB hB => ?_) | refine r_skip ?_ | refine And.intro rfl ?_ | intro b)); conv => whnf)
 | ((with_reducible refine CallK.id ?_); refine CallK.s1V rmG (fun ms w hk => made1041 (by have := hI.gr; omega) w) ?_; conv => whnf)
 | ((with_reducible refine OpK.id ?_); refine OpK.mkMK rfl ?_; conv => whnf)
 | ((with_reducible refine OpK.id ?_); (first | refine OpK.inK rfl rfl rfl rfl rfl rfl rfl rfl atG ⟨by decide, by decide⟩ ?_ | refine OpK.lkV (s := .fn 47 []) rfl rfl rfl rfl rfl rfl rfl rfl (SeesM.ext atG) rfl ?_); conv => whnf)
 | ((with_reducible refine CallK.at 46 ?_); refine CallK.pu (fun w => refuse1046 w) ?_; conv => whnf)
 | ((with_reducible refine CallK.at 53 ?_); refine CallK.pu (fun w => ckB3_1053 w) ?_; conv => whnf)
 | ((with_reducible apply OpK.more); (focus refine sok); (conv => whnf); fail_if_success guard_target =ₛ False)
 | with_reducible apply_assumption -symm -exfalso)
  refine StopR.mk ?_
  refine Run.ex (A := orH d o) (i := 12) rmG ?_
  rintro ⟨t1, t2, t3⟩
  dsimp only [orH, layF]
  repeat' (first
 | with_reducible ((first | refine r_seq (fun KS hS => ?_) | (refine hS _ _ ?_; clear hS KS)))
 | ((with_reducible (first | refine r_region ?_ | refine r_ret ?_ | refine And.intro rfl ?_)); conv => whnf)
 | ((with_reducible refine WrapK.i64 ?_ ?_); (focus omega); conv => whnf)
 | ((with_reducible refine OpK.id ?_); refine OpK.minI rfl rfl rfl ?_; conv => whnf))
  all_goals exact FinK.frL rfl (HSub.trans (HSub.app2 (A' := [.ext 12 (OrchA d { o with done := OM.bump o })]) (or_id (i := 0) (j := 1) (k := 2) (l := 3) (d := d) (s := { o with done := OM.bump o }) (t1 := t1) (t2 := t2) (t3 := t3)) (HSub.refl [.ext 9 (GlA o0 o1), .ext 8 (dfA (OM.badC 3).d none 0)])) seG)
theorem apB4_1014 {d : Nat} {o : OM.St} {o0 o1 : Obj} {bs : Nat} (hI : OM.Inv o) (w : World) :
    Fr Tryz.prog 14 #[pv d, .agg (denL (cmV (OM.badC 4) (some ⟨bs, 0, none⟩) 2 2)).toArray] w (AssL [.ext 12 (OrchA d o), .ext 9 (GlA o0 o1), .ext 8 (dfA (OM.badC 4).d (some ⟨bs, 0, none⟩) 2)]) (rpV ⟨2, 0⟩) (AssL [.ext 12 (OrchA d { o with done := OM.bump o }), .ext 9 (GlA o0 o1), .ext 8 (dfA (OM.badC 4).d (some ⟨bs, 0, none⟩) 2)]) := by
  have hdn0 := hI.dn
  refine enter_fr TBok (H := [.ext 12 (OrchA d o), .ext 9 (GlA o0 o1), .ext 8 (dfA (OM.badC 4).d (some ⟨bs, 0, none⟩) 2)]) all_foot Tryz.func14 rfl rfl Tryz.ntmps14 [.loc d 0 0, .agg (cmV (OM.badC 4) (some ⟨bs, 0, none⟩) 2 2)] rfl rfl ?_
  intro S
  conv => whnf
  repeat' (first
 | with_reducible refine r_stop 7 ?_
 | with_reducible ((first | refine r_seq (fun KS hS => ?_) | (refine hS _ _ ?_; clear hS KS) | (refine hB _ ?_; clear hB KB)))
 | ((with_reducible (first | refine r_region ?_ | refine r_cond (fun KA hA KB hB => ?_) | refine r_skip ?_ | refine And.intro rfl ?_ | intro b)); conv => whnf)
 | ((with_reducible refine CallK.id ?_); refine CallK.s1V rmG (fun ms w hk => made1041 (by have := hI.gr; omega) w) ?_; conv => whnf)
 | ((with_reducible refine OpK.id ?_); refine OpK.mkMK rfl ?_; conv => whnf)
 | ((with_reducible refine OpK.id ?_); (first | refine OpK.inK rfl rfl rfl rfl rfl rfl rfl rfl atG ⟨by decide, by decide⟩ ?_ | refine OpK.lkV (s := .fn 48 []) rfl rfl rfl rfl rfl rfl rfl rfl (SeesM.ext atG) rfl ?_); conv => whnf)
 | ((with_reducible refine CallK.at 46 ?_); refine CallK.pu (fun w => refuse1046 w) ?_; conv => whnf)
 | ((with_reducible refine CallK.at 53 ?_); refine CallK.pu (fun w => ckB4_1053 w) ?_; conv => whnf)
 | ((with_reducible apply OpK.more); (focus refine sok); (conv => whnf); fail_if_success guard_target =ₛ False)
 | with_reducible apply_assumption -symm -exfalso)
  refine StopR.mk ?_
  refine Run.ex (A := orH d o) (i := 12) rmG ?_
  rintro ⟨t1, t2, t3⟩
  dsimp only [orH, layF]
  repeat' (first
 | with_reducible ((first | refine r_seq (fun KS hS => ?_) | (refine hS _ _ ?_; clear hS KS)))
 | ((with_reducible (first | refine r_region ?_ | refine r_ret ?_ | refine And.intro rfl ?_)); conv => whnf)
 | ((with_reducible refine WrapK.i64 ?_ ?_); (focus omega); conv => whnf)
 | ((with_reducible refine OpK.id ?_); refine OpK.minI rfl rfl rfl ?_; conv => whnf))
  all_goals exact FinK.frL rfl (HSub.trans (HSub.app2 (A' := [.ext 12 (OrchA d { o with done := OM.bump o })]) (or_id (i := 0) (j := 1) (k := 2) (l := 3) (d := d) (s := { o with done := OM.bump o }) (t1 := t1) (t2 := t2) (t3 := t3)) (HSub.refl [.ext 9 (GlA o0 o1), .ext 8 (dfA (OM.badC 4).d (some ⟨bs, 0, none⟩) 2)])) seG)
theorem apB5_1014 {d : Nat} {o : OM.St} {o0 o1 : Obj} (hI : OM.Inv o) (w : World) :
    Fr Tryz.prog 14 #[pv d, .agg (denL (cmV (OM.badC 5) none 0 0)).toArray] w (AssL [.ext 12 (OrchA d o), .ext 9 (GlA o0 o1), .ext 8 (dfA (OM.badC 5).d none 0)]) (rpV ⟨2, 0⟩) (AssL [.ext 12 (OrchA d { o with done := OM.bump o }), .ext 9 (GlA o0 o1), .ext 8 (dfA (OM.badC 5).d none 0)]) := by
  have hdn0 := hI.dn
  refine enter_fr TBok (H := [.ext 12 (OrchA d o), .ext 9 (GlA o0 o1), .ext 8 (dfA (OM.badC 5).d none 0)]) all_foot Tryz.func14 rfl rfl Tryz.ntmps14 [.loc d 0 0, .agg (cmV (OM.badC 5) none 0 0)] rfl rfl ?_
  intro S
  conv => whnf
  repeat' (first
 | with_reducible refine r_stop 7 ?_
 | with_reducible ((first | refine r_seq (fun KS hS => ?_) | (refine hS _ _ ?_; clear hS KS) | (refine hB _ ?_; clear hB KB)))
 | ((with_reducible (first | refine r_region ?_ | refine r_cond (fun KA hA KB hB => ?_) | refine r_skip ?_ | refine And.intro rfl ?_ | intro b)); conv => whnf)
 | ((with_reducible refine CallK.id ?_); refine CallK.s1V rmG (fun ms w hk => made1041 (by have := hI.gr; omega) w) ?_; conv => whnf)
 | ((with_reducible refine OpK.id ?_); refine OpK.mkMK rfl ?_; conv => whnf)
 | ((with_reducible refine OpK.id ?_); (first | refine OpK.inK rfl rfl rfl rfl rfl rfl rfl rfl atG ⟨by decide, by decide⟩ ?_ | refine OpK.lkV (s := .fn 48 []) rfl rfl rfl rfl rfl rfl rfl rfl (SeesM.ext atG) rfl ?_); conv => whnf)
 | ((with_reducible refine CallK.at 46 ?_); refine CallK.pu (fun w => refuse1046 w) ?_; conv => whnf)
 | ((with_reducible refine CallK.at 53 ?_); refine CallK.pu (fun w => ckB5_1053 w) ?_; conv => whnf)
 | ((with_reducible apply OpK.more); (focus refine sok); (conv => whnf); fail_if_success guard_target =ₛ False)
 | with_reducible apply_assumption -symm -exfalso)
  refine StopR.mk ?_
  refine Run.ex (A := orH d o) (i := 12) rmG ?_
  rintro ⟨t1, t2, t3⟩
  dsimp only [orH, layF]
  repeat' (first
 | with_reducible ((first | refine r_seq (fun KS hS => ?_) | (refine hS _ _ ?_; clear hS KS)))
 | ((with_reducible (first | refine r_region ?_ | refine r_ret ?_ | refine And.intro rfl ?_)); conv => whnf)
 | ((with_reducible refine WrapK.i64 ?_ ?_); (focus omega); conv => whnf)
 | ((with_reducible refine OpK.id ?_); refine OpK.minI rfl rfl rfl ?_; conv => whnf))
  all_goals exact FinK.frL rfl (HSub.trans (HSub.app2 (A' := [.ext 12 (OrchA d { o with done := OM.bump o })]) (or_id (i := 0) (j := 1) (k := 2) (l := 3) (d := d) (s := { o with done := OM.bump o }) (t1 := t1) (t2 := t2) (t3 := t3)) (HSub.refl [.ext 9 (GlA o0 o1), .ext 8 (dfA (OM.badC 5).d none 0)])) seG)
theorem apB6_1014 {d : Nat} {o : OM.St} {o0 o1 : Obj} (hI : OM.Inv o) (w : World) :
    Fr Tryz.prog 14 #[pv d, .agg (denL (cmV (OM.badC 6) none 0 0)).toArray] w (AssL [.ext 12 (OrchA d o), .ext 9 (GlA o0 o1), .ext 8 (dfA (OM.badC 6).d none 0)]) (rpV ⟨2, 0⟩) (AssL [.ext 12 (OrchA d { o with done := OM.bump o }), .ext 9 (GlA o0 o1), .ext 8 (dfA (OM.badC 6).d none 0)]) := by
  have hdn0 := hI.dn
  refine enter_fr TBok (H := [.ext 12 (OrchA d o), .ext 9 (GlA o0 o1), .ext 8 (dfA (OM.badC 6).d none 0)]) all_foot Tryz.func14 rfl rfl Tryz.ntmps14 [.loc d 0 0, .agg (cmV (OM.badC 6) none 0 0)] rfl rfl ?_
  intro S
  conv => whnf
  repeat' (first
 | with_reducible refine r_stop 7 ?_
 | with_reducible ((first | refine r_seq (fun KS hS => ?_) | (refine hS _ _ ?_; clear hS KS) | (refine hB _ ?_; clear hB KB)))
 | ((with_reducible (first | refine r_region ?_ | refine r_cond (fun KA hA KB hB => ?_) | refine r_skip ?_ | refine And.intro rfl ?_ | intro b)); conv => whnf)
 | ((with_reducible refine CallK.id ?_); refine CallK.s1V rmG (fun ms w hk => made1041 (by have := hI.gr; omega) w) ?_; conv => whnf)
 | ((with_reducible refine OpK.id ?_); refine OpK.mkMK rfl ?_; conv => whnf)
 | ((with_reducible refine OpK.id ?_); (first | refine OpK.inK rfl rfl rfl rfl rfl rfl rfl rfl atG ⟨by decide, by decide⟩ ?_ | refine OpK.lkV (s := .fn 51 []) rfl rfl rfl rfl rfl rfl rfl rfl (SeesM.ext atG) rfl ?_); conv => whnf)
 | ((with_reducible refine CallK.at 46 ?_); refine CallK.pu (fun w => refuse1046 w) ?_; conv => whnf)
 | ((with_reducible refine CallK.at 53 ?_); refine CallK.pu (fun w => ckB6_1053 w) ?_; conv => whnf)
 | ((with_reducible apply OpK.more); (focus refine sok); (conv => whnf); fail_if_success guard_target =ₛ False)
 | with_reducible apply_assumption -symm -exfalso)
  refine StopR.mk ?_
  refine Run.ex (A := orH d o) (i := 12) rmG ?_
  rintro ⟨t1, t2, t3⟩
  dsimp only [orH, layF]
  repeat' (first
 | with_reducible ((first | refine r_seq (fun KS hS => ?_) | (refine hS _ _ ?_; clear hS KS)))
 | ((with_reducible (first | refine r_region ?_ | refine r_ret ?_ | refine And.intro rfl ?_)); conv => whnf)
 | ((with_reducible refine WrapK.i64 ?_ ?_); (focus omega); conv => whnf)
 | ((with_reducible refine OpK.id ?_); refine OpK.minI rfl rfl rfl ?_; conv => whnf))
  all_goals exact FinK.frL rfl (HSub.trans (HSub.app2 (A' := [.ext 12 (OrchA d { o with done := OM.bump o })]) (or_id (i := 0) (j := 1) (k := 2) (l := 3) (d := d) (s := { o with done := OM.bump o }) (t1 := t1) (t2 := t2) (t3 := t3)) (HSub.refl [.ext 9 (GlA o0 o1), .ext 8 (dfA (OM.badC 6).d none 0)])) seG)
theorem apB8_1014 {d : Nat} {o : OM.St} {o0 o1 : Obj} (hI : OM.Inv o) (w : World) :
    Fr Tryz.prog 14 #[pv d, .agg (denL (cmV (OM.badC 8) none 0 0)).toArray] w (AssL [.ext 12 (OrchA d o), .ext 9 (GlA o0 o1), .ext 8 (dfA (OM.badC 8).d none 0)]) (rpV ⟨2, 0⟩) (AssL [.ext 12 (OrchA d { o with done := OM.bump o }), .ext 9 (GlA o0 o1), .ext 8 (dfA (OM.badC 8).d none 0)]) := by
  have hdn0 := hI.dn
  refine enter_fr TBok (H := [.ext 12 (OrchA d o), .ext 9 (GlA o0 o1), .ext 8 (dfA (OM.badC 8).d none 0)]) all_foot Tryz.func14 rfl rfl Tryz.ntmps14 [.loc d 0 0, .agg (cmV (OM.badC 8) none 0 0)] rfl rfl ?_
  intro S
  conv => whnf
  repeat' (first
 | with_reducible refine r_stop 7 ?_
 | with_reducible ((first | refine r_seq (fun KS hS => ?_) | (refine hS _ _ ?_; clear hS KS) | (refine hB _ ?_; clear hB KB)))
 | ((with_reducible (first | refine r_region ?_ | refine r_cond (fun KA hA KB hB => ?_) | refine r_skip ?_ | refine And.intro rfl ?_ | intro b)); conv => whnf)
 | ((with_reducible refine CallK.id ?_); refine CallK.s1V rmG (fun ms w hk => made1041 (by have := hI.gr; omega) w) ?_; conv => whnf)
 | ((with_reducible refine OpK.id ?_); refine OpK.mkMK rfl ?_; conv => whnf)
 | ((with_reducible refine OpK.id ?_); (first | refine OpK.inK rfl rfl rfl rfl rfl rfl rfl rfl atG ⟨by decide, by decide⟩ ?_ | refine OpK.lkV (s := .fn 49 []) rfl rfl rfl rfl rfl rfl rfl rfl (SeesM.ext atG) rfl ?_); conv => whnf)
 | ((with_reducible refine CallK.at 46 ?_); refine CallK.pu (fun w => refuse1046 w) ?_; conv => whnf)
 | ((with_reducible refine CallK.at 53 ?_); refine CallK.pu (fun w => ckB8_1053 w) ?_; conv => whnf)
 | ((with_reducible apply OpK.more); (focus refine sok); (conv => whnf); fail_if_success guard_target =ₛ False)
 | with_reducible apply_assumption -symm -exfalso)
  refine StopR.mk ?_
  refine Run.ex (A := orH d o) (i := 12) rmG ?_
  rintro ⟨t1, t2, t3⟩
  dsimp only [orH, layF]
  repeat' (first
 | with_reducible ((first | refine r_seq (fun KS hS => ?_) | (refine hS _ _ ?_; clear hS KS)))
 | ((with_reducible (first | refine r_region ?_ | refine r_ret ?_ | refine And.intro rfl ?_)); conv => whnf)
 | ((with_reducible refine WrapK.i64 ?_ ?_); (focus omega); conv => whnf)
 | ((with_reducible refine OpK.id ?_); refine OpK.minI rfl rfl rfl ?_; conv => whnf))
  all_goals exact FinK.frL rfl (HSub.trans (HSub.app2 (A' := [.ext 12 (OrchA d { o with done := OM.bump o })]) (or_id (i := 0) (j := 1) (k := 2) (l := 3) (d := d) (s := { o with done := OM.bump o }) (t1 := t1) (t2 := t2) (t3 := t3)) (HSub.refl [.ext 9 (GlA o0 o1), .ext 8 (dfA (OM.badC 8).d none 0)])) seG)
theorem apB9_1014 {d : Nat} {o : OM.St} {o0 o1 : Obj} (hI : OM.Inv o) (w : World) :
    Fr Tryz.prog 14 #[pv d, .agg (denL (cmV (OM.badC 9) none 0 0)).toArray] w (AssL [.ext 12 (OrchA d o), .ext 9 (GlA o0 o1), .ext 8 (dfA (OM.badC 9).d none 0)]) (rpV ⟨2, 0⟩) (AssL [.ext 12 (OrchA d { o with done := OM.bump o }), .ext 9 (GlA o0 o1), .ext 8 (dfA (OM.badC 9).d none 0)]) := by
  have hdn0 := hI.dn
  refine enter_fr TBok (H := [.ext 12 (OrchA d o), .ext 9 (GlA o0 o1), .ext 8 (dfA (OM.badC 9).d none 0)]) all_foot Tryz.func14 rfl rfl Tryz.ntmps14 [.loc d 0 0, .agg (cmV (OM.badC 9) none 0 0)] rfl rfl ?_
  intro S
  conv => whnf
  repeat' (first
 | with_reducible refine r_stop 7 ?_
 | with_reducible ((first | refine r_seq (fun KS hS => ?_) | (refine hS _ _ ?_; clear hS KS) | (refine hB _ ?_; clear hB KB)))
 | ((with_reducible (first | refine r_region ?_ | refine r_cond (fun KA hA KB hB => ?_) | refine r_skip ?_ | refine And.intro rfl ?_ | intro b)); conv => whnf)
 | ((with_reducible refine CallK.id ?_); refine CallK.s1V rmG (fun ms w hk => made1041 (by have := hI.gr; omega) w) ?_; conv => whnf)
 | ((with_reducible refine OpK.id ?_); refine OpK.mkMK rfl ?_; conv => whnf)
 | ((with_reducible refine OpK.id ?_); (first | refine OpK.inK rfl rfl rfl rfl rfl rfl rfl rfl atG ⟨by decide, by decide⟩ ?_ | refine OpK.lkV (s := .fn 52 []) rfl rfl rfl rfl rfl rfl rfl rfl (SeesM.ext atG) rfl ?_); conv => whnf)
 | ((with_reducible refine CallK.at 46 ?_); refine CallK.pu (fun w => refuse1046 w) ?_; conv => whnf)
 | ((with_reducible refine CallK.at 53 ?_); refine CallK.pu (fun w => ckB9_1053 w) ?_; conv => whnf)
 | ((with_reducible apply OpK.more); (focus refine sok); (conv => whnf); fail_if_success guard_target =ₛ False)
 | with_reducible apply_assumption -symm -exfalso)
  refine StopR.mk ?_
  refine Run.ex (A := orH d o) (i := 12) rmG ?_
  rintro ⟨t1, t2, t3⟩
  dsimp only [orH, layF]
  repeat' (first
 | with_reducible ((first | refine r_seq (fun KS hS => ?_) | (refine hS _ _ ?_; clear hS KS)))
 | ((with_reducible (first | refine r_region ?_ | refine r_ret ?_ | refine And.intro rfl ?_)); conv => whnf)
 | ((with_reducible refine WrapK.i64 ?_ ?_); (focus omega); conv => whnf)
 | ((with_reducible refine OpK.id ?_); refine OpK.minI rfl rfl rfl ?_; conv => whnf))
  all_goals exact FinK.frL rfl (HSub.trans (HSub.app2 (A' := [.ext 12 (OrchA d { o with done := OM.bump o })]) (or_id (i := 0) (j := 1) (k := 2) (l := 3) (d := d) (s := { o with done := OM.bump o }) (t1 := t1) (t2 := t2) (t3 := t3)) (HSub.refl [.ext 9 (GlA o0 o1), .ext 8 (dfA (OM.badC 9).d none 0)])) seG)
instance : Inhabited StZ := ⟨⟨(none, 0), fun _ => (none, 0), (none, 0), (none, 0), (none, 0), (none, 0)⟩⟩
theorem alikeD1037 {o o' : OM.St} {n m : Int} {z z' : StZ} {y y' : WhY} {w : World} (ha : OM.St.alike o o') (h : RdW w o' z y) (h' : RdW w o z' y') (hI : OM.Inv o) :
    Pu Tryz.prog 37 #[.agg (denL (whV o' n z y)).toArray, .agg (denL (whV o m z' y')).toArray] w (.bool true) := by
  obtain ⟨g, dn, sg, mv, pt⟩ := o
  obtain ⟨g', dn', sg', mv', pt'⟩ := o'
  obtain ⟨h1, h2, h3, h4⟩ := ha
  dsimp only at h1 h2 h3 h4
  subst h1 h2 h3 h4
  exact alike1037 (o := ⟨g', dn, sg', mv', pt'⟩) ⟨h.sg, h.st, h.mv, h.rg, h.gp, h.ep⟩ h' hI
theorem applyI {i j k d : Nat} {o : OM.St} {c : OM.Cmd} {a : Option Addr} {cap : Nat} {o0 o1 : Obj} (hko : KObj o0 o1) (hI : OM.Inv o) (hok : c.ok = true) (ha : c.kind ≠ 11 → (a, cap) = (none, 0)) (w : World) :
    Fr Tryz.prog 14 #[pv d, .agg (denL (cmV c a c.d.steps.length cap)).toArray] w (AssL [.ext i (OrchA d o), .ext j (GlA o0 o1), .ext k (dfA c.d a cap)]) (rpV (o.apply c).2) (AssL [.ext i (OrchA d (o.apply c).1), .ext j (GlA o0 o1), .ext k (dfA c.d a cap)]) := by
  have := apply1014 (d := d) (a := a) (cap := cap) (c := c) hko hI hok ha w
  intro S hS hlt
  refine (this S (AssL.re3 hS) hlt).mono ?_
  rintro e w' ⟨rfl, he, S', h1, h2⟩
  exact ⟨rfl, he, S', AssL.re3 h1, h2⟩
def BadAt (o p1 : OM.St) (d : Nat) (o0 o1 : Obj) (cb : OM.Cmd) (ca : Option Addr) (cn ccap : Nat) : Prop :=
  ∀ w, Fr Tryz.prog 14 #[pv d, .agg (denL (cmV cb ca cn ccap)).toArray] w (AssL [.ext 12 (OrchA d o), .ext 9 (GlA o0 o1), .ext 8 (dfA cb.d ca ccap)]) (rpV ⟨2, 0⟩) (AssL [.ext 12 (OrchA d p1), .ext 9 (GlA o0 o1), .ext 8 (dfA cb.d ca ccap)])
theorem orchStays1009 {l1 : List (Nat × Nat)} {a1 : Option Addr} {cap1 kd n hw : Nat} {o0 o1 : Obj} {w : World} (hko : KObj o0 o1)
    (hr1 : RdB w a1 (lmC l1)) (hcap1 : l1.length ≤ cap1) (hll1 : l1.length ≤ 9223372036854775807) (hl1 : ∀ m ∈ l1, m.1 ≤ 255 ∧ m.2 ≤ 65535) (hkd : kd ≤ 255) (hn : n ≤ 65535) (hhw : hw ≤ 255) :
    FrZ Tryz.prog 9 #[.slice a1 l1.length cap1, .agg #[.int .u8 (kd : Nat), .int .u16 (n : Nat)], .int .u8 (hw : Nat)] w (AssL [.ext 9 (GlX o0 o1)]) (fun _ : Unit => .bool true) (fun _ => AssL [.ext 9 (GlA o0 o1)]) := by
  refine enter_frZ TBok (H := [.ext 9 (GlX o0 o1)]) all_foot Tryz.func9 rfl rfl Tryz.ntmps9 [.v (.slice a1 l1.length cap1), .agg [.v (.int .u8 (kd : Nat)), .v (.int .u16 (n : Nat))], .v (.int .u8 (hw : Nat))] rfl rfl ?_
  intro S hA hlt
  obtain ⟨hSx, hh0, hh1⟩ := GlX.only hA
  have hng1 := notGl hko hh0 hh1 hr1
  have sa := fun n' r H => SeesB.oldX (c := ⟨Tryz.prog, TB, n', w, S, r, TBok⟩) (H := H) hr1 (fun i v b off h1 h2 hb => by
    have := hng1 i v b off h1 h2
    rcases hSx b hb with e | e <;> omega)
  clear hA hlt hSx hng1
  obtain ⟨o, ho⟩ : ∃ o, OM.playF (OM.init 4) (l1.take 60) = o := ⟨_, rfl⟩
  have hIo : OM.Inv o := by rw [← ho]; exact (OM.Inv.init (g := 4) (by decide)).play _
  have hgo : o.groups = 4 := by rw [← ho, OM.play_groups]; rfl
  have hlo : OM.Low o := by rw [← ho]; exact OM.Low.play (o := OM.init 4) (fun x hx => by cases hx) _
  have hdo : 0 ≤ o.done ∧ o.done ≤ 60 := by
    have := OM.play_done (l1.take 60) (OM.init 4) (Int.le_refl 0) (by rw [List.length_take]; show (0 : Int) + ((min 60 l1.length : Nat) : Int) ≤ 1000; omega)
    rw [ho, List.length_take] at this
    have h0 : (OM.init 4).done = 0 := rfl
    omega
  have hpl1011 := fun (w : World) (hr : RdB w a1 (lmC l1)) => played1011 hko hr hcap1 hll1 hl1
  simp only [ho] at hpl1011
  clear ho
  obtain ⟨p1, hp1⟩ : ∃ p, p = ({ o with done := OM.bump o } : OM.St) := ⟨_, rfl⟩
  obtain ⟨p2, hp2⟩ : ∃ p, p = ({ p1 with done := OM.bump p1 } : OM.St) := ⟨_, rfl⟩
  obtain ⟨p3, hp3⟩ : ∃ p, p = ({ p2 with done := OM.bump p2 } : OM.St) := ⟨_, rfl⟩
  obtain ⟨p4, hp4⟩ : ∃ p, p = ({ p3 with done := OM.bump p3 } : OM.St) := ⟨_, rfl⟩
  have hbump : ∀ q : OM.St, 0 ≤ q.done ∧ q.done ≤ 1000 → OM.bump q = q.done + 1 := fun q h => by unfold OM.bump; omega
  have hd1 : p1.done = o.done + 1 := by rw [hp1]; exact hbump o (by omega)
  have hd2 : p2.done = o.done + 2 := by rw [hp2]; show OM.bump p1 = _; rw [hbump p1 (by omega)]; omega
  have hd3 : p3.done = o.done + 3 := by rw [hp3]; show OM.bump p2 = _; rw [hbump p2 (by omega)]; omega
  have hd4 : p4.done = o.done + 4 := by rw [hp4]; show OM.bump p3 = _; rw [hbump p3 (by omega)]; omega
  have hI1 : OM.Inv p1 := by have := hIo.apply (OM.badC 0); rw [OM.bad_apply hgo (by decide)] at this; rw [hp1]; exact this
  have hg1 : p1.groups = 4 := by rw [hp1]; exact hgo
  have hlo1 : OM.Low p1 := by rw [hp1]; exact hlo
  have hI2 : OM.Inv p2 := by have := hI1.apply OM.zCmd; rw [OM.noop_apply] at this; rw [hp2]; exact this
  have hlo2 : OM.Low p2 := by rw [hp2]; exact hlo1
  have hI3 : OM.Inv p3 := by have := hI2.apply OM.zCmd; rw [OM.noop_apply] at this; rw [hp3]; exact this
  have hI4 : OM.Inv p4 := by have := hI3.apply OM.zCmd; rw [OM.noop_apply] at this; rw [hp4]; exact this
  have hal1 : OM.St.alike o p1 := by rw [hp1]; exact ⟨rfl, rfl, rfl, rfl⟩
  have hal4 : OM.St.alike o p4 := by rw [hp4, hp3, hp2, hp1]; exact ⟨rfl, rfl, rfl, rfl⟩
  have hcan : ∀ d w, Fr Tryz.prog 14 #[pv d, .agg (denL (cmV OM.canC none 0 0)).toArray] w (AssL [.ext 12 (OrchA d p1), .ext 9 (GlA o0 o1), .ext 8 (dfA OM.zDef none 0)]) (rpV ⟨5, 0⟩) (AssL [.ext 12 (OrchA d p2), .ext 9 (GlA o0 o1), .ext 8 (dfA OM.zDef none 0)]) := fun d w => by
    have := apply1014 (d := d) (a := none) (cap := 0) (c := OM.canC) hko hI1 (by decide) (fun _ => rfl) w
    rw [OM.can_apply hlo1, ← hp2] at this
    exact this
  have hres : ∀ d w, Fr Tryz.prog 14 #[pv d, .agg (denL (cmV (OM.resC (OM.effI 500 0 1 1) 0 OM.eps) none 0 0)).toArray] w (AssL [.ext 12 (OrchA d p2), .ext 9 (GlA o0 o1), .ext 8 (dfA OM.zDef none 0)]) (rpV ⟨9, 0⟩) (AssL [.ext 12 (OrchA d p3), .ext 9 (GlA o0 o1), .ext 8 (dfA OM.zDef none 0)]) := fun d w => by
    have := apply1014 (d := d) (a := none) (cap := 0) (c := OM.resC (OM.effI 500 0 1 1) 0 OM.eps) hko hI2 (by decide) (fun _ => rfl) w
    rw [OM.res5_apply hlo2, ← hp3] at this
    exact this
  have hnop : ∀ d w, Fr Tryz.prog 14 #[pv d, .agg (denL (cmV OM.zCmd none 0 0)).toArray] w (AssL [.ext 12 (OrchA d p3), .ext 9 (GlA o0 o1), .ext 8 (dfA OM.zDef none 0)]) (rpV ⟨0, 0⟩) (AssL [.ext 12 (OrchA d p4), .ext 9 (GlA o0 o1), .ext 8 (dfA OM.zDef none 0)]) := fun d w => by
    have := apply1014 (d := d) (a := none) (cap := 0) (c := OM.zCmd) hko hI3 (by decide) (fun _ => rfl) w
    rw [OM.noop_apply, ← hp4] at this
    exact this
  conv => whnf
  repeat' (first
 | with_reducible refine r_stop 5 ?_
 | with_reducible ((first | refine r_seq (fun KS hS => ?_) | (refine hS _ _ ?_; clear hS KS) | (refine hB _ ?_; clear hB KB)))
 | ((with_reducible (first | refine r_region ?_ | refine r_cond (fun KA hA KB hB => ?_) | refine r_skip ?_ | refine And.intro rfl ?_ | intro b)); conv => whnf)
 | ((with_reducible refine CallK.id ?_); (first | refine CallK.s1 rmG (fun ms w hk => hpl1011 w (sa _ _ _ ms w hk)) ?_ | (refine CallK.s1 rmG (fun ms w hk => state1024 hIo w) ?_; (intro zq)) | (refine CallK.selZS (fun y => .agg (whV o o.done zq y)) (fun _ => rfl) (by apply Sel.cons; (case h => exact rmG); apply Sel.cons; (case h => exact rmG); apply Sel.cons; (case h => exact rmG); apply Sel.cons; (case h => exact rmG); apply Sel.cons; (case h => exact rmG); apply Sel.cons; (case h => exact rmG); exact Sel.nil) (fun ms w hk => whole1035 hIo.slen hIo.mlen w) ?_; (intro yq)) | (refine CallK.s1V rmG (fun ms w hk => applied1036 (by have := hIo.gr; omega) w) ?_)); conv => whnf)
 | ((with_reducible apply OpK.more); (focus refine sok); (conv => whnf); fail_if_success guard_target =ₛ False)
 | with_reducible apply_assumption -symm -exfalso)
  refine StopR.mk ?_
  obtain ⟨z0, hz0⟩ : ∃ x, x = zq := ⟨zq, rfl⟩
  subst hz0
  obtain ⟨y0, hy0⟩ : ∃ x, x = yq := ⟨yq, rfl⟩
  subst hy0
  obtain ⟨bs, hbs⟩ : ∃ x, x = b := ⟨b, rfl⟩
  subst hbs
  obtain ⟨d, hd⟩ : ∃ x, x = b := ⟨b, rfl⟩
  subst hd
  obtain ⟨bx, hbx⟩ : ∃ x, x = b := ⟨b, rfl⟩
  subst hbx
  clear sa hpl1011 hr1
  obtain ⟨k, hk10⟩ : ∃ k, hw % 10 = k := ⟨_, rfl⟩
  have hkl : k < 10 := by rw [← hk10]; exact Nat.mod_lt _ (by decide)
  have hrem : ((hw : Nat) : Int).tmod 10 = ((k : Nat) : Int) := by rw [← hk10]; exact tmN hw 10
  clear hk10
  have hap1 := fun (i : Nat) (hi : i < 10) => OM.bad_apply hgo hi
  refine r_cutD (α := OM.Cmd × Option Addr × Nat × Nat × Nat) (fun q => [(4, .loc bx 44 0), (7, .v (pv d)), (8, .loc bs 48 0), (9, .v (.int .i64 o.done)), (10, .loc q.2.2.2.2 50 0)]) (fun q => [.blk 50 q.2.2.2.2 (cmV q.1 q.2.1 q.2.2.1 q.2.2.2.1) 42, .blk 48 bs (whV o o.done z0 y0) 97, .ext 30 (WhA o z0 y0), .blk 44 bx [.v (.int .u8 (kd : Nat)), .v (.int .u16 (n : Nat))] 46, .ext 12 (OrchA d o), .ext 9 (GlA o0 o1), .ext 8 (dfA q.1.d q.2.1 q.2.2.2.1), .ext 28 (SlA 80 2 none 0 0 [])]) (fun q => BadAt o p1 d o0 o1 q.1 q.2.1 q.2.2.1 q.2.2.2.1) ?_ ?_
  · intro KL hKL
    have hcases : k = 0 ∨ k = 1 ∨ k = 2 ∨ k = 3 ∨ k = 4 ∨ k = 5 ∨ k = 6 ∨ k = 7 ∨ k = 8 ∨ k = 9 := by omega
    rcases hcases with rfl | rfl | rfl | rfl | rfl | rfl | rfl | rfl | rfl | rfl
    · as_aux_lemma =>
      repeat' (first
 | ((with_reducible (first | refine r_region ?_ | refine And.intro rfl ?_ | intro b)); conv => whnf)
 | ((with_reducible refine WrapK.i64 ?_ ?_); (focus omega); conv => whnf)
 | ((with_reducible refine CallK.id ?_); refine CallK.fresh (fun ms w hk => pay1031 w) ?_; (conv => whnf); (intro bp); (conv => whnf))
 | ((with_reducible refine RemK.id ?_); refine RemK.eq (by decide) hrem ?_; conv => whnf)
 | (refine hKL (OM.badC 0, none, 0, 0, b) _ _ (by rw [hp1]; exact fun w => apB0_1014 hIo w) sdG (by show X.HSub ([.blk 50 b (cmV (OM.badC 0) none 0 0) 42, .blk 48 bs (whV o o.done z0 y0) 97, .ext 30 (WhA o z0 y0), .blk 44 bx [.v (.int .u8 (kd : Nat)), .v (.int .u16 (n : Nat))] 46, .ext 12 (OrchA d o), .ext 9 (GlA o0 o1), .ext 8 (SlA 80 2 none 0 0 [])] ++ [.ext 28 (SlA 80 2 none 0 0 [])]) _; exact HSub.addSlL (L' := [.blk 50 b (cmV (OM.badC 0) none 0 0) 42, .blk 48 bs (whV o o.done z0 y0) 97, .ext 30 (WhA o z0 y0), .blk 44 bx [.v (.int .u8 (kd : Nat)), .v (.int .u16 (n : Nat))] 46, .ext 12 (OrchA d o), .ext 9 (GlA o0 o1), .ext 8 (SlA 80 2 none 0 0 [])]) (HSub.addSlL (L' := [.blk 50 b (cmV (OM.badC 0) none 0 0) 42, .blk 48 bs (whV o o.done z0 y0) 97, .ext 30 (WhA o z0 y0), .blk 44 bx [.v (.int .u8 (kd : Nat)), .v (.int .u16 (n : Nat))] 46, .ext 12 (OrchA d o), .ext 9 (GlA o0 o1)]) seG)))
 | ((with_reducible apply OpK.more); (focus refine sok); (conv => whnf); fail_if_success guard_target =ₛ False))
    · as_aux_lemma =>
      repeat' (first
 | ((with_reducible (first | refine r_region ?_ | refine And.intro rfl ?_ | intro b)); conv => whnf)
 | ((with_reducible refine WrapK.i64 ?_ ?_); (focus omega); conv => whnf)
 | ((with_reducible refine CallK.id ?_); refine CallK.fresh (fun ms w hk => pay1031 w) ?_; (conv => whnf); (intro bp); (conv => whnf))
 | ((with_reducible refine RemK.id ?_); refine RemK.eq (by decide) hrem ?_; conv => whnf)
 | (refine hKL (OM.badC 1, none, 0, 0, b) _ _ (by rw [hp1]; exact fun w => apB1_1014 hIo w) sdG (by show X.HSub ([.blk 50 b (cmV (OM.badC 1) none 0 0) 42, .blk 48 bs (whV o o.done z0 y0) 97, .ext 30 (WhA o z0 y0), .blk 44 bx [.v (.int .u8 (kd : Nat)), .v (.int .u16 (n : Nat))] 46, .ext 12 (OrchA d o), .ext 9 (GlA o0 o1), .ext 8 (SlA 80 2 none 0 0 [])] ++ [.ext 28 (SlA 80 2 none 0 0 [])]) _; exact HSub.addSlL (L' := [.blk 50 b (cmV (OM.badC 1) none 0 0) 42, .blk 48 bs (whV o o.done z0 y0) 97, .ext 30 (WhA o z0 y0), .blk 44 bx [.v (.int .u8 (kd : Nat)), .v (.int .u16 (n : Nat))] 46, .ext 12 (OrchA d o), .ext 9 (GlA o0 o1), .ext 8 (SlA 80 2 none 0 0 [])]) (HSub.addSlL (L' := [.blk 50 b (cmV (OM.badC 1) none 0 0) 42, .blk 48 bs (whV o o.done z0 y0) 97, .ext 30 (WhA o z0 y0), .blk 44 bx [.v (.int .u8 (kd : Nat)), .v (.int .u16 (n : Nat))] 46, .ext 12 (OrchA d o), .ext 9 (GlA o0 o1)]) seG)))
 | ((with_reducible apply OpK.more); (focus refine sok); (conv => whnf); fail_if_success guard_target =ₛ False))
    · as_aux_lemma =>
      repeat' (first
 | ((with_reducible (first | refine r_region ?_ | refine And.intro rfl ?_ | intro b)); conv => whnf)
 | ((with_reducible refine WrapK.i64 ?_ ?_); (focus omega); conv => whnf)
 | ((with_reducible refine CallK.id ?_); refine CallK.fresh (fun ms w hk => pay1031 w) ?_; (conv => whnf); (intro bp); (conv => whnf))
 | ((with_reducible refine RemK.id ?_); refine RemK.eq (by decide) hrem ?_; conv => whnf)
 | (refine hKL (OM.badC 2, none, 0, 0, b) _ _ (by rw [hp1]; exact fun w => apB2_1014 hIo w) sdG (by show X.HSub ([.blk 50 b (cmV (OM.badC 2) none 0 0) 42, .blk 48 bs (whV o o.done z0 y0) 97, .ext 30 (WhA o z0 y0), .blk 44 bx [.v (.int .u8 (kd : Nat)), .v (.int .u16 (n : Nat))] 46, .ext 12 (OrchA d o), .ext 9 (GlA o0 o1), .ext 8 (SlA 80 2 none 0 0 [])] ++ [.ext 28 (SlA 80 2 none 0 0 [])]) _; exact HSub.addSlL (L' := [.blk 50 b (cmV (OM.badC 2) none 0 0) 42, .blk 48 bs (whV o o.done z0 y0) 97, .ext 30 (WhA o z0 y0), .blk 44 bx [.v (.int .u8 (kd : Nat)), .v (.int .u16 (n : Nat))] 46, .ext 12 (OrchA d o), .ext 9 (GlA o0 o1), .ext 8 (SlA 80 2 none 0 0 [])]) (HSub.addSlL (L' := [.blk 50 b (cmV (OM.badC 2) none 0 0) 42, .blk 48 bs (whV o o.done z0 y0) 97, .ext 30 (WhA o z0 y0), .blk 44 bx [.v (.int .u8 (kd : Nat)), .v (.int .u16 (n : Nat))] 46, .ext 12 (OrchA d o), .ext 9 (GlA o0 o1)]) seG)))
 | ((with_reducible apply OpK.more); (focus refine sok); (conv => whnf); fail_if_success guard_target =ₛ False))
    · as_aux_lemma =>
      repeat' (first
 | ((with_reducible (first | refine r_region ?_ | refine And.intro rfl ?_ | intro b)); conv => whnf)
 | ((with_reducible refine WrapK.i64 ?_ ?_); (focus omega); conv => whnf)
 | ((with_reducible refine CallK.id ?_); refine CallK.fresh (fun ms w hk => pay1031 w) ?_; (conv => whnf); (intro bp); (conv => whnf))
 | ((with_reducible refine RemK.id ?_); refine RemK.eq (by decide) hrem ?_; conv => whnf)
 | (refine hKL (OM.badC 3, none, 0, 0, b) _ _ (by rw [hp1]; exact fun w => apB3_1014 hIo w) sdG (by show X.HSub ([.blk 50 b (cmV (OM.badC 3) none 0 0) 42, .blk 48 bs (whV o o.done z0 y0) 97, .ext 30 (WhA o z0 y0), .blk 44 bx [.v (.int .u8 (kd : Nat)), .v (.int .u16 (n : Nat))] 46, .ext 12 (OrchA d o), .ext 9 (GlA o0 o1), .ext 8 (SlA 80 2 none 0 0 [])] ++ [.ext 28 (SlA 80 2 none 0 0 [])]) _; exact HSub.addSlL (L' := [.blk 50 b (cmV (OM.badC 3) none 0 0) 42, .blk 48 bs (whV o o.done z0 y0) 97, .ext 30 (WhA o z0 y0), .blk 44 bx [.v (.int .u8 (kd : Nat)), .v (.int .u16 (n : Nat))] 46, .ext 12 (OrchA d o), .ext 9 (GlA o0 o1), .ext 8 (SlA 80 2 none 0 0 [])]) (HSub.addSlL (L' := [.blk 50 b (cmV (OM.badC 3) none 0 0) 42, .blk 48 bs (whV o o.done z0 y0) 97, .ext 30 (WhA o z0 y0), .blk 44 bx [.v (.int .u8 (kd : Nat)), .v (.int .u16 (n : Nat))] 46, .ext 12 (OrchA d o), .ext 9 (GlA o0 o1)]) seG)))
 | ((with_reducible apply OpK.more); (focus refine sok); (conv => whnf); fail_if_success guard_target =ₛ False))
    · as_aux_lemma =>
      repeat' (first
 | ((with_reducible (first | refine r_region ?_ | refine And.intro rfl ?_ | intro b)); conv => whnf)
 | ((with_reducible refine WrapK.i64 ?_ ?_); (focus omega); conv => whnf)
 | ((with_reducible refine CallK.id ?_); refine CallK.fresh (fun ms w hk => pay1031 w) ?_; (conv => whnf); (intro bp); (conv => whnf))
 | ((with_reducible refine RemK.id ?_); refine RemK.eq (by decide) hrem ?_; conv => whnf)
 | (refine hKL (OM.badC 4, some ⟨bp, 0, none⟩, 2, 2, b) _ _ (by rw [hp1]; exact fun w => apB4_1014 (bs := bp) hIo w) sdG (by show X.HSub ([.blk 50 b (cmV (OM.badC 4) (some ⟨bp, 0, none⟩) 2 2) 42, .blk 48 bs (whV o o.done z0 y0) 97, .ext 30 (WhA o z0 y0), .blk 44 bx [.v (.int .u8 (kd : Nat)), .v (.int .u16 (n : Nat))] 46, .ext 12 (OrchA d o), .ext 9 (GlA o0 o1), .ext 8 (dfA OM.payD (some ⟨bp, 0, none⟩) 2)] ++ [.ext 28 (SlA 80 2 none 0 0 [])]) _; exact HSub.addSlL (L' := [.blk 50 b (cmV (OM.badC 4) (some ⟨bp, 0, none⟩) 2 2) 42, .blk 48 bs (whV o o.done z0 y0) 97, .ext 30 (WhA o z0 y0), .blk 44 bx [.v (.int .u8 (kd : Nat)), .v (.int .u16 (n : Nat))] 46, .ext 12 (OrchA d o), .ext 9 (GlA o0 o1), .ext 8 (dfA OM.payD (some ⟨bp, 0, none⟩) 2)]) seG))
 | ((with_reducible apply OpK.more); (focus refine sok); (conv => whnf); fail_if_success guard_target =ₛ False))
    · as_aux_lemma =>
      repeat' (first
 | ((with_reducible (first | refine r_region ?_ | refine And.intro rfl ?_ | intro b)); conv => whnf)
 | ((with_reducible refine WrapK.i64 ?_ ?_); (focus omega); conv => whnf)
 | ((with_reducible refine CallK.id ?_); refine CallK.fresh (fun ms w hk => pay1031 w) ?_; (conv => whnf); (intro bp); (conv => whnf))
 | ((with_reducible refine RemK.id ?_); refine RemK.eq (by decide) hrem ?_; conv => whnf)
 | (refine hKL (OM.badC 5, none, 0, 0, b) _ _ (by rw [hp1]; exact fun w => apB5_1014 hIo w) sdG (by show X.HSub ([.blk 50 b (cmV (OM.badC 5) none 0 0) 42, .blk 48 bs (whV o o.done z0 y0) 97, .ext 30 (WhA o z0 y0), .blk 44 bx [.v (.int .u8 (kd : Nat)), .v (.int .u16 (n : Nat))] 46, .ext 12 (OrchA d o), .ext 9 (GlA o0 o1), .ext 8 (SlA 80 2 none 0 0 [])] ++ [.ext 28 (SlA 80 2 none 0 0 [])]) _; exact HSub.addSlL (L' := [.blk 50 b (cmV (OM.badC 5) none 0 0) 42, .blk 48 bs (whV o o.done z0 y0) 97, .ext 30 (WhA o z0 y0), .blk 44 bx [.v (.int .u8 (kd : Nat)), .v (.int .u16 (n : Nat))] 46, .ext 12 (OrchA d o), .ext 9 (GlA o0 o1), .ext 8 (SlA 80 2 none 0 0 [])]) (HSub.addSlL (L' := [.blk 50 b (cmV (OM.badC 5) none 0 0) 42, .blk 48 bs (whV o o.done z0 y0) 97, .ext 30 (WhA o z0 y0), .blk 44 bx [.v (.int .u8 (kd : Nat)), .v (.int .u16 (n : Nat))] 46, .ext 12 (OrchA d o), .ext 9 (GlA o0 o1)]) seG)))
 | ((with_reducible apply OpK.more); (focus refine sok); (conv => whnf); fail_if_success guard_target =ₛ False))
    · as_aux_lemma =>
      repeat' (first
 | ((with_reducible (first | refine r_region ?_ | refine And.intro rfl ?_ | intro b)); conv => whnf)
 | ((with_reducible refine WrapK.i64 ?_ ?_); (focus omega); conv => whnf)
 | ((with_reducible refine CallK.id ?_); refine CallK.fresh (fun ms w hk => pay1031 w) ?_; (conv => whnf); (intro bp); (conv => whnf))
 | ((with_reducible refine RemK.id ?_); refine RemK.eq (by decide) hrem ?_; conv => whnf)
 | (refine hKL (OM.badC 6, none, 0, 0, b) _ _ (by rw [hp1]; exact fun w => apB6_1014 hIo w) sdG (by show X.HSub ([.blk 50 b (cmV (OM.badC 6) none 0 0) 42, .blk 48 bs (whV o o.done z0 y0) 97, .ext 30 (WhA o z0 y0), .blk 44 bx [.v (.int .u8 (kd : Nat)), .v (.int .u16 (n : Nat))] 46, .ext 12 (OrchA d o), .ext 9 (GlA o0 o1), .ext 8 (SlA 80 2 none 0 0 [])] ++ [.ext 28 (SlA 80 2 none 0 0 [])]) _; exact HSub.addSlL (L' := [.blk 50 b (cmV (OM.badC 6) none 0 0) 42, .blk 48 bs (whV o o.done z0 y0) 97, .ext 30 (WhA o z0 y0), .blk 44 bx [.v (.int .u8 (kd : Nat)), .v (.int .u16 (n : Nat))] 46, .ext 12 (OrchA d o), .ext 9 (GlA o0 o1), .ext 8 (SlA 80 2 none 0 0 [])]) (HSub.addSlL (L' := [.blk 50 b (cmV (OM.badC 6) none 0 0) 42, .blk 48 bs (whV o o.done z0 y0) 97, .ext 30 (WhA o z0 y0), .blk 44 bx [.v (.int .u8 (kd : Nat)), .v (.int .u16 (n : Nat))] 46, .ext 12 (OrchA d o), .ext 9 (GlA o0 o1)]) seG)))
 | ((with_reducible apply OpK.more); (focus refine sok); (conv => whnf); fail_if_success guard_target =ₛ False))
    · as_aux_lemma =>
      repeat' (first
 | ((with_reducible (first | refine r_region ?_ | refine And.intro rfl ?_ | intro b)); conv => whnf)
 | ((with_reducible refine WrapK.i64 ?_ ?_); (focus omega); conv => whnf)
 | ((with_reducible refine CallK.id ?_); refine CallK.fresh (fun ms w hk => pay1031 w) ?_; (conv => whnf); (intro bp); (conv => whnf))
 | ((with_reducible refine RemK.id ?_); refine RemK.eq (by decide) hrem ?_; conv => whnf)
 | (refine hKL (OM.badC 7, none, 0, 0, b) _ _ (by have := fun w => apply1014 (d := d) (a := none) (cap := 0) (c := OM.badC 7) hko hIo (by decide +kernel) (fun _ => rfl) w; rw [hap1 7 (by decide), ← hp1] at this; exact this) sdG (by show X.HSub ([.blk 50 b (cmV (OM.badC 7) none 0 0) 42, .blk 48 bs (whV o o.done z0 y0) 97, .ext 30 (WhA o z0 y0), .blk 44 bx [.v (.int .u8 (kd : Nat)), .v (.int .u16 (n : Nat))] 46, .ext 12 (OrchA d o), .ext 9 (GlA o0 o1), .ext 8 (SlA 80 2 none 0 0 [])] ++ [.ext 28 (SlA 80 2 none 0 0 [])]) _; exact HSub.addSlL (L' := [.blk 50 b (cmV (OM.badC 7) none 0 0) 42, .blk 48 bs (whV o o.done z0 y0) 97, .ext 30 (WhA o z0 y0), .blk 44 bx [.v (.int .u8 (kd : Nat)), .v (.int .u16 (n : Nat))] 46, .ext 12 (OrchA d o), .ext 9 (GlA o0 o1), .ext 8 (SlA 80 2 none 0 0 [])]) (HSub.addSlL (L' := [.blk 50 b (cmV (OM.badC 7) none 0 0) 42, .blk 48 bs (whV o o.done z0 y0) 97, .ext 30 (WhA o z0 y0), .blk 44 bx [.v (.int .u8 (kd : Nat)), .v (.int .u16 (n : Nat))] 46, .ext 12 (OrchA d o), .ext 9 (GlA o0 o1)]) seG)))
 | ((with_reducible apply OpK.more); (focus refine sok); (conv => whnf); fail_if_success guard_target =ₛ False))
    · as_aux_lemma =>
      repeat' (first
 | ((with_reducible (first | refine r_region ?_ | refine And.intro rfl ?_ | intro b)); conv => whnf)
 | ((with_reducible refine WrapK.i64 ?_ ?_); (focus omega); conv => whnf)
 | ((with_reducible refine CallK.id ?_); refine CallK.fresh (fun ms w hk => pay1031 w) ?_; (conv => whnf); (intro bp); (conv => whnf))
 | ((with_reducible refine RemK.id ?_); refine RemK.eq (by decide) hrem ?_; conv => whnf)
 | (refine hKL (OM.badC 8, none, 0, 0, b) _ _ (by rw [hp1]; exact fun w => apB8_1014 hIo w) sdG (by show X.HSub ([.blk 50 b (cmV (OM.badC 8) none 0 0) 42, .blk 48 bs (whV o o.done z0 y0) 97, .ext 30 (WhA o z0 y0), .blk 44 bx [.v (.int .u8 (kd : Nat)), .v (.int .u16 (n : Nat))] 46, .ext 12 (OrchA d o), .ext 9 (GlA o0 o1), .ext 8 (SlA 80 2 none 0 0 [])] ++ [.ext 28 (SlA 80 2 none 0 0 [])]) _; exact HSub.addSlL (L' := [.blk 50 b (cmV (OM.badC 8) none 0 0) 42, .blk 48 bs (whV o o.done z0 y0) 97, .ext 30 (WhA o z0 y0), .blk 44 bx [.v (.int .u8 (kd : Nat)), .v (.int .u16 (n : Nat))] 46, .ext 12 (OrchA d o), .ext 9 (GlA o0 o1), .ext 8 (SlA 80 2 none 0 0 [])]) (HSub.addSlL (L' := [.blk 50 b (cmV (OM.badC 8) none 0 0) 42, .blk 48 bs (whV o o.done z0 y0) 97, .ext 30 (WhA o z0 y0), .blk 44 bx [.v (.int .u8 (kd : Nat)), .v (.int .u16 (n : Nat))] 46, .ext 12 (OrchA d o), .ext 9 (GlA o0 o1)]) seG)))
 | ((with_reducible apply OpK.more); (focus refine sok); (conv => whnf); fail_if_success guard_target =ₛ False))
    · as_aux_lemma =>
      repeat' (first
 | ((with_reducible (first | refine r_region ?_ | refine And.intro rfl ?_ | intro b)); conv => whnf)
 | ((with_reducible refine WrapK.i64 ?_ ?_); (focus omega); conv => whnf)
 | ((with_reducible refine CallK.id ?_); refine CallK.fresh (fun ms w hk => pay1031 w) ?_; (conv => whnf); (intro bp); (conv => whnf))
 | ((with_reducible refine RemK.id ?_); refine RemK.eq (by decide) hrem ?_; conv => whnf)
 | (refine hKL (OM.badC 9, none, 0, 0, b) _ _ (by rw [hp1]; exact fun w => apB9_1014 hIo w) sdG (by show X.HSub ([.blk 50 b (cmV (OM.badC 9) none 0 0) 42, .blk 48 bs (whV o o.done z0 y0) 97, .ext 30 (WhA o z0 y0), .blk 44 bx [.v (.int .u8 (kd : Nat)), .v (.int .u16 (n : Nat))] 46, .ext 12 (OrchA d o), .ext 9 (GlA o0 o1), .ext 8 (SlA 80 2 none 0 0 [])] ++ [.ext 28 (SlA 80 2 none 0 0 [])]) _; exact HSub.addSlL (L' := [.blk 50 b (cmV (OM.badC 9) none 0 0) 42, .blk 48 bs (whV o o.done z0 y0) 97, .ext 30 (WhA o z0 y0), .blk 44 bx [.v (.int .u8 (kd : Nat)), .v (.int .u16 (n : Nat))] 46, .ext 12 (OrchA d o), .ext 9 (GlA o0 o1), .ext 8 (SlA 80 2 none 0 0 [])]) (HSub.addSlL (L' := [.blk 50 b (cmV (OM.badC 9) none 0 0) 42, .blk 48 bs (whV o o.done z0 y0) 97, .ext 30 (WhA o z0 y0), .blk 44 bx [.v (.int .u8 (kd : Nat)), .v (.int .u16 (n : Nat))] 46, .ext 12 (OrchA d o), .ext 9 (GlA o0 o1)]) seG)))
 | ((with_reducible apply OpK.more); (focus refine sok); (conv => whnf); fail_if_success guard_target =ₛ False))
  rintro ⟨cb, ca, cn, ccap, b10⟩ hbad0
  have hbad : ∀ w, Fr Tryz.prog 14 #[pv d, .agg (denL (cmV cb ca cn ccap)).toArray] w (AssL [.ext 12 (OrchA d o), .ext 9 (GlA o0 o1), .ext 8 (dfA cb.d ca ccap)]) (rpV ⟨2, 0⟩) (AssL [.ext 12 (OrchA d p1), .ext 9 (GlA o0 o1), .ext 8 (dfA cb.d ca ccap)]) := hbad0
  dsimp only
  clear hbad0 hrem hkl hap1
  have hal := hal1
  have hpd1036 : ∀ w, Fr Tryz.prog 36 #[pv d] w (AssL [.ext 12 (OrchA d p1)]) (.int .i64 (o.done + 1)) (AssL [.ext 12 (OrchA d p1)]) := fun w => by have := applied1036 (d := d) (o := p1) (by omega) w; rwa [hd1] at this
  have hst1024 := fun w => state1024 (d := d) hI1 w
  have hwh1035 := fun z w => whole1035 (o := p1) (z := z) hI1.slen hI1.mlen w
  repeat' (first
 | with_reducible refine r_stop 6 ?_
 | with_reducible refine r_seq (fun KS hS => ?_))
  refine StopR.mk ?_
  refine r_seq (fun KS3 hS3 => ?_)
  refine r_par (β := StZ × WhY) (id := 6) [nq 0 [] (.v (pv d)),
      nq 1 [] (.agg (cmV cb ca cn ccap)),
      ⟨2, [0, 1], some 100, fun _ _ => .agg [.v (.int .i64 2), .v (.int .i64 0), .v (.string ⟨#[]⟩)], fun _ _ => [.ext 12 (OrchA d p1), .ext 9 (GlA o0 o1), .ext 8 (dfA cb.d ca ccap)]⟩,
      nq 3 [] (.agg [.v (.int .i64 2), .v (.int .i64 0), .v (.string ⟨#[]⟩)]),
      nq 4 [2, 3] (.v (.bool false)),
      nq 5 [4, 2] (.v (.bool false)),
      nq 6 [5] (.v (pv d)),
      ⟨7, [6, 5, 2], some 2, fun _ _ => .v (.int .i64 (o.done + 1)), fun _ _ => [.ext 12 (OrchA d p1), .ext 9 (GlA o0 o1), .ext 8 (dfA cb.d ca ccap)]⟩,
      nq 8 [5] (.v (.int .i64 o.done)),
      nq 9 [8, 5] (.v (.int .i64 (o.done + 1))),
      nq 10 [7, 9, 5] (.v (.bool false)),
      nq 11 [5, 10] (.v (.bool false)),
      nq 12 [11, 7] (.v (.bool false)),
      nq 13 [12] (.v (pv d)),
      ⟨14, [13, 12, 7], some 7, fun _ q2 => .v (.agg (denL (stateV p1 q2.1)).toArray), fun _ q2 => [.ext 12 (OrchA d p1), .ext 9 (GlA o0 o1), .ext 8 (dfA cb.d ca ccap), .ext 20 (SlA 76 11 q2.1.sa.1 p1.sagas.length q2.1.sa.2 (p1.sagas.flatMap (nmC q2.1.A))), .ext 21 (StA p1.sagas q2.1.A), .ext 22 (SlA 83 6 q2.1.ma.1 p1.moves.length q2.1.ma.2 (p1.moves.flatMap mvC)), .ext 23 (SlA 37 2 q2.1.ra.1 p1.parts.length q2.1.ra.2 (p1.parts.flatMap rgC)), .ext 24 (SlA 3 1 q2.1.wa.1 p1.parts.length q2.1.wa.2 (p1.parts.flatMap gpC)), .ext 25 (SlA 3 1 q2.1.ea.1 p1.parts.length q2.1.ea.2 (p1.parts.flatMap ecC))]⟩,
      ⟨15, [14, 12], some 14, fun l q2 => match l with | [z14, _] => .v (.agg (denL (whV p1 p1.done z14.1 q2.2)).toArray) | _ => .v undef, fun l q2 => match l with | [z14, _] => [.ext 12 (OrchA d p1), .ext 9 (GlA o0 o1), .ext 8 (dfA cb.d ca ccap), .ext 40 (WhA p1 z14.1 q2.2)] | _ => []⟩,
      ⟨16, [12], none, fun l _ => match l with | [_] => .agg (whV o o.done z0 y0) | _ => .v undef, fun _ _ => []⟩,
      ⟨17, [15, 16, 14, 12], some 15, fun _ _ => .v (.bool true), fun l _ => match l with | [z15, _, z14, _] => [.ext 12 (OrchA d p1), .ext 9 (GlA o0 o1), .ext 8 (dfA cb.d ca ccap), .ext 40 (WhA p1 z14.1 z15.2)] | _ => []⟩,
      nq 18 [17, 12] (.v (.bool false)),
      nq 19 [12, 18] (.v (.bool false))] [⟨100, [], none, fun _ _ => .v undef, fun _ _ => [.ext 12 (OrchA d o), .ext 9 (GlA o0 o1), .ext 8 (dfA cb.d ca ccap)]⟩] 0 [.blk 50 b10 (cmV cb ca cn ccap) 42, .blk 48 bs (whV o o.done z0 y0) 97, .ext 30 (WhA o z0 y0), .blk 44 bx [.v (.int .u8 (kd : Nat)), .v (.int .u16 (n : Nat))] 46] mixed (by kernel_rfl) (by kernel_rfl) (by show X.HSub [.ext 12 (OrchA d o), .ext 9 (GlA o0 o1), .ext 8 (dfA cb.d ca ccap), .blk 50 b10 (cmV cb ca cn ccap) 42, .blk 48 bs (whV o o.done z0 y0) 97, .ext 30 (WhA o z0 y0), .blk 44 bx [.v (.int .u8 (kd : Nat)), .v (.int .u16 (n : Nat))] 46] _; exact seG) ?_ ?_
  · as_aux_lemma =>
    conv => whnf
    repeat' (first | ((with_reducible refine And.intro ?_ ?_); all_goals (conv => whnf)) | ((with_reducible intro zz2 AA KP hP); conv => whnf))
    repeat' (first
 | ((with_reducible refine WrapK.i64 ?_ ?_); (focus omega); conv => whnf)
 | ((with_reducible refine CallK.id ?_); refine CallK.selS (.agg [.v (.int .i64 2), .v (.int .i64 0), .v (.string ⟨#[]⟩)]) rfl (by apply Sel.cons; (case h => exact rmG); apply Sel.cons; (case h => exact rmG); apply Sel.cons; (case h => exact rmG); exact Sel.nil) (fun ms w hk => hbad w) ?_; conv => whnf)
 | ((with_reducible refine CallK.id ?_); (first | refine CallK.s1V rmG (fun ms w hk => hpd1036 w) ?_ | (refine CallK.s1 rmG (fun ms w hk => hst1024 w) ?_; (intro zq)) | (refine CallK.sel (by apply Sel.cons; (case h => exact rmG); apply Sel.cons; (case h => exact rmG); apply Sel.cons; (case h => exact rmG); apply Sel.cons; (case h => exact rmG); apply Sel.cons; (case h => exact rmG); apply Sel.cons; (case h => exact rmG); exact Sel.nil) (fun ms w hk => hwh1035 _ w) ?_; (intro yq))); conv => whnf)
 | ((with_reducible refine CallK.at 37 ?_); refine CallK.puW (fun ms w hk => alikeD1037 (m := o.done) (z' := z0) (y' := y0) hal (WhA.rd atG hk) (WhA.rd atG hk) hIo) ?_; conv => whnf)
 | (((with_reducible apply OpK.more); (focus refine sok2); (conv => whnf); fail_if_success guard_target =ₛ False))
 | ((with_reducible refine hP (zq, default) _ _ ?_ ?_); all_goals (first | exact default | ((repeat' (first | exact SubD.nil | (refine SubD.cons rfl rfl ?_) | (refine SubD.cons rfl (by simp [den]) ?_))); done) | exact seZ))
 | ((with_reducible refine hP (default, yq) _ _ ?_ ?_); all_goals (first | exact default | ((repeat' (first | exact SubD.nil | (refine SubD.cons rfl rfl ?_) | (refine SubD.cons rfl (by simp [den]) ?_))); done) | exact seZ))
 | ((with_reducible apply hP); all_goals (first | exact default | ((repeat' (first | exact SubD.nil | (refine SubD.cons rfl rfl ?_) | (refine SubD.cons rfl (by simp [den]) ?_))); done) | exact seZ)))
  conv => whnf
  intro zz6
  conv => whnf
  try dsimp only
  clear hpd1036 hst1024 hwh1035 hal hbad
  have hal := hal4
  have hcan := hcan d
  have hres := hres d
  have hnop := hnop d
  have hpd1036 : ∀ e w, Fr Tryz.prog 36 #[pv e] w (AssL [.ext 12 (OrchA e p4)]) (.int .i64 (o.done + 4)) (AssL [.ext 12 (OrchA e p4)]) := fun e w => by have := applied1036 (d := e) (o := p4) (by have := hI4.gr; omega) w; rwa [hd4] at this
  have hpd1036 := fun w => hpd1036 d w
  have hst1024 := fun w => state1024 (d := d) hI4 w
  have hwh1035 := fun z w => whole1035 (o := p4) (z := z) hI4.slen hI4.mlen w
  repeat' (first
 | with_reducible refine r_stop 8 ?_
 | with_reducible ((first | refine r_seq (fun KS hS => ?_) | (refine hB _ ?_; clear hB KB)))
 | ((with_reducible (first | refine r_cond (fun KA hA KB hB => ?_) | refine r_skip ?_)); conv => whnf)
 | with_reducible apply_assumption -symm -exfalso)
  refine StopR.mk ?_
  refine r_seq (fun KS4 hS4 => ?_)
  refine r_par (β := StZ × WhY) (id := 8) [nq 0 [] (.v (pv d)),
      nq 1 [] (.agg (cmV OM.canC none 0 0)),
      ⟨2, [0, 1], some 100, fun _ _ => .agg [.v (.int .i64 5), .v (.int .i64 0), .v (.string ⟨#[]⟩)], fun _ _ => [.ext 12 (OrchA d p2), .ext 9 (GlA o0 o1), .ext 8 (dfA OM.zDef none 0)]⟩,
      nq 3 [] (.agg [.v (.int .i64 5), .v (.int .i64 0), .v (.string ⟨#[]⟩)]),
      nq 4 [2, 3] (.v (.bool false)),
      nq 5 [4, 2] (.v (.bool false)),
      nq 6 [5] (.v (pv d)),
      nq 7 [5] (.v (.agg (denL (itV (OM.effI 500 0 1 1))).toArray)),
      nq 8 [7, 5] (.v (.agg (denL (cmV (OM.resC (OM.effI 500 0 1 1) 0 OM.eps) none 0 0)).toArray)),
      ⟨9, [6, 8, 5, 2], some 2, fun _ _ => .agg [.v (.int .i64 9), .v (.int .i64 0), .v (.string ⟨#[]⟩)], fun _ _ => [.ext 12 (OrchA d p3), .ext 9 (GlA o0 o1), .ext 8 (dfA OM.zDef none 0)]⟩,
      nq 10 [5] (.agg [.v (.int .i64 9), .v (.int .i64 0), .v (.string ⟨#[]⟩)]),
      nq 11 [9, 10, 5] (.v (.bool false)),
      nq 12 [5, 11] (.v (.bool false)),
      nq 13 [12, 9] (.v (.bool false)),
      nq 14 [13] (.v (pv d)),
      nq 15 [13] (.agg (cmV OM.zCmd none 0 0)),
      ⟨16, [14, 15, 13, 9], some 9, fun _ _ => .agg [.v (.int .i64 0), .v (.int .i64 0), .v (.string ⟨#[]⟩)], fun _ _ => [.ext 12 (OrchA d p4), .ext 9 (GlA o0 o1), .ext 8 (dfA OM.zDef none 0)]⟩,
      nq 17 [13] (.agg [.v (.int .i64 0), .v (.int .i64 0), .v (.string ⟨#[]⟩)]),
      nq 18 [16, 17, 13] (.v (.bool false)),
      nq 19 [13, 18] (.v (.bool false)),
      nq 20 [19, 16] (.v (.bool false)),
      nq 21 [20] (.v (pv d)),
      ⟨22, [21, 20, 16], some 16, fun _ _ => .v (.int .i64 (o.done + 4)), fun _ _ => [.ext 12 (OrchA d p4), .ext 9 (GlA o0 o1), .ext 8 (dfA OM.zDef none 0)]⟩,
      nq 23 [20] (.v (.int .i64 o.done)),
      nq 24 [23, 20] (.v (.int .i64 (o.done + 4))),
      nq 25 [22, 24, 20] (.v (.bool false)),
      nq 26 [20, 25] (.v (.bool false)),
      nq 27 [26, 22] (.v (.bool false)),
      nq 28 [27] (.v (pv d)),
      ⟨29, [28, 27, 22], some 22, fun _ q2 => .v (.agg (denL (stateV p4 q2.1)).toArray), fun _ q2 => [.ext 12 (OrchA d p4), .ext 9 (GlA o0 o1), .ext 8 (dfA OM.zDef none 0), .ext 20 (SlA 76 11 q2.1.sa.1 p4.sagas.length q2.1.sa.2 (p4.sagas.flatMap (nmC q2.1.A))), .ext 21 (StA p4.sagas q2.1.A), .ext 22 (SlA 83 6 q2.1.ma.1 p4.moves.length q2.1.ma.2 (p4.moves.flatMap mvC)), .ext 23 (SlA 37 2 q2.1.ra.1 p4.parts.length q2.1.ra.2 (p4.parts.flatMap rgC)), .ext 24 (SlA 3 1 q2.1.wa.1 p4.parts.length q2.1.wa.2 (p4.parts.flatMap gpC)), .ext 25 (SlA 3 1 q2.1.ea.1 p4.parts.length q2.1.ea.2 (p4.parts.flatMap ecC))]⟩,
      ⟨30, [29, 27], some 29, fun l q2 => match l with | [z29, _] => .v (.agg (denL (whV p4 p4.done z29.1 q2.2)).toArray) | _ => .v undef, fun l q2 => match l with | [z29, _] => [.ext 12 (OrchA d p4), .ext 9 (GlA o0 o1), .ext 8 (dfA OM.zDef none 0), .ext 40 (WhA p4 z29.1 q2.2)] | _ => []⟩,
      ⟨31, [27], none, fun l _ => match l with | [_] => .agg (whV o o.done z0 y0) | _ => .v undef, fun _ _ => []⟩,
      ⟨32, [30, 31, 29, 27], some 30, fun _ _ => .v (.bool true), fun l _ => match l with | [z30, _, z29, _] => [.ext 12 (OrchA d p4), .ext 9 (GlA o0 o1), .ext 8 (dfA OM.zDef none 0), .ext 40 (WhA p4 z29.1 z30.2)] | _ => []⟩,
      nq 33 [32, 27] (.v (.bool false)),
      nq 34 [27, 33] (.v (.bool false))] [⟨100, [], none, fun _ _ => .v undef, fun _ _ => [.ext 12 (OrchA d p1), .ext 9 (GlA o0 o1), .ext 8 (dfA OM.zDef none 0)]⟩] 0 [.blk 48 bs (whV o o.done z0 y0) 97, .ext 30 (WhA o z0 y0), .blk 44 bx [.v (.int .u8 (kd : Nat)), .v (.int .u16 (n : Nat))] 46] mixed (by kernel_rfl) (by kernel_rfl) (by show X.HSub [.ext 12 (OrchA d p1), .ext 9 (GlA o0 o1), .ext 8 (SlA 80 2 none 0 0 []), .blk 48 bs (whV o o.done z0 y0) 97, .ext 30 (WhA o z0 y0), .blk 44 bx [.v (.int .u8 (kd : Nat)), .v (.int .u16 (n : Nat))] 46] _; exact HSub.trans (show X.HSub [.ext 12 (OrchA d p1), .ext 9 (GlA o0 o1), .ext 8 (SlA 80 2 none 0 0 []), .blk 48 bs (whV o o.done z0 y0) 97, .ext 30 (WhA o z0 y0), .blk 44 bx [.v (.int .u8 (kd : Nat)), .v (.int .u16 (n : Nat))] 46] ([.ext 12 (OrchA d p1), .ext 9 (GlA o0 o1), .blk 48 bs (whV o o.done z0 y0) 97, .ext 30 (WhA o z0 y0), .blk 44 bx [.v (.int .u8 (kd : Nat)), .v (.int .u16 (n : Nat))] 46] ++ [.ext 8 (SlA 80 2 none 0 0 [])]) from seG) (HSub.addSlL (L' := [.ext 12 (OrchA d p1), .ext 9 (GlA o0 o1), .blk 48 bs (whV o o.done z0 y0) 97, .ext 30 (WhA o z0 y0), .blk 44 bx [.v (.int .u8 (kd : Nat)), .v (.int .u16 (n : Nat))] 46]) seG)) ?_ ?_
  · as_aux_lemma =>
    conv => whnf
    repeat' (first | ((with_reducible refine And.intro ?_ ?_); all_goals (conv => whnf)) | ((with_reducible intro zz2 AA KP hP); conv => whnf))
    repeat' (first
 | ((with_reducible refine WrapK.i64 ?_ ?_); (focus omega); conv => whnf)
 | ((with_reducible refine CallK.id ?_); (first | (refine CallK.selS (.agg [.v (.int .i64 5), .v (.int .i64 0), .v (.string ⟨#[]⟩)]) rfl (by apply Sel.cons; (case h => exact rmG); apply Sel.cons; (case h => exact rmG); apply Sel.cons; (case h => exact rmG); exact Sel.nil) (fun ms w hk => hcan w) ?_) | (refine CallK.selS (.agg [.v (.int .i64 9), .v (.int .i64 0), .v (.string ⟨#[]⟩)]) rfl (by apply Sel.cons; (case h => exact rmG); apply Sel.cons; (case h => exact rmG); apply Sel.cons; (case h => exact rmG); exact Sel.nil) (fun ms w hk => hres w) ?_) | (refine CallK.selS (.agg [.v (.int .i64 0), .v (.int .i64 0), .v (.string ⟨#[]⟩)]) rfl (by apply Sel.cons; (case h => exact rmG); apply Sel.cons; (case h => exact rmG); apply Sel.cons; (case h => exact rmG); exact Sel.nil) (fun ms w hk => hnop w) ?_)); conv => whnf)
 | ((with_reducible refine CallK.at 38 ?_); refine CallK.pu (fun w => effect1038 500 0 1 1 w) ?_; conv => whnf)
 | ((with_reducible refine CallK.at 15 ?_); refine CallK.pu (fun w => result1015 (OM.effI 500 0 1 1) 0 OM.eps w) ?_; conv => whnf)
 | ((with_reducible refine CallK.id ?_); (first | refine CallK.s1V rmG (fun ms w hk => hpd1036 w) ?_ | (refine CallK.s1 rmG (fun ms w hk => hst1024 w) ?_; (intro zq)) | (refine CallK.sel (by apply Sel.cons; (case h => exact rmG); apply Sel.cons; (case h => exact rmG); apply Sel.cons; (case h => exact rmG); apply Sel.cons; (case h => exact rmG); apply Sel.cons; (case h => exact rmG); apply Sel.cons; (case h => exact rmG); exact Sel.nil) (fun ms w hk => hwh1035 _ w) ?_; (intro yq))); conv => whnf)
 | ((with_reducible refine CallK.at 37 ?_); refine CallK.puW (fun ms w hk => alikeD1037 (m := o.done) (z' := z0) (y' := y0) hal (WhA.rd atG hk) (WhA.rd atG hk) hIo) ?_; conv => whnf)
 | (((with_reducible apply OpK.more); (focus refine sok2); (conv => whnf); fail_if_success guard_target =ₛ False))
 | ((with_reducible refine hP (zq, default) _ _ ?_ ?_); all_goals (first | exact default | ((repeat' (first | exact SubD.nil | (refine SubD.cons rfl rfl ?_) | (refine SubD.cons rfl (by simp [den]) ?_))); done) | exact seZ))
 | ((with_reducible refine hP (default, yq) _ _ ?_ ?_); all_goals (first | exact default | ((repeat' (first | exact SubD.nil | (refine SubD.cons rfl rfl ?_) | (refine SubD.cons rfl (by simp [den]) ?_))); done) | exact seZ))
 | ((with_reducible apply hP); all_goals (first | exact default | ((repeat' (first | exact SubD.nil | (refine SubD.cons rfl rfl ?_) | (refine SubD.cons rfl (by simp [den]) ?_))); done) | exact seZ)))
  conv => whnf
  intro zz8
  conv => whnf
  try dsimp only
  clear hpd1036 hst1024 hwh1035 hcan hres hnop
  have hpd1036 : ∀ e w, Fr Tryz.prog 36 #[pv e] w (AssL [.ext 12 (OrchA e p4)]) (.int .i64 (o.done + 4)) (AssL [.ext 12 (OrchA e p4)]) := fun e w => by have := applied1036 (d := e) (o := p4) (by have := hI4.gr; omega) w; rwa [hd4] at this
  obtain ⟨cc, hcc⟩ : ∃ c, OM.cmdOf p4 kd n = c := ⟨_, rfl⟩
  have hcok := OM.cmdOf_ok hI4 kd n
  have hcm1018 := fun e w => command1018 (d := e) (kd := kd) (n := n) hko hI4 hkd hn w
  rw [hcc] at hcok
  simp only [hcc] at hcm1018
  obtain ⟨p5, hp5⟩ : ∃ p, (p4.apply cc).1 = p := ⟨_, rfl⟩
  obtain ⟨rr, hrr⟩ : ∃ r, (p4.apply cc).2 = r := ⟨_, rfl⟩
  have hI5 : OM.Inv p5 := by rw [← hp5]; exact hI4.apply _
  have hd5 : p5.done = o.done + 5 := by rw [← hp5]; show OM.bump p4 = _; rw [hbump p4 (by omega)]; omega
  have hal5 : ¬ rr.err = 0 → OM.St.alike o p5 := fun h => by
    have := OM.apply_err (o := p4) (c := cc) (by rw [hrr]; exact h)
    rw [hp5] at this
    rw [this]
    exact hal4
  have hapI := fun i e a cap ha w => applyI (i := i) (j := 9) (k := 8) (d := e) (a := a) (cap := cap) (c := cc) hko hI4 hcok ha w
  simp only [hp5, hrr] at hapI
  clear hp1 hp2 hp3 hp4 hd1 hd2 hd3 hI1 hI2 hI3 hg1 hlo hlo1 hlo2 hal1 hbump hgo
  repeat' (first
 | with_reducible refine r_stop 14 ?_
 | with_reducible ((first | refine r_seq (fun KS hS => ?_) | (refine hS _ _ ?_; clear hS KS) | (refine hB _ ?_; clear hB KB)))
 | ((with_reducible (first | refine r_region ?_ | refine r_cond (fun KA hA KB hB => ?_) | refine r_skip ?_ | refine And.intro rfl ?_ | intro b)); conv => whnf)
 | ((with_reducible refine WrapK.i64 ?_ ?_); (focus omega); conv => whnf)
 | ((with_reducible refine CallK.id ?_); (first | (refine CallK.s1 rmG (fun ms w hk => ocopy1039 hI4 w) ?_; (intro d2)) | refine CallK.s1V rmG (fun ms w hk => hpd1036 _ w) ?_ | (refine CallK.s2 rmG rmG (fun ms w hk => hcm1018 _ w) ?_; (intro cz)) | (refine CallK.selS (.agg [.v (.int .i64 rr.err), .v (.int .i64 rr.num), .v (.string ⟨#[]⟩)]) rfl (by apply Sel.cons; (case h => exact rmG); apply Sel.cons; (case h => exact rmG); apply Sel.cons; (case h => exact rmG); exact Sel.nil) (fun ms w hk => hapI _ _ cz.1.1 cz.1.2 (fun h => cz.2 (by rw [hcc]; exact h)) w) ?_)); conv => whnf)
 | (((refine if_f ?_ ?_); (focus (simp only [eq_self, decide_true, Bool.and_true, Bool.and_self, Bool.not_true, beq_self_eq_true] <;> fail)); conv => whnf))
 | ((with_reducible apply OpK.more); (focus refine sok); (conv => whnf); fail_if_success guard_target =ₛ False)
 | with_reducible apply_assumption -symm -exfalso)
  refine StopR.mk ?_
  obtain ⟨b12, hb12⟩ : ∃ x, x = b := ⟨b, rfl⟩
  subst hb12
  have hal := hal4
  have hpe1036 := hpd1036
  clear hpd1036
  have hpd1036 := fun w => hpe1036 d w
  have hst1024 := fun w => state1024 (d := d) hI4 w
  have hwh1035 := fun z w => whole1035 (o := p4) (z := z) hI4.slen hI4.mlen w
  refine r_seq (fun KS5 hS5 => ?_)
  refine r_par (β := StZ × WhY) (id := 14) [nq 0 [] (.v (pv d)),
      ⟨1, [0], some 100, fun _ _ => .v (.int .i64 (o.done + 4)), fun _ _ => [.ext 12 (OrchA d p4), .ext 9 (GlA o0 o1), .ext 8 (dfA OM.zDef none 0)]⟩,
      nq 2 [] (.v (.int .i64 o.done)),
      nq 3 [2] (.v (.int .i64 (o.done + 4))),
      nq 4 [1, 3] (.v (.bool false)),
      nq 5 [4, 1] (.v (.bool false)),
      nq 6 [5] (.v (pv d)),
      ⟨7, [6, 5, 1], some 1, fun _ q2 => .v (.agg (denL (stateV p4 q2.1)).toArray), fun _ q2 => [.ext 12 (OrchA d p4), .ext 9 (GlA o0 o1), .ext 8 (dfA OM.zDef none 0), .ext 20 (SlA 76 11 q2.1.sa.1 p4.sagas.length q2.1.sa.2 (p4.sagas.flatMap (nmC q2.1.A))), .ext 21 (StA p4.sagas q2.1.A), .ext 22 (SlA 83 6 q2.1.ma.1 p4.moves.length q2.1.ma.2 (p4.moves.flatMap mvC)), .ext 23 (SlA 37 2 q2.1.ra.1 p4.parts.length q2.1.ra.2 (p4.parts.flatMap rgC)), .ext 24 (SlA 3 1 q2.1.wa.1 p4.parts.length q2.1.wa.2 (p4.parts.flatMap gpC)), .ext 25 (SlA 3 1 q2.1.ea.1 p4.parts.length q2.1.ea.2 (p4.parts.flatMap ecC))]⟩,
      ⟨8, [7, 5], some 7, fun l q2 => match l with | [z7, _] => .v (.agg (denL (whV p4 p4.done z7.1 q2.2)).toArray) | _ => .v undef, fun l q2 => match l with | [z7, _] => [.ext 12 (OrchA d p4), .ext 9 (GlA o0 o1), .ext 8 (dfA OM.zDef none 0), .ext 40 (WhA p4 z7.1 q2.2)] | _ => []⟩,
      ⟨9, [5], none, fun l _ => match l with | [_] => .agg (whV o o.done z0 y0) | _ => .v undef, fun _ _ => []⟩,
      ⟨10, [8, 9, 7, 5], some 8, fun _ _ => .v (.bool true), fun l _ => match l with | [z8, _, z7, _] => [.ext 12 (OrchA d p4), .ext 9 (GlA o0 o1), .ext 8 (dfA OM.zDef none 0), .ext 40 (WhA p4 z7.1 z8.2)] | _ => []⟩,
      nq 11 [10, 5] (.v (.bool false)),
      nq 12 [5, 11] (.v (.bool false))] [⟨100, [], none, fun _ _ => .v undef, fun _ _ => [.ext 12 (OrchA d p4), .ext 9 (GlA o0 o1), .ext 8 (dfA OM.zDef none 0)]⟩] 0 [.blk 48 bs (whV o o.done z0 y0) 97, .ext 30 (WhA o z0 y0), .blk 44 bx [.v (.int .u8 (kd : Nat)), .v (.int .u16 (n : Nat))] 46, .ext 14 (OrchA d2 p5), .blk 52 b12 [.v (.int .i64 rr.err), .v (.int .i64 rr.num), .v (.string ⟨#[]⟩)] 34] mixed (by kernel_rfl) (by kernel_rfl) (by show X.HSub [.ext 12 (OrchA d p4), .ext 9 (GlA o0 o1), .ext 8 (SlA 80 2 none 0 0 []), .blk 48 bs (whV o o.done z0 y0) 97, .ext 30 (WhA o z0 y0), .blk 44 bx [.v (.int .u8 (kd : Nat)), .v (.int .u16 (n : Nat))] 46, .ext 14 (OrchA d2 p5), .blk 52 b12 [.v (.int .i64 rr.err), .v (.int .i64 rr.num), .v (.string ⟨#[]⟩)] 34] _; exact HSub.trans (show X.HSub [.ext 12 (OrchA d p4), .ext 9 (GlA o0 o1), .ext 8 (SlA 80 2 none 0 0 []), .blk 48 bs (whV o o.done z0 y0) 97, .ext 30 (WhA o z0 y0), .blk 44 bx [.v (.int .u8 (kd : Nat)), .v (.int .u16 (n : Nat))] 46, .ext 14 (OrchA d2 p5), .blk 52 b12 [.v (.int .i64 rr.err), .v (.int .i64 rr.num), .v (.string ⟨#[]⟩)] 34] ([.ext 12 (OrchA d p4), .ext 9 (GlA o0 o1), .blk 48 bs (whV o o.done z0 y0) 97, .ext 30 (WhA o z0 y0), .blk 44 bx [.v (.int .u8 (kd : Nat)), .v (.int .u16 (n : Nat))] 46, .ext 14 (OrchA d2 p5), .blk 52 b12 [.v (.int .i64 rr.err), .v (.int .i64 rr.num), .v (.string ⟨#[]⟩)] 34] ++ [.ext 8 (SlA 80 2 none 0 0 [])]) from seG) (HSub.addSlL (L' := [.ext 12 (OrchA d p4), .ext 9 (GlA o0 o1), .blk 48 bs (whV o o.done z0 y0) 97, .ext 30 (WhA o z0 y0), .blk 44 bx [.v (.int .u8 (kd : Nat)), .v (.int .u16 (n : Nat))] 46, .ext 14 (OrchA d2 p5), .blk 52 b12 [.v (.int .i64 rr.err), .v (.int .i64 rr.num), .v (.string ⟨#[]⟩)] 34]) seG)) ?_ ?_
  · as_aux_lemma =>
    conv => whnf
    repeat' (first | ((with_reducible refine And.intro ?_ ?_); all_goals (conv => whnf)) | ((with_reducible intro zz2 AA KP hP); conv => whnf))
    repeat' (first
 | ((with_reducible refine WrapK.i64 ?_ ?_); (focus omega); conv => whnf)
 | ((with_reducible refine CallK.id ?_); (first | refine CallK.s1V rmG (fun ms w hk => hpd1036 w) ?_ | (refine CallK.s1 rmG (fun ms w hk => hst1024 w) ?_; (intro zq)) | (refine CallK.sel (by apply Sel.cons; (case h => exact rmG); apply Sel.cons; (case h => exact rmG); apply Sel.cons; (case h => exact rmG); apply Sel.cons; (case h => exact rmG); apply Sel.cons; (case h => exact rmG); apply Sel.cons; (case h => exact rmG); exact Sel.nil) (fun ms w hk => hwh1035 _ w) ?_; (intro yq))); conv => whnf)
 | ((with_reducible refine CallK.at 37 ?_); refine CallK.puW (fun ms w hk => alikeD1037 (m := o.done) (z' := z0) (y' := y0) hal (WhA.rd atG hk) (WhA.rd atG hk) hIo) ?_; conv => whnf)
 | ((with_reducible refine hP (zq, default) _ _ ?_ ?_); all_goals (first | exact default | ((repeat' (first | exact SubD.nil | (refine SubD.cons rfl rfl ?_) | (refine SubD.cons rfl (by simp [den]) ?_))); done) | exact seZ))
 | ((with_reducible refine hP (default, yq) _ _ ?_ ?_); all_goals (first | exact default | ((repeat' (first | exact SubD.nil | (refine SubD.cons rfl rfl ?_) | (refine SubD.cons rfl (by simp [den]) ?_))); done) | exact seZ))
 | ((with_reducible apply hP); all_goals (first | exact default | ((repeat' (first | exact SubD.nil | (refine SubD.cons rfl rfl ?_) | (refine SubD.cons rfl (by simp [den]) ?_))); done) | exact seZ)))
  conv => whnf
  intro zz14
  conv => whnf
  try dsimp only
  clear hpd1036 hst1024 hwh1035
  repeat' (first
 | with_reducible refine r_stop 17 ?_
 | with_reducible ((first | refine r_seq (fun KS hS => ?_) | (refine hS _ _ ?_; clear hS KS) | (refine hB _ ?_; clear hB KB)))
 | ((with_reducible (first | refine r_region ?_ | refine r_cond (fun KA hA KB hB => ?_) | refine r_skip ?_ | refine And.intro rfl ?_ | intro b)); conv => whnf)
 | ((with_reducible refine CallK.id ?_); (first | (refine CallK.s2 rmG rmG (fun ms w hk => hcm1018 _ w) ?_; (intro cz)) | (refine CallK.selS (.agg [.v (.int .i64 rr.err), .v (.int .i64 rr.num), .v (.string ⟨#[]⟩)]) rfl (by apply Sel.cons; (case h => exact rmG); apply Sel.cons; (case h => exact rmG); apply Sel.cons; (case h => exact rmG); exact Sel.nil) (fun ms w hk => hapI _ _ cz.1.1 cz.1.2 (fun h => cz.2 (by rw [hcc]; exact h)) w) ?_)); conv => whnf)
 | with_reducible apply_assumption -symm -exfalso)
  refine StopR.mk ?_
  obtain ⟨b13, hb13⟩ : ∃ x, x = b := ⟨b, rfl⟩
  subst hb13
  refine Run.weakenD (E' := [(7, .v (pv d)), (8, .loc bs 48 0), (9, .v (.int .i64 o.done)), (11, .v (pv d2)), (12, .loc b12 52 0), (13, .loc b13 53 0)]) (H' := [.blk 48 bs (whV o o.done z0 y0) 97, .ext 30 (WhA o z0 y0), .blk 44 bx [.v (.int .u8 (kd : Nat)), .v (.int .u16 (n : Nat))] 46, .blk 52 b12 [.v (.int .i64 rr.err), .v (.int .i64 rr.num), .v (.string ⟨#[]⟩)] 34, .blk 53 b13 [.v (.int .i64 rr.err), .v (.int .i64 rr.num), .v (.string ⟨#[]⟩)] 34, .ext 12 (OrchA d p5), .ext 14 (OrchA d2 p5), .ext 9 (GlA o0 o1)]) ?_ sdG seG
  have hpd1036 : ∀ w, Fr Tryz.prog 36 #[pv d] w (AssL [.ext 12 (OrchA d p5)]) (.int .i64 (o.done + 5)) (AssL [.ext 12 (OrchA d p5)]) := fun w => by have := applied1036 (d := d) (o := p5) (by have := hI5.gr; omega) w; rwa [hd5] at this
  have hst1024 := fun e w => state1024 (d := e) hI5 w
  have hwh1035 := fun z w => whole1035 (o := p5) (z := z) hI5.slen hI5.mlen w
  clear hpe1036 hcm1018 hapI hcok hal hd5 hp5 hrr hcc hI4 hal4 hd4
  refine r_seq (fun KS6 hS6 => ?_)
  by_cases he : rr.err = 0
  · clear hal5
    refine r_par (β := StZ × WhY) (id := 17) [nq 0 [] (.agg [.v (.int .i64 rr.err), .v (.int .i64 rr.num), .v (.string ⟨#[]⟩)]),
      nq 1 [] (.agg [.v (.int .i64 rr.err), .v (.int .i64 rr.num), .v (.string ⟨#[]⟩)]),
      nq 2 [0, 1] (.v (.bool true)),
      nq 3 [2] (.v (.bool true)),
      nq 4 [3] (.loc b13 53 0),
      nq 5 [4, 3] (.v (.int .i64 rr.err)),
      nq 6 [5, 3] (.v (.bool (decide (rr.err = 0)))),
      nq 7 [6, 3] (.v (.bool (decide (rr.err = 0)))),
      nq 8 [7] (.v undef),
      nq 9 [8, 7] (.v undef),
      nq 10 [9, 7] (.v undef),
      nq 11 [7] (.v undef),
      nq 12 [10, 11, 7] (.v undef),
      nq 13 [7, 12, 3] (.v (.bool true)),
      nq 14 [3, 13] (.v (.bool true)),
      nq 15 [14] (.v (.bool true)),
      nq 16 [15] (.v (pv d)),
      ⟨17, [16, 15], none, fun _ q2 => .v (.agg (denL (stateV p5 q2.1)).toArray), fun _ q2 => [.ext 20 (SlA 76 11 q2.1.sa.1 p5.sagas.length q2.1.sa.2 (p5.sagas.flatMap (nmC q2.1.A))), .ext 21 (StA p5.sagas q2.1.A), .ext 22 (SlA 83 6 q2.1.ma.1 p5.moves.length q2.1.ma.2 (p5.moves.flatMap mvC)), .ext 23 (SlA 37 2 q2.1.ra.1 p5.parts.length q2.1.ra.2 (p5.parts.flatMap rgC)), .ext 24 (SlA 3 1 q2.1.wa.1 p5.parts.length q2.1.wa.2 (p5.parts.flatMap gpC)), .ext 25 (SlA 3 1 q2.1.ea.1 p5.parts.length q2.1.ea.2 (p5.parts.flatMap ecC))]⟩,
      ⟨18, [17, 15], some 17, fun l q2 => match l with | [z17, _] => .v (.agg (denL (whV p5 p5.done z17.1 q2.2)).toArray) | _ => .v undef, fun l q2 => match l with | [z17, _] => [.ext 40 (WhA p5 z17.1 q2.2)] | _ => []⟩,
      nq 19 [15] (.v (pv d2)),
      ⟨20, [19, 18, 15, 17], some 18, fun _ q2 => .v (.agg (denL (stateV p5 q2.1)).toArray), fun l q2 => match l with | [_, z18, _, z17] => [.ext 40 (WhA p5 z17.1 z18.2), .ext 20 (SlA 76 11 q2.1.sa.1 p5.sagas.length q2.1.sa.2 (p5.sagas.flatMap (nmC q2.1.A))), .ext 21 (StA p5.sagas q2.1.A), .ext 22 (SlA 83 6 q2.1.ma.1 p5.moves.length q2.1.ma.2 (p5.moves.flatMap mvC)), .ext 23 (SlA 37 2 q2.1.ra.1 p5.parts.length q2.1.ra.2 (p5.parts.flatMap rgC)), .ext 24 (SlA 3 1 q2.1.wa.1 p5.parts.length q2.1.wa.2 (p5.parts.flatMap gpC)), .ext 25 (SlA 3 1 q2.1.ea.1 p5.parts.length q2.1.ea.2 (p5.parts.flatMap ecC))] | _ => []⟩,
      ⟨21, [20, 15, 17, 18], some 20, fun l q2 => match l with | [z20, _, _, _] => .v (.agg (denL (whV p5 p5.done z20.1 q2.2)).toArray) | _ => .v undef, fun l q2 => match l with | [z20, _, z17, z18] => [.ext 40 (WhA p5 z17.1 z18.2), .ext 41 (WhA p5 z20.1 q2.2)] | _ => []⟩,
      ⟨22, [18, 21, 15, 17, 20], some 21, fun _ _ => .v (.bool true), fun _ _ => []⟩,
      nq 23 [15, 22] (.v (.bool true)),
      nq 24 [23] (.v (.bool true)),
      nq 25 [24] (.v (pv d)),
      nq 26 [25, 24] (.v (.int .i64 (o.done + 5))),
      nq 27 [24] (.v (.int .i64 o.done)),
      nq 28 [27, 24] (.v (.int .i64 (o.done + 5))),
      nq 29 [26, 28, 24] (.v (.bool true)),
      nq 30 [24, 29] (.v (.bool true)),
      nq 31 [30] (.v (.bool true)),
      nq 32 [31] (.v (.bool true)),
      nq 33 [31, 32] (.v (.bool true))] [] 1 [.blk 48 bs (whV o o.done z0 y0) 97, .ext 30 (WhA o z0 y0), .blk 44 bx [.v (.int .u8 (kd : Nat)), .v (.int .u16 (n : Nat))] 46, .blk 52 b12 [.v (.int .i64 rr.err), .v (.int .i64 rr.num), .v (.string ⟨#[]⟩)] 34, .blk 53 b13 [.v (.int .i64 rr.err), .v (.int .i64 rr.num), .v (.string ⟨#[]⟩)] 34, .ext 12 (OrchA d p5), .ext 14 (OrchA d2 p5), .ext 9 (GlA o0 o1)] mixed (by kernel_rfl) (by kernel_rfl) seG ?_ ?_
    · conv => whnf
      repeat' (first | ((with_reducible refine And.intro ?_ ?_); all_goals (conv => whnf)) | ((with_reducible intro zz2 AA KP hP); conv => whnf))
      repeat' (first
 | ((with_reducible refine WrapK.i64 ?_ ?_); (focus omega); conv => whnf)
 | ((with_reducible refine CallK.id ?_); (first | (refine CallK.s1 rmG (fun ms w hk => hst1024 _ w) ?_; (intro zq)) | (refine CallK.sel (by apply Sel.cons; (case h => exact rmG); apply Sel.cons; (case h => exact rmG); apply Sel.cons; (case h => exact rmG); apply Sel.cons; (case h => exact rmG); apply Sel.cons; (case h => exact rmG); apply Sel.cons; (case h => exact rmG); exact Sel.nil) (fun ms w hk => hwh1035 _ w) ?_; (intro yq))); conv => whnf)
 | ((with_reducible refine CallK.at 37 ?_); refine CallK.puW (fun ms w hk => alikeD1037 (o := p5) (o' := p5) ⟨rfl, rfl, rfl, rfl⟩ (WhA.rd atG hk) (WhA.rd atG hk) hI5) ?_; conv => whnf)
 | ((with_reducible refine CallK.id ?_); (first | refine CallK.s1V rmG (fun ms w hk => hpd1036 w) ?_ | refine CallK.s1V rmG (fun ms w hk => works1013 hko w) ?_); conv => whnf)
 | (((with_reducible apply OpK.more); (focus refine sok2); (conv => whnf); fail_if_success guard_target =ₛ False))
 | (refine if_t (decide_eq_true he) ?_; conv => whnf)
 | ((with_reducible refine hP (zq, default) _ _ ?_ ?_); all_goals (first | exact default | ((repeat' (first | exact SubD.nil | (refine SubD.cons rfl rfl ?_) | (refine SubD.cons rfl (by simp [den]) ?_))); done) | exact seZ))
 | ((with_reducible refine hP (default, yq) _ _ ?_ ?_); all_goals (first | exact default | ((repeat' (first | exact SubD.nil | (refine SubD.cons rfl rfl ?_) | (refine SubD.cons rfl (by simp [den]) ?_))); done) | exact seZ))
 | ((with_reducible apply hP); all_goals (first | exact default | ((repeat' (first | exact SubD.nil | (refine SubD.cons rfl rfl ?_) | (refine SubD.cons rfl (by simp [den]) ?_))); done) | exact seZ)))
    conv => whnf
    intro zz17
    conv => whnf
    try dsimp only
    repeat' (first
 | ((with_reducible refine r_ret ?_); conv => whnf)
 | ((with_reducible ((first | refine InAt.mk (fun K' hK => ?_) | (refine hK _ ?_; clear hK K')))); conv => whnf)
 | with_reducible apply_assumption -symm -exfalso)
    exact FinK.frZL () rfl seG
  · have hal6 := hal5 he
    clear hal5
    refine r_par (β := StZ × WhY) (id := 17) [nq 0 [] (.agg [.v (.int .i64 rr.err), .v (.int .i64 rr.num), .v (.string ⟨#[]⟩)]),
      nq 1 [] (.agg [.v (.int .i64 rr.err), .v (.int .i64 rr.num), .v (.string ⟨#[]⟩)]),
      nq 2 [0, 1] (.v (.bool true)),
      nq 3 [2] (.v (.bool true)),
      nq 4 [3] (.loc b13 53 0),
      nq 5 [4, 3] (.v (.int .i64 rr.err)),
      nq 6 [5, 3] (.v (.bool (decide (rr.err = 0)))),
      nq 7 [6, 3] (.v (.bool (decide (rr.err = 0)))),
      nq 8 [7] (.v (pv d)),
      ⟨9, [8, 7], none, fun _ q2 => .v (.agg (denL (stateV p5 q2.1)).toArray), fun _ q2 => [.ext 20 (SlA 76 11 q2.1.sa.1 p5.sagas.length q2.1.sa.2 (p5.sagas.flatMap (nmC q2.1.A))), .ext 21 (StA p5.sagas q2.1.A), .ext 22 (SlA 83 6 q2.1.ma.1 p5.moves.length q2.1.ma.2 (p5.moves.flatMap mvC)), .ext 23 (SlA 37 2 q2.1.ra.1 p5.parts.length q2.1.ra.2 (p5.parts.flatMap rgC)), .ext 24 (SlA 3 1 q2.1.wa.1 p5.parts.length q2.1.wa.2 (p5.parts.flatMap gpC)), .ext 25 (SlA 3 1 q2.1.ea.1 p5.parts.length q2.1.ea.2 (p5.parts.flatMap ecC))]⟩,
      ⟨10, [9, 7], some 9, fun l q2 => match l with | [z9, _] => .v (.agg (denL (whV p5 p5.done z9.1 q2.2)).toArray) | _ => .v undef, fun l q2 => match l with | [z9, _] => [.ext 40 (WhA p5 z9.1 q2.2)] | _ => []⟩,
      ⟨11, [7], none, fun l _ => match l with | [_] => .agg (whV o o.done z0 y0) | _ => .v undef, fun _ _ => []⟩,
      ⟨12, [10, 11, 7, 9], some 10, fun _ _ => .v (.bool true), fun _ _ => []⟩,
      nq 13 [7, 12, 3] (.v (.bool true)),
      nq 14 [3, 13] (.v (.bool true)),
      nq 15 [14] (.v (.bool true)),
      nq 16 [15] (.v (pv d)),
      ⟨17, [16, 15], none, fun _ q2 => .v (.agg (denL (stateV p5 q2.1)).toArray), fun _ q2 => [.ext 20 (SlA 76 11 q2.1.sa.1 p5.sagas.length q2.1.sa.2 (p5.sagas.flatMap (nmC q2.1.A))), .ext 21 (StA p5.sagas q2.1.A), .ext 22 (SlA 83 6 q2.1.ma.1 p5.moves.length q2.1.ma.2 (p5.moves.flatMap mvC)), .ext 23 (SlA 37 2 q2.1.ra.1 p5.parts.length q2.1.ra.2 (p5.parts.flatMap rgC)), .ext 24 (SlA 3 1 q2.1.wa.1 p5.parts.length q2.1.wa.2 (p5.parts.flatMap gpC)), .ext 25 (SlA 3 1 q2.1.ea.1 p5.parts.length q2.1.ea.2 (p5.parts.flatMap ecC))]⟩,
      ⟨18, [17, 15], some 17, fun l q2 => match l with | [z17, _] => .v (.agg (denL (whV p5 p5.done z17.1 q2.2)).toArray) | _ => .v undef, fun l q2 => match l with | [z17, _] => [.ext 40 (WhA p5 z17.1 q2.2)] | _ => []⟩,
      nq 19 [15] (.v (pv d2)),
      ⟨20, [19, 18, 15, 17], some 18, fun _ q2 => .v (.agg (denL (stateV p5 q2.1)).toArray), fun l q2 => match l with | [_, z18, _, z17] => [.ext 40 (WhA p5 z17.1 z18.2), .ext 20 (SlA 76 11 q2.1.sa.1 p5.sagas.length q2.1.sa.2 (p5.sagas.flatMap (nmC q2.1.A))), .ext 21 (StA p5.sagas q2.1.A), .ext 22 (SlA 83 6 q2.1.ma.1 p5.moves.length q2.1.ma.2 (p5.moves.flatMap mvC)), .ext 23 (SlA 37 2 q2.1.ra.1 p5.parts.length q2.1.ra.2 (p5.parts.flatMap rgC)), .ext 24 (SlA 3 1 q2.1.wa.1 p5.parts.length q2.1.wa.2 (p5.parts.flatMap gpC)), .ext 25 (SlA 3 1 q2.1.ea.1 p5.parts.length q2.1.ea.2 (p5.parts.flatMap ecC))] | _ => []⟩,
      ⟨21, [20, 15, 17, 18], some 20, fun l q2 => match l with | [z20, _, _, _] => .v (.agg (denL (whV p5 p5.done z20.1 q2.2)).toArray) | _ => .v undef, fun l q2 => match l with | [z20, _, z17, z18] => [.ext 40 (WhA p5 z17.1 z18.2), .ext 41 (WhA p5 z20.1 q2.2)] | _ => []⟩,
      ⟨22, [18, 21, 15, 17, 20], some 21, fun _ _ => .v (.bool true), fun _ _ => []⟩,
      nq 23 [15, 22] (.v (.bool true)),
      nq 24 [23] (.v (.bool true)),
      nq 25 [24] (.v (pv d)),
      nq 26 [25, 24] (.v (.int .i64 (o.done + 5))),
      nq 27 [24] (.v (.int .i64 o.done)),
      nq 28 [27, 24] (.v (.int .i64 (o.done + 5))),
      nq 29 [26, 28, 24] (.v (.bool true)),
      nq 30 [24, 29] (.v (.bool true)),
      nq 31 [30] (.v (.bool true)),
      nq 32 [31] (.v (.bool true)),
      nq 33 [31, 32] (.v (.bool true))] [] 1 [.blk 48 bs (whV o o.done z0 y0) 97, .ext 30 (WhA o z0 y0), .blk 44 bx [.v (.int .u8 (kd : Nat)), .v (.int .u16 (n : Nat))] 46, .blk 52 b12 [.v (.int .i64 rr.err), .v (.int .i64 rr.num), .v (.string ⟨#[]⟩)] 34, .blk 53 b13 [.v (.int .i64 rr.err), .v (.int .i64 rr.num), .v (.string ⟨#[]⟩)] 34, .ext 12 (OrchA d p5), .ext 14 (OrchA d2 p5), .ext 9 (GlA o0 o1)] mixed (by kernel_rfl) (by kernel_rfl) seG ?_ ?_
    · conv => whnf
      repeat' (first | ((with_reducible refine And.intro ?_ ?_); all_goals (conv => whnf)) | ((with_reducible intro zz2 AA KP hP); conv => whnf))
      repeat' (first
 | ((with_reducible refine And.intro rfl ?_); conv => whnf)
 | ((with_reducible refine WrapK.i64 ?_ ?_); (focus omega); conv => whnf)
 | ((with_reducible refine CallK.id ?_); (first | (refine CallK.s1 rmG (fun ms w hk => hst1024 _ w) ?_; (intro zq)) | (refine CallK.sel (by apply Sel.cons; (case h => exact rmG); apply Sel.cons; (case h => exact rmG); apply Sel.cons; (case h => exact rmG); apply Sel.cons; (case h => exact rmG); apply Sel.cons; (case h => exact rmG); apply Sel.cons; (case h => exact rmG); exact Sel.nil) (fun ms w hk => hwh1035 _ w) ?_; (intro yq))); conv => whnf)
 | ((with_reducible refine CallK.at 37 ?_); (first | refine CallK.puW (fun ms w hk => alikeD1037 (o := o) (o' := p5) (m := o.done) (z' := z0) (y' := y0) hal6 (WhA.rd atG hk) (WhA.rd atG hk) hIo) ?_ | refine CallK.puW (fun ms w hk => alikeD1037 (o := p5) (o' := p5) ⟨rfl, rfl, rfl, rfl⟩ (WhA.rd atG hk) (WhA.rd atG hk) hI5) ?_); conv => whnf)
 | ((with_reducible refine CallK.id ?_); (first | refine CallK.s1V rmG (fun ms w hk => hpd1036 w) ?_ | refine CallK.s1V rmG (fun ms w hk => works1013 hko w) ?_); conv => whnf)
 | (((with_reducible apply OpK.more); (focus refine sok2); (conv => whnf); fail_if_success guard_target =ₛ False))
 | (refine if_f (decide_eq_false he) ?_; conv => whnf)
 | ((with_reducible refine hP (zq, default) _ _ ?_ ?_); all_goals (first | exact default | ((repeat' (first | exact SubD.nil | (refine SubD.cons rfl rfl ?_) | (refine SubD.cons rfl (by simp [den]) ?_))); done) | exact seZ))
 | ((with_reducible refine hP (default, yq) _ _ ?_ ?_); all_goals (first | exact default | ((repeat' (first | exact SubD.nil | (refine SubD.cons rfl rfl ?_) | (refine SubD.cons rfl (by simp [den]) ?_))); done) | exact seZ))
 | ((with_reducible apply hP); all_goals (first | exact default | ((repeat' (first | exact SubD.nil | (refine SubD.cons rfl rfl ?_) | (refine SubD.cons rfl (by simp [den]) ?_))); done) | exact seZ)))
    conv => whnf
    intro zz17
    conv => whnf
    try dsimp only
    repeat' (first
 | ((with_reducible refine r_ret ?_); conv => whnf)
 | ((with_reducible ((first | refine InAt.mk (fun K' hK => ?_) | (refine hK _ ?_; clear hK K')))); conv => whnf)
 | with_reducible apply_assumption -symm -exfalso)
    exact FinK.frZL () rfl seG
end Go.Proofs.YtjkmpaggfbghiaaGreatDoor
