/- Contracts and lemmas for the claim (part 6); no condition of its own. -/
import Derived.Test.YthmjkaljkgjicaaGreatDoorYDC1205
import Derived.Test.YthmjkaljkgjicaaGreatDoorYDC1204
set_option linter.all false
set_option linter.unusedVariables false
set_option linter.unusedSimpArgs false
set_option linter.unnecessarySimpa false
namespace Go.Proofs.YthmjkaljkgjicaaGreatDoor
open Go Go.X
set_option maxRecDepth 100000
set_option maxHeartbeats 0
theorem checkEff102 {s t p d : Int} {k : ByteArray} (h : EffOk s t p) (hk : nameOk k = true) (hks : k.size ≤ 1099511627776) (hd : d ≠ 0) (hn : NumOk d) (w : World) : Pu Tryz.prog 48 #[.agg #[.int .i64 1, .int .i64 0, .int .i64 0, .int .i64 s, .int .i64 t, .int .i64 p, .string k, .int .i64 d, .int .i64 0, .string ⟨#[]⟩, .string ⟨#[]⟩, .int .i64 0, .string ⟨#[]⟩, .int .i64 0, .int .i64 0, .slice none 0 0, .int .i64 0, .int .i64 0, .int .i64 0, .int .i64 0, .bool false, .int .i64 0, .int .i64 0, .string ⟨#[]⟩]] w (.int .i64 0) := by
  refine enter_sound TBok Tryz.func48 rfl rfl Tryz.ntmps48 [.agg [.v (.int .i64 1), .v (.int .i64 0), .v (.int .i64 0), .v (.int .i64 s), .v (.int .i64 t), .v (.int .i64 p), .v (.string k), .v (.int .i64 d), .v (.int .i64 0), .v (.string ⟨#[]⟩), .v (.string ⟨#[]⟩), .v (.int .i64 0), .v (.string ⟨#[]⟩), .v (.int .i64 0), .v (.int .i64 0), .v (.slice none 0 0), .v (.int .i64 0), .v (.int .i64 0), .v (.int .i64 0), .v (.int .i64 0), .v (.bool false), .v (.int .i64 0), .v (.int .i64 0), .v (.string ⟨#[]⟩)]] (Kn.start w noS) rfl rfl ?_
  conv => whnf
  repeat' (first
 | with_reducible (first | refine r_seq (fun KS hS => ?_) | (refine hS _ _ ?_; clear hS KS) | (refine hA _ ?_; clear hA KA) | (refine hB _ ?_; clear hB KB) | refine r_block ?_)
 | ((with_reducible (first | refine r_region ?_ | refine r_cond (fun KA hA KB hB => ?_) | refine r_ret ?_ | refine r_skip ?_ | refine r_exit ?_ | refine And.intro rfl ?_ | intro b)); conv => whnf)
 | ((with_reducible refine WrapK.i64 ?_ ?_); (focus omega); conv => whnf)
 | ((with_reducible refine CallK.id ?_); (first | apply in103 | apply in143 | apply in144 | apply in145 | apply in147 | apply in148 | apply in149 | apply in216 | apply in226 | apply in210 | apply in288 | apply in220 | apply in297 | apply in298 | apply in229 | apply in238 | apply in289 | apply in215 | apply in292 | apply in225 | apply in302 | apply in235 | apply in29 | apply in66 | apply in112 | apply in237 | apply in250); rfl; rfl; rfl; intro A; conv => whnf)
 | (refine aq217 ?_; conv => whnf)
 | (refine ak217 ?_; conv => whnf)
 | (refine aq228 ?_; conv => whnf)
 | (refine ak228 ?_; conv => whnf)
 | (refine aq236 ?_; conv => whnf)
 | (refine ak236 ?_; conv => whnf)
 | ((with_reducible refine CallK.at 75 ?_); refine CallK.pu (fun w => effOk94 h w) ?_; conv => whnf)
 | ((with_reducible refine CallQ.at 132 ?_); refine CallQ.pu (fun w => name218 hks w) ?_; rw [hk]; conv => whnf)
 | ((with_reducible refine CallK.at 105 ?_); refine CallK.pu (fun w => numOk131 hn w) ?_; conv => whnf)
 | ((with_reducible apply OpK.more); (focus refine sok); (conv => whnf); fail_if_success guard_target =ₛ False)
 | with_reducible (first | refine Rounds.step (fun KL hL => ?_) | (refine hL _ _ ?_; clear hL KL) | refine r_rounds 100 ?_)
 | ((with_reducible (first | refine InAt.mk (fun K' hK => ?_) | refine AnyAt.mk (fun K' hK => ?_) | (refine hK _ ?_; clear hK K') | (refine hK _ _ ?_; clear hK K'))); conv => whnf)
 | ((refine And.intro ?_ ?_); all_goals (conv => whnf))
 | (apply r_quiet; refine mixed; kernel_rfl; kernel_rfl; kernel_rfl; conv => whnf)
 | ((first | refine if_t (by decide) ?_ | refine if_f (by decide) ?_ | refine if_decT (by omega) ?_ | refine if_decF (by omega) ?_ | refine if_ndecT (by omega) ?_ | refine if_ndecF (by omega) ?_); conv => whnf)
 | ((first | refine if_dec (fun h => ?_) (fun h => ?_) | refine if_ndec (fun h => ?_) (fun h => ?_) | refine if_cond (fun h => ?_) (fun h => ?_)); all_goals (conv => whnf))
 | with_reducible apply_assumption -symm -exfalso)
  exact FinK.pu rfl
theorem within298 {a lo hi : Int} (h : lo ≤ a ∧ a ≤ hi) (w : World) : Pu Tryz.prog 234 #[.int .i64 a, .int .i64 lo, .int .i64 hi] w (.bool true) := by
  refine enter_sound TBok Tryz.func234 rfl rfl Tryz.ntmps234 [.v (.int .i64 a), .v (.int .i64 lo), .v (.int .i64 hi)] (Kn.start w noS) rfl rfl ?_
  conv => whnf
  repeat' (first
 | with_reducible (first | refine r_seq (fun KS hS => ?_) | (refine hS _ _ ?_; clear hS KS) | (refine hA _ ?_; clear hA KA) | (refine hB _ ?_; clear hB KB) | refine r_block ?_)
 | ((with_reducible (first | refine r_region ?_ | refine r_cond (fun KA hA KB hB => ?_) | refine r_ret ?_ | refine r_skip ?_ | refine r_exit ?_ | refine And.intro rfl ?_ | intro b)); conv => whnf)
 | ((with_reducible refine WrapK.i64 ?_ ?_); (focus omega); conv => whnf)
 | ((with_reducible apply OpK.more); (focus refine sok); (conv => whnf); fail_if_success guard_target =ₛ False)
 | ((with_reducible (first | refine InAt.mk (fun K' hK => ?_) | refine AnyAt.mk (fun K' hK => ?_) | (refine hK _ ?_; clear hK K') | (refine hK _ _ ?_; clear hK K'))); conv => whnf)
 | ((refine And.intro ?_ ?_); all_goals (conv => whnf))
 | (apply r_quiet; refine mixed; kernel_rfl; kernel_rfl; kernel_rfl; conv => whnf)
 | ((first | refine if_t (by decide) ?_ | refine if_f (by decide) ?_ | refine if_decT (by omega) ?_ | refine if_decF (by omega) ?_ | refine if_ndecT (by omega) ?_ | refine if_ndecF (by omega) ?_); conv => whnf)
 | ((first | refine if_dec (fun h => ?_) (fun h => ?_) | refine if_ndec (fun h => ?_) (fun h => ?_) | refine if_cond (fun h => ?_) (fun h => ?_)); all_goals (conv => whnf))
 | with_reducible apply_assumption -symm -exfalso)
  refine FinK.pu ?_
  simp [den]; omega
theorem data237 {s : ByteArray} (h : s.size ≤ 65536) (w : World) : Pu Tryz.prog 151 #[.string s] w (.bool true) := by
  refine enter_sound TBok Tryz.func151 rfl rfl Tryz.ntmps151 [.v (.string s)] (Kn.start w noS) rfl rfl ?_
  conv => whnf
  repeat' (first
 | with_reducible (first | refine r_seq (fun KS hS => ?_) | (refine hS _ _ ?_; clear hS KS) | (refine hA _ ?_; clear hA KA) | (refine hB _ ?_; clear hB KB) | refine r_block ?_)
 | ((with_reducible (first | refine r_region ?_ | refine r_cond (fun KA hA KB hB => ?_) | refine r_ret ?_ | refine r_skip ?_ | refine r_exit ?_ | refine And.intro rfl ?_ | intro b)); conv => whnf)
 | ((with_reducible refine WrapK.i64 ?_ ?_); (focus omega); conv => whnf)
 | ((with_reducible apply OpK.more); (focus refine sok); (conv => whnf); fail_if_success guard_target =ₛ False)
 | ((with_reducible (first | refine InAt.mk (fun K' hK => ?_) | refine AnyAt.mk (fun K' hK => ?_) | (refine hK _ ?_; clear hK K') | (refine hK _ _ ?_; clear hK K'))); conv => whnf)
 | ((refine And.intro ?_ ?_); all_goals (conv => whnf))
 | (apply r_quiet; refine mixed; kernel_rfl; kernel_rfl; kernel_rfl; conv => whnf)
 | ((first | refine if_t (by decide) ?_ | refine if_f (by decide) ?_ | refine if_decT (by omega) ?_ | refine if_decF (by omega) ?_ | refine if_ndecT (by omega) ?_ | refine if_ndecF (by omega) ?_); conv => whnf)
 | ((first | refine if_dec (fun h => ?_) (fun h => ?_) | refine if_ndec (fun h => ?_) (fun h => ?_) | refine if_cond (fun h => ?_) (fun h => ?_)); all_goals (conv => whnf))
 | with_reducible apply_assumption -symm -exfalso)
  refine FinK.pu ?_
  simp [den]; omega
theorem range230 {f : ByteArray} (hf : nameOk f = true) (hs : f.size ≤ 1099511627776) (w : World) : Pu Tryz.prog 144 #[.agg #[.string f, .string ⟨#[]⟩]] w (.int .i64 0) := by
  refine enter_sound TBok Tryz.func144 rfl rfl Tryz.ntmps144 [.agg [.v (.string f), .v (.string ⟨#[]⟩)]] (Kn.start w noS) rfl rfl ?_
  conv => whnf
  repeat' (first
 | with_reducible (first | refine r_seq (fun KS hS => ?_) | (refine hS _ _ ?_; clear hS KS) | (refine hA _ ?_; clear hA KA) | (refine hB _ ?_; clear hB KB) | refine r_block ?_)
 | ((with_reducible (first | refine r_region ?_ | refine r_cond (fun KA hA KB hB => ?_) | refine r_ret ?_ | refine r_skip ?_ | refine r_exit ?_ | refine And.intro rfl ?_ | intro b)); conv => whnf)
 | ((with_reducible refine WrapK.i64 ?_ ?_); (focus omega); conv => whnf)
 | ((with_reducible refine CallK.at 132 ?_); refine CallK.pu (fun w => name218 hs w) ?_; rw [hf]; conv => whnf)
 | ((with_reducible apply OpK.more); (focus refine sok); (conv => whnf); fail_if_success guard_target =ₛ False)
 | with_reducible (first | refine Rounds.step (fun KL hL => ?_) | (refine hL _ _ ?_; clear hL KL) | refine r_rounds 100 ?_)
 | ((with_reducible (first | refine InAt.mk (fun K' hK => ?_) | refine AnyAt.mk (fun K' hK => ?_) | (refine hK _ ?_; clear hK K') | (refine hK _ _ ?_; clear hK K'))); conv => whnf)
 | ((refine And.intro ?_ ?_); all_goals (conv => whnf))
 | (apply r_quiet; refine mixed; kernel_rfl; kernel_rfl; kernel_rfl; conv => whnf)
 | ((first | refine if_t (by decide) ?_ | refine if_f (by decide) ?_ | refine if_decT (by omega) ?_ | refine if_decF (by omega) ?_ | refine if_ndecT (by omega) ?_ | refine if_ndecF (by omega) ?_); conv => whnf)
 | ((first | refine if_dec (fun h => ?_) (fun h => ?_) | refine if_ndec (fun h => ?_) (fun h => ?_) | refine if_cond (fun h => ?_) (fun h => ?_)); all_goals (conv => whnf))
 | with_reducible apply_assumption -symm -exfalso)
  all_goals exact FinK.pu rfl
theorem checkOut102 {m : Int} {f : ByteArray} (hm : 1 ≤ m ∧ m ≤ 64) (hf : nameOk f = true) (hs : f.size ≤ 1099511627776) (w : World) : Pu Tryz.prog 48 #[.agg #[.int .i64 3, .int .i64 0, .int .i64 0, .int .i64 0, .int .i64 0, .int .i64 0, .string ⟨#[]⟩, .int .i64 0, .int .i64 m, .string f, .string ⟨#[]⟩, .int .i64 0, .string ⟨#[]⟩, .int .i64 0, .int .i64 0, .slice none 0 0, .int .i64 0, .int .i64 0, .int .i64 0, .int .i64 0, .bool false, .int .i64 0, .int .i64 0, .string ⟨#[]⟩]] w (.int .i64 0) := by
  refine enter_sound TBok Tryz.func48 rfl rfl Tryz.ntmps48 [.agg [.v (.int .i64 3), .v (.int .i64 0), .v (.int .i64 0), .v (.int .i64 0), .v (.int .i64 0), .v (.int .i64 0), .v (.string ⟨#[]⟩), .v (.int .i64 0), .v (.int .i64 m), .v (.string f), .v (.string ⟨#[]⟩), .v (.int .i64 0), .v (.string ⟨#[]⟩), .v (.int .i64 0), .v (.int .i64 0), .v (.slice none 0 0), .v (.int .i64 0), .v (.int .i64 0), .v (.int .i64 0), .v (.int .i64 0), .v (.bool false), .v (.int .i64 0), .v (.int .i64 0), .v (.string ⟨#[]⟩)]] (Kn.start w noS) rfl rfl ?_
  conv => whnf
  repeat' (first
 | with_reducible (first | refine r_seq (fun KS hS => ?_) | (refine hS _ _ ?_; clear hS KS) | (refine hA _ ?_; clear hA KA) | (refine hB _ ?_; clear hB KB) | refine r_block ?_)
 | ((with_reducible (first | refine r_region ?_ | refine r_cond (fun KA hA KB hB => ?_) | refine r_ret ?_ | refine r_skip ?_ | refine r_exit ?_ | refine And.intro rfl ?_ | intro b)); conv => whnf)
 | ((with_reducible refine WrapK.i64 ?_ ?_); (focus omega); conv => whnf)
 | ((with_reducible refine CallK.id ?_); (first | apply in103 | apply in143 | apply in144 | apply in145 | apply in147 | apply in148 | apply in149 | apply in216 | apply in226 | apply in210 | apply in288 | apply in220 | apply in297 | apply in298 | apply in229 | apply in238 | apply in289 | apply in215 | apply in292 | apply in225 | apply in302 | apply in235 | apply in29 | apply in66 | apply in112 | apply in237 | apply in250); rfl; rfl; rfl; intro A; conv => whnf)
 | (refine aq217 ?_; conv => whnf)
 | (refine ak217 ?_; conv => whnf)
 | (refine aq228 ?_; conv => whnf)
 | (refine ak228 ?_; conv => whnf)
 | (refine aq236 ?_; conv => whnf)
 | (refine ak236 ?_; conv => whnf)
 | ((with_reducible refine CallK.at 144 ?_); refine CallK.pu (fun w => range230 hf hs w) ?_; conv => whnf)
 | ((with_reducible refine CallQ.at 234 ?_); refine CallQ.pu (fun w => within298 hm w) ?_; conv => whnf)
 | ((with_reducible apply OpK.more); (focus refine sok); (conv => whnf); fail_if_success guard_target =ₛ False)
 | with_reducible (first | refine Rounds.step (fun KL hL => ?_) | (refine hL _ _ ?_; clear hL KL) | refine r_rounds 100 ?_)
 | ((with_reducible (first | refine InAt.mk (fun K' hK => ?_) | refine AnyAt.mk (fun K' hK => ?_) | (refine hK _ ?_; clear hK K') | (refine hK _ _ ?_; clear hK K'))); conv => whnf)
 | ((refine And.intro ?_ ?_); all_goals (conv => whnf))
 | (apply r_quiet; refine mixed; kernel_rfl; kernel_rfl; kernel_rfl; conv => whnf)
 | ((first | refine if_t (by decide) ?_ | refine if_f (by decide) ?_ | refine if_decT (by omega) ?_ | refine if_decF (by omega) ?_ | refine if_ndecT (by omega) ?_ | refine if_ndecF (by omega) ?_); conv => whnf)
 | ((first | refine if_dec (fun h => ?_) (fun h => ?_) | refine if_ndec (fun h => ?_) (fun h => ?_) | refine if_cond (fun h => ?_) (fun h => ?_)); all_goals (conv => whnf))
 | with_reducible apply_assumption -symm -exfalso)
  exact FinK.pu rfl
theorem checkIn102 {m : Int} {f x : ByteArray} (hm : 1 ≤ m ∧ m ≤ 64) (hf : nameOk f = true) (hs : f.size ≤ 1099511627776) (hx : x.size ≤ 65536) (w : World) : Pu Tryz.prog 48 #[.agg #[.int .i64 4, .int .i64 0, .int .i64 0, .int .i64 0, .int .i64 0, .int .i64 0, .string ⟨#[]⟩, .int .i64 0, .int .i64 m, .string f, .string ⟨#[]⟩, .int .i64 0, .string ⟨#[]⟩, .int .i64 0, .int .i64 0, .slice none 0 0, .int .i64 0, .int .i64 0, .int .i64 0, .int .i64 0, .bool false, .int .i64 0, .int .i64 0, .string x]] w (.int .i64 0) := by
  refine enter_sound TBok Tryz.func48 rfl rfl Tryz.ntmps48 [.agg [.v (.int .i64 4), .v (.int .i64 0), .v (.int .i64 0), .v (.int .i64 0), .v (.int .i64 0), .v (.int .i64 0), .v (.string ⟨#[]⟩), .v (.int .i64 0), .v (.int .i64 m), .v (.string f), .v (.string ⟨#[]⟩), .v (.int .i64 0), .v (.string ⟨#[]⟩), .v (.int .i64 0), .v (.int .i64 0), .v (.slice none 0 0), .v (.int .i64 0), .v (.int .i64 0), .v (.int .i64 0), .v (.int .i64 0), .v (.bool false), .v (.int .i64 0), .v (.int .i64 0), .v (.string x)]] (Kn.start w noS) rfl rfl ?_
  conv => whnf
  repeat' (first
 | with_reducible (first | refine r_seq (fun KS hS => ?_) | (refine hS _ _ ?_; clear hS KS) | (refine hA _ ?_; clear hA KA) | (refine hB _ ?_; clear hB KB) | refine r_block ?_)
 | ((with_reducible (first | refine r_region ?_ | refine r_cond (fun KA hA KB hB => ?_) | refine r_ret ?_ | refine r_skip ?_ | refine r_exit ?_ | refine And.intro rfl ?_ | intro b)); conv => whnf)
 | ((with_reducible refine WrapK.i64 ?_ ?_); (focus omega); conv => whnf)
 | ((with_reducible refine CallK.id ?_); (first | apply in103 | apply in143 | apply in144 | apply in145 | apply in147 | apply in148 | apply in149 | apply in216 | apply in226 | apply in210 | apply in288 | apply in220 | apply in297 | apply in298 | apply in229 | apply in238 | apply in289 | apply in215 | apply in292 | apply in225 | apply in302 | apply in235 | apply in29 | apply in66 | apply in112 | apply in237 | apply in250); rfl; rfl; rfl; intro A; conv => whnf)
 | (refine aq217 ?_; conv => whnf)
 | (refine ak217 ?_; conv => whnf)
 | (refine aq228 ?_; conv => whnf)
 | (refine ak228 ?_; conv => whnf)
 | (refine aq236 ?_; conv => whnf)
 | (refine ak236 ?_; conv => whnf)
 | ((with_reducible refine CallK.at 144 ?_); refine CallK.pu (fun w => range230 hf hs w) ?_; conv => whnf)
 | ((with_reducible refine CallQ.at 234 ?_); refine CallQ.pu (fun w => within298 hm w) ?_; conv => whnf)
 | ((with_reducible refine CallQ.at 151 ?_); refine CallQ.pu (fun w => data237 hx w) ?_; conv => whnf)
 | ((with_reducible apply OpK.more); (focus refine sok); (conv => whnf); fail_if_success guard_target =ₛ False)
 | with_reducible (first | refine Rounds.step (fun KL hL => ?_) | (refine hL _ _ ?_; clear hL KL) | refine r_rounds 100 ?_)
 | ((with_reducible (first | refine InAt.mk (fun K' hK => ?_) | refine AnyAt.mk (fun K' hK => ?_) | (refine hK _ ?_; clear hK K') | (refine hK _ _ ?_; clear hK K'))); conv => whnf)
 | ((refine And.intro ?_ ?_); all_goals (conv => whnf))
 | (apply r_quiet; refine mixed; kernel_rfl; kernel_rfl; kernel_rfl; conv => whnf)
 | ((first | refine if_t (by decide) ?_ | refine if_f (by decide) ?_ | refine if_decT (by omega) ?_ | refine if_decF (by omega) ?_ | refine if_ndecT (by omega) ?_ | refine if_ndecF (by omega) ?_); conv => whnf)
 | ((first | refine if_dec (fun h => ?_) (fun h => ?_) | refine if_ndec (fun h => ?_) (fun h => ?_) | refine if_cond (fun h => ?_) (fun h => ?_)); all_goals (conv => whnf))
 | with_reducible apply_assumption -symm -exfalso)
  exact FinK.pu rfl
end Go.Proofs.YthmjkaljkgjicaaGreatDoor

namespace Go.Proofs.YthmjkaljkgjicaaGreatDoor
open Go Go.X
set_option maxRecDepth 100000
set_option maxHeartbeats 0
theorem WrA.fresh {p : Nat} {w : World} {S : Nat → Prop} (h : (blkA p [.bool true, .slice none 0 0] 156).holds w S) (hS : ∀ k, S k → k < w.heap.size) : (WrA p []).holds w (fun k => k = p) :=
  ⟨none, 0, by
    have h1 : Holds w ([] : List Blk) (fun _ => False) := .nil
    have h2 : Holds w [.ext 11 (SlA 5 1 none 0 0 (bcells []))] (fun k => False ∨ False) := .cons (S := fun _ => False) (x := .ext 11 (SlA 5 1 none 0 0 (bcells []))) (.inl ⟨rfl, rfl, rfl, rfl⟩) (fun _ h => h.elim) h1 (fun _ h _ => h)
    have h3 : Holds w (.blk 10 p [.v (.bool true), .v (.slice none 0 0)] 156 :: [.ext 11 (SlA 5 1 none 0 0 (bcells []))]) (fun k => k = p ∨ (False ∨ False)) :=
      .cons (S := fun k => k = p) (x := .blk 10 p [.v (.bool true), .v (.slice none 0 0)] 156) ⟨rfl, h.2⟩ (fun k hk => hk ▸ hS p h.1) h2 (fun _ _ h => h.elim id id)
    have e : (fun k => k = p ∨ (False ∨ False)) = (fun k => k = p) := by funext k; simp
    rw [e] at h3
    exact h3⟩
theorem uint83n {p n : Nat} (hn : n < 2 ^ 64) (w : World) : Fr Tryz.prog 50 #[pv p, .int .u64 n] w (blkA p [.bool true, .slice none 0 0] 156) (.tuple #[]) (WrA p (uvar n)) := by
  intro S hS hlt
  refine (uint83 (l := []) hn (Nat.zero_le _) w (fun k => k = p) (WrA.fresh hS hlt) (fun k hk => hk ▸ hlt p hS.1)).mono ?_
  rintro e w' ⟨h1, h2, S', h3, h4⟩
  refine ⟨h1, ⟨h2.os, h2.tape, h2.output, h2.size, fun k hk hn => h2.old k hk fun e => hn (e ▸ hS.1)⟩, S', h3, fun k hk => ⟨(h4 k hk).1, (h4 k hk).2.imp (fun e => by rw [show k = p from e]; exact hS.1) id⟩⟩
theorem limited86 {p : Nat} {l : List UInt8} (hl : l.length ≤ 65536) (w : World) : FrZ Tryz.prog 52 #[pv p] w (WrA p l) (fun z : Option Addr × Nat => .tuple #[.slice z.1 l.length z.2, .int .i64 0]) (fun z => SlA 5 1 z.1 l.length z.2 (bcells l)) := by
  refine enter_frZ TBok (H := [.ext 12 (WrA p l)]) one_foot Tryz.func52 rfl rfl Tryz.ntmps52 [.loc p 10 0] rfl rfl ?_
  intro S _ _
  refine Run.open (α := Option Addr × Nat) (A := []) (B := []) (fun z => [.blk 10 p [.v (.bool true), .v (.slice z.1 l.length z.2)] 156, .ext 11 (SlA 5 1 z.1 l.length z.2 (bcells l))]) (fun w S h => WrA.open (X := []) (Y := []) h) ?_
  rintro ⟨a, cap⟩
  dsimp only
  conv => whnf
  repeat' (first
 | with_reducible (first | refine r_seq (fun KS hS => ?_) | (refine hS _ _ ?_; clear hS KS) | (refine hA _ ?_; clear hA KA) | (refine hB _ ?_; clear hB KB) | refine r_block ?_)
 | ((with_reducible (first | refine r_region ?_ | refine r_cond (fun KA hA KB hB => ?_) | refine r_ret ?_ | refine r_skip ?_ | refine r_exit ?_ | refine And.intro rfl ?_ | intro b)); conv => whnf)
 | ((with_reducible refine WrapK.i64 ?_ ?_); (focus omega); conv => whnf)
 | ((with_reducible refine CallK.id ?_); (first | apply in134 | apply in135); rfl; rfl; rfl; intro A; conv => whnf)
 | ((with_reducible refine CallK.id ?_); refine CallK.fresh (fun ms w hk => clone191 (l := l) (Sees.rd (Sees.ext (by repeat (first | with_reducible apply At.head | apply At.tail))) hk) (by omega)) ?_; conv => whnf)
 | (intro z; conv => whnf)
 | ((with_reducible apply OpK.more); (focus refine sok); (conv => whnf); fail_if_success guard_target =ₛ False)
 | ((with_reducible (first | refine InAt.mk (fun K' hK => ?_) | refine AnyAt.mk (fun K' hK => ?_) | (refine hK _ ?_; clear hK K') | (refine hK _ _ ?_; clear hK K'))); conv => whnf)
 | ((refine And.intro ?_ ?_); all_goals (conv => whnf))
 | (apply r_quiet; refine mixed; kernel_rfl; kernel_rfl; kernel_rfl; conv => whnf)
 | ((first | refine if_t (by decide) ?_ | refine if_f (by decide) ?_ | refine if_decT (by omega) ?_ | refine if_decF (by omega) ?_ | refine if_ndecT (by omega) ?_ | refine if_ndecF (by omega) ?_); conv => whnf)
 | ((first | refine if_dec (fun h => ?_) (fun h => ?_) | refine if_ndec (fun h => ?_) (fun h => ?_) | refine if_cond (fun h => ?_) (fun h => ?_)); all_goals (conv => whnf))
 | with_reducible apply_assumption -symm -exfalso)
  exact FinK.frZ (i := 0) b rfl (HSub.ext (fun _ _ h => h) (HSub.drop (HSub.drop HSub.nil)))
theorem encEff62 {s t p : Nat} {k : ByteArray} {d : Int} (h : EffOk s t p) (hk : nameOk k = true) (hks : k.size ≤ 16) (hd : d ≠ 0) (hn : NumOk d) (hl : (uvar 1 ++ uvar s ++ uvar t ++ uvar p ++ uvar k.size ++ k.data.toList ++ uvar (zigN d)).length ≤ 65536) (w : World) : FrZ Tryz.prog 22 #[.agg #[.int .i64 1, .int .i64 0, .int .i64 0, .int .i64 (s : Nat), .int .i64 (t : Nat), .int .i64 (p : Nat), .string k, .int .i64 d, .int .i64 0, .string ⟨#[]⟩, .string ⟨#[]⟩, .int .i64 0, .string ⟨#[]⟩, .int .i64 0, .int .i64 0, .slice none 0 0, .int .i64 0, .int .i64 0, .int .i64 0, .int .i64 0, .bool false, .int .i64 0, .int .i64 0, .string ⟨#[]⟩]] w emp (fun z : Option Addr × Nat => .tuple #[.slice z.1 (uvar 1 ++ uvar s ++ uvar t ++ uvar p ++ uvar k.size ++ k.data.toList ++ uvar (zigN d)).length z.2, .int .i64 0]) (fun z => SlA 5 1 z.1 (uvar 1 ++ uvar s ++ uvar t ++ uvar p ++ uvar k.size ++ k.data.toList ++ uvar (zigN d)).length z.2 (bcells (uvar 1 ++ uvar s ++ uvar t ++ uvar p ++ uvar k.size ++ k.data.toList ++ uvar (zigN d)))) := by
  refine enter_frZ TBok (H := []) emp_foot Tryz.func22 rfl rfl Tryz.ntmps22 [.agg [.v (.int .i64 1), .v (.int .i64 0), .v (.int .i64 0), .v (.int .i64 (s : Nat)), .v (.int .i64 (t : Nat)), .v (.int .i64 (p : Nat)), .v (.string k), .v (.int .i64 d), .v (.int .i64 0), .v (.string ⟨#[]⟩), .v (.string ⟨#[]⟩), .v (.int .i64 0), .v (.string ⟨#[]⟩), .v (.int .i64 0), .v (.int .i64 0), .v (.slice none 0 0), .v (.int .i64 0), .v (.int .i64 0), .v (.int .i64 0), .v (.int .i64 0), .v (.bool false), .v (.int .i64 0), .v (.int .i64 0), .v (.string ⟨#[]⟩)]] rfl rfl ?_
  intro S _ _
  have h' := h
  have hn' := hn
  unfold EffOk at h'
  unfold NumOk at hn'
  have hz := zigN_lt (a := d) (by omega)
  have hkl := str_len k
  have hu0 := uvar_len64 (n := 1) (by omega)
  have hu1 := uvar_len64 (n := s) (by omega)
  have hu2 := uvar_len64 (n := t) (by omega)
  have hu3 := uvar_len64 (n := p) (by omega)
  have hu4 := uvar_len64 (n := k.size) (by omega)
  have hu5 := uvar_len64 (n := zigN d) (by omega)
  conv => whnf
  repeat' (first
 | with_reducible (first | refine r_seq (fun KS hS => ?_) | (refine hS _ _ ?_; clear hS KS) | (refine hA _ ?_; clear hA KA) | (refine hB _ ?_; clear hB KB) | refine r_block ?_)
 | ((with_reducible (first | refine r_region ?_ | refine r_cond (fun KA hA KB hB => ?_) | refine r_ret ?_ | refine r_skip ?_ | refine r_exit ?_ | refine And.intro rfl ?_ | intro b)); conv => whnf)
 | ((with_reducible refine WrapK.i64 ?_ ?_); (focus omega); conv => whnf)
 | ((with_reducible refine CallK.at 48 ?_); refine CallK.pu (fun w => checkEff102 h hk (by omega) hd hn w) ?_; conv => whnf)
 | ((with_reducible refine CallK.id ?_); (first | apply in103 | apply in143 | apply in144 | apply in145 | apply in147 | apply in148 | apply in149 | apply in216 | apply in226 | apply in82 | apply in84 | apply in211 | apply in289 | apply in221 | apply in231 | apply in299); rfl; rfl; rfl; intro A; conv => whnf)
 | (refine aq217 ?_; conv => whnf)
 | (refine ak217 ?_; conv => whnf)
 | (refine aq228 ?_; conv => whnf)
 | (refine ak228 ?_; conv => whnf)
 | (refine aq236 ?_; conv => whnf)
 | (refine ak236 ?_; conv => whnf)
 | ((with_reducible refine WrapK.id ?_); refine WrapK.eq (IntWalk.u64_in _ (by omega)) ?_; conv => whnf)
 | ((with_reducible refine CallK.id ?_); (first | refine CallK.frB At.head (fun w => uint83n (n := 1) (by omega) w) ?_ | (refine CallK.frE (by repeat (first | with_reducible apply At.head | apply At.tail)) (fun w => text85 (by omega) (by first | omega | (simp only [List.length_append, List.length_nil]; omega)) w) ?_)); conv => whnf)
 | ((with_reducible refine CallK.at 106 ?_); refine CallK.pu (fun w => zig133 (by omega) w) ?_; conv => whnf)
 | ((with_reducible refine CallK.id ?_); refine CallK.frZE (by repeat (first | with_reducible apply At.head | apply At.tail)) (fun w => limited86 hl w) ?_; conv => whnf)
 | (intro z; conv => whnf)
 | ((with_reducible refine CallK.id ?_); (first | (refine CallK.frE (by repeat (first | with_reducible apply At.head | apply At.tail)) (fun w => uint83 (n := zigN d) hz (by first | omega | (simp only [List.length_append, List.length_nil]; omega)) w) ?_) | (refine CallK.frE (by repeat (first | with_reducible apply At.head | apply At.tail)) (fun w => uint83 (n := s) (by omega) (by first | omega | (simp only [List.length_append, List.length_nil]; omega)) w) ?_) | (refine CallK.frE (by repeat (first | with_reducible apply At.head | apply At.tail)) (fun w => uint83 (n := t) (by omega) (by first | omega | (simp only [List.length_append, List.length_nil]; omega)) w) ?_) | (refine CallK.frE (by repeat (first | with_reducible apply At.head | apply At.tail)) (fun w => uint83 (n := p) (by omega) (by first | omega | (simp only [List.length_append, List.length_nil]; omega)) w) ?_)); conv => whnf)
 | ((with_reducible apply OpK.more); (focus refine sok); (conv => whnf); fail_if_success guard_target =ₛ False)
 | with_reducible (first | refine Rounds.step (fun KL hL => ?_) | (refine hL _ _ ?_; clear hL KL) | refine r_rounds 100 ?_)
 | ((with_reducible (first | refine InAt.mk (fun K' hK => ?_) | refine AnyAt.mk (fun K' hK => ?_) | (refine hK _ ?_; clear hK K') | (refine hK _ _ ?_; clear hK K'))); conv => whnf)
 | ((refine And.intro ?_ ?_); all_goals (conv => whnf))
 | (apply r_quiet; refine mixed; kernel_rfl; kernel_rfl; kernel_rfl; conv => whnf)
 | ((first | refine if_t (by decide) ?_ | refine if_f (by decide) ?_ | refine if_decT (by omega) ?_ | refine if_decF (by omega) ?_ | refine if_ndecT (by omega) ?_ | refine if_ndecF (by omega) ?_); conv => whnf)
 | ((first | refine if_dec (fun h => ?_) (fun h => ?_) | refine if_ndec (fun h => ?_) (fun h => ?_) | refine if_cond (fun h => ?_) (fun h => ?_)); all_goals (conv => whnf))
 | with_reducible apply_assumption -symm -exfalso)
  exact FinK.frZ b rfl (HSub.pick (by repeat (first | with_reducible apply At.head | apply At.tail)))
theorem encOut62 {m : Nat} {f : ByteArray} (hm : 1 ≤ (m : Int) ∧ (m : Int) ≤ 64) (hf : nameOk f = true) (hs : f.size ≤ 16) (hl : (uvar 3 ++ uvar m ++ uvar f.size ++ f.data.toList ++ uvar (ByteArray.mk #[]).size ++ (ByteArray.mk #[]).data.toList).length ≤ 65536) (w : World) : FrZ Tryz.prog 22 #[.agg #[.int .i64 3, .int .i64 0, .int .i64 0, .int .i64 0, .int .i64 0, .int .i64 0, .string ⟨#[]⟩, .int .i64 0, .int .i64 (m : Nat), .string f, .string ⟨#[]⟩, .int .i64 0, .string ⟨#[]⟩, .int .i64 0, .int .i64 0, .slice none 0 0, .int .i64 0, .int .i64 0, .int .i64 0, .int .i64 0, .bool false, .int .i64 0, .int .i64 0, .string ⟨#[]⟩]] w emp (fun z : Option Addr × Nat => .tuple #[.slice z.1 (uvar 3 ++ uvar m ++ uvar f.size ++ f.data.toList ++ uvar (ByteArray.mk #[]).size ++ (ByteArray.mk #[]).data.toList).length z.2, .int .i64 0]) (fun z => SlA 5 1 z.1 (uvar 3 ++ uvar m ++ uvar f.size ++ f.data.toList ++ uvar (ByteArray.mk #[]).size ++ (ByteArray.mk #[]).data.toList).length z.2 (bcells (uvar 3 ++ uvar m ++ uvar f.size ++ f.data.toList ++ uvar (ByteArray.mk #[]).size ++ (ByteArray.mk #[]).data.toList))) := by
  refine enter_frZ TBok (H := []) emp_foot Tryz.func22 rfl rfl Tryz.ntmps22 [.agg [.v (.int .i64 3), .v (.int .i64 0), .v (.int .i64 0), .v (.int .i64 0), .v (.int .i64 0), .v (.int .i64 0), .v (.string ⟨#[]⟩), .v (.int .i64 0), .v (.int .i64 (m : Nat)), .v (.string f), .v (.string ⟨#[]⟩), .v (.int .i64 0), .v (.string ⟨#[]⟩), .v (.int .i64 0), .v (.int .i64 0), .v (.slice none 0 0), .v (.int .i64 0), .v (.int .i64 0), .v (.int .i64 0), .v (.int .i64 0), .v (.bool false), .v (.int .i64 0), .v (.int .i64 0), .v (.string ⟨#[]⟩)]] rfl rfl ?_
  intro S _ _
  have hkl := str_len f
  have he1 : (ByteArray.mk #[]).size = 0 := rfl
  have he2 : (ByteArray.mk #[]).data.toList.length = 0 := rfl
  have hu0 := uvar_len64 (n := 3) (by omega)
  have hu1 := uvar_len64 (n := m) (by omega)
  have hu2 := uvar_len64 (n := f.size) (by omega)
  have hu3 := uvar_len64 (n := (ByteArray.mk #[]).size) (by omega)
  conv => whnf
  repeat' (first
 | with_reducible (first | refine r_seq (fun KS hS => ?_) | (refine hS _ _ ?_; clear hS KS) | (refine hA _ ?_; clear hA KA) | (refine hB _ ?_; clear hB KB) | refine r_block ?_)
 | ((with_reducible (first | refine r_region ?_ | refine r_cond (fun KA hA KB hB => ?_) | refine r_ret ?_ | refine r_skip ?_ | refine r_exit ?_ | refine And.intro rfl ?_ | intro b)); conv => whnf)
 | ((with_reducible refine WrapK.i64 ?_ ?_); (focus omega); conv => whnf)
 | ((with_reducible refine CallK.at 48 ?_); refine CallK.pu (fun w => checkOut102 hm hf (by omega) w) ?_; conv => whnf)
 | ((with_reducible refine CallK.id ?_); (first | apply in103 | apply in143 | apply in144 | apply in145 | apply in147 | apply in148 | apply in149 | apply in216 | apply in226 | apply in82 | apply in84 | apply in211 | apply in289 | apply in221 | apply in231 | apply in299); rfl; rfl; rfl; intro A; conv => whnf)
 | (refine aq217 ?_; conv => whnf)
 | (refine ak217 ?_; conv => whnf)
 | (refine aq228 ?_; conv => whnf)
 | (refine ak228 ?_; conv => whnf)
 | (refine aq236 ?_; conv => whnf)
 | (refine ak236 ?_; conv => whnf)
 | ((with_reducible refine WrapK.id ?_); refine WrapK.eq (IntWalk.u64_in _ (by omega)) ?_; conv => whnf)
 | ((with_reducible refine CallK.id ?_); (first | refine CallK.frB At.head (fun w => uint83n (n := 3) (by omega) w) ?_ | (refine CallK.frE (by repeat (first | with_reducible apply At.head | apply At.tail)) (fun w => text85 (by omega) (by first | omega | (simp only [List.length_append, List.length_nil]; omega)) w) ?_) | refine CallK.frZE (by repeat (first | with_reducible apply At.head | apply At.tail)) (fun w => limited86 hl w) ?_); conv => whnf)
 | (intro z; conv => whnf)
 | ((with_reducible refine CallK.id ?_); refine CallK.frE (by repeat (first | with_reducible apply At.head | apply At.tail)) (fun w => uint83 (n := m) (by omega) (by first | omega | (simp only [List.length_append, List.length_nil]; omega)) w) ?_; conv => whnf)
 | ((with_reducible apply OpK.more); (focus refine sok); (conv => whnf); fail_if_success guard_target =ₛ False)
 | with_reducible (first | refine Rounds.step (fun KL hL => ?_) | (refine hL _ _ ?_; clear hL KL) | refine r_rounds 100 ?_)
 | ((with_reducible (first | refine InAt.mk (fun K' hK => ?_) | refine AnyAt.mk (fun K' hK => ?_) | (refine hK _ ?_; clear hK K') | (refine hK _ _ ?_; clear hK K'))); conv => whnf)
 | ((refine And.intro ?_ ?_); all_goals (conv => whnf))
 | (apply r_quiet; refine mixed; kernel_rfl; kernel_rfl; kernel_rfl; conv => whnf)
 | ((first | refine if_t (by decide) ?_ | refine if_f (by decide) ?_ | refine if_decT (by omega) ?_ | refine if_decF (by omega) ?_ | refine if_ndecT (by omega) ?_ | refine if_ndecF (by omega) ?_); conv => whnf)
 | ((first | refine if_dec (fun h => ?_) (fun h => ?_) | refine if_ndec (fun h => ?_) (fun h => ?_) | refine if_cond (fun h => ?_) (fun h => ?_)); all_goals (conv => whnf))
 | with_reducible apply_assumption -symm -exfalso)
  exact FinK.frZ b rfl (HSub.pick (by repeat (first | with_reducible apply At.head | apply At.tail)))
theorem encIn62 {m : Nat} {f x : ByteArray} (hm : 1 ≤ (m : Int) ∧ (m : Int) ≤ 64) (hf : nameOk f = true) (hs : f.size ≤ 16) (hx : x.size ≤ 65536) (hl : (uvar 4 ++ uvar m ++ uvar f.size ++ f.data.toList ++ uvar (ByteArray.mk #[]).size ++ (ByteArray.mk #[]).data.toList ++ uvar x.size ++ x.data.toList).length ≤ 65536) (w : World) : FrZ Tryz.prog 22 #[.agg #[.int .i64 4, .int .i64 0, .int .i64 0, .int .i64 0, .int .i64 0, .int .i64 0, .string ⟨#[]⟩, .int .i64 0, .int .i64 (m : Nat), .string f, .string ⟨#[]⟩, .int .i64 0, .string ⟨#[]⟩, .int .i64 0, .int .i64 0, .slice none 0 0, .int .i64 0, .int .i64 0, .int .i64 0, .int .i64 0, .bool false, .int .i64 0, .int .i64 0, .string x]] w emp (fun z : Option Addr × Nat => .tuple #[.slice z.1 (uvar 4 ++ uvar m ++ uvar f.size ++ f.data.toList ++ uvar (ByteArray.mk #[]).size ++ (ByteArray.mk #[]).data.toList ++ uvar x.size ++ x.data.toList).length z.2, .int .i64 0]) (fun z => SlA 5 1 z.1 (uvar 4 ++ uvar m ++ uvar f.size ++ f.data.toList ++ uvar (ByteArray.mk #[]).size ++ (ByteArray.mk #[]).data.toList ++ uvar x.size ++ x.data.toList).length z.2 (bcells (uvar 4 ++ uvar m ++ uvar f.size ++ f.data.toList ++ uvar (ByteArray.mk #[]).size ++ (ByteArray.mk #[]).data.toList ++ uvar x.size ++ x.data.toList))) := by
  refine enter_frZ TBok (H := []) emp_foot Tryz.func22 rfl rfl Tryz.ntmps22 [.agg [.v (.int .i64 4), .v (.int .i64 0), .v (.int .i64 0), .v (.int .i64 0), .v (.int .i64 0), .v (.int .i64 0), .v (.string ⟨#[]⟩), .v (.int .i64 0), .v (.int .i64 (m : Nat)), .v (.string f), .v (.string ⟨#[]⟩), .v (.int .i64 0), .v (.string ⟨#[]⟩), .v (.int .i64 0), .v (.int .i64 0), .v (.slice none 0 0), .v (.int .i64 0), .v (.int .i64 0), .v (.int .i64 0), .v (.int .i64 0), .v (.bool false), .v (.int .i64 0), .v (.int .i64 0), .v (.string x)]] rfl rfl ?_
  intro S _ _
  have hkl := str_len f
  have hkx := str_len x
  have he1 : (ByteArray.mk #[]).size = 0 := rfl
  have he2 : (ByteArray.mk #[]).data.toList.length = 0 := rfl
  have hu0 := uvar_len64 (n := 4) (by omega)
  have hu1 := uvar_len64 (n := m) (by omega)
  have hu2 := uvar_len64 (n := f.size) (by omega)
  have hu3 := uvar_len64 (n := (ByteArray.mk #[]).size) (by omega)
  have hu4 := uvar_len64 (n := x.size) (by omega)
  conv => whnf
  repeat' (first
 | with_reducible (first | refine r_seq (fun KS hS => ?_) | (refine hS _ _ ?_; clear hS KS) | (refine hA _ ?_; clear hA KA) | (refine hB _ ?_; clear hB KB) | refine r_block ?_)
 | ((with_reducible (first | refine r_region ?_ | refine r_cond (fun KA hA KB hB => ?_) | refine r_ret ?_ | refine r_skip ?_ | refine r_exit ?_ | refine And.intro rfl ?_ | intro b)); conv => whnf)
 | ((with_reducible refine WrapK.i64 ?_ ?_); (focus omega); conv => whnf)
 | ((with_reducible refine CallK.at 48 ?_); refine CallK.pu (fun w => checkIn102 hm hf (by omega) hx w) ?_; conv => whnf)
 | ((with_reducible refine CallK.id ?_); (first | apply in103 | apply in143 | apply in144 | apply in145 | apply in147 | apply in148 | apply in149 | apply in216 | apply in226 | apply in82 | apply in84 | apply in211 | apply in289 | apply in221 | apply in231 | apply in299); rfl; rfl; rfl; intro A; conv => whnf)
 | (refine aq217 ?_; conv => whnf)
 | (refine ak217 ?_; conv => whnf)
 | (refine aq228 ?_; conv => whnf)
 | (refine ak228 ?_; conv => whnf)
 | (refine aq236 ?_; conv => whnf)
 | (refine ak236 ?_; conv => whnf)
 | ((with_reducible refine WrapK.id ?_); refine WrapK.eq (IntWalk.u64_in _ (by omega)) ?_; conv => whnf)
 | ((with_reducible refine CallK.id ?_); (first | refine CallK.frB At.head (fun w => uint83n (n := 4) (by omega) w) ?_ | (refine CallK.frE (by repeat (first | with_reducible apply At.head | apply At.tail)) (fun w => text85 (by omega) (by first | omega | (simp only [List.length_append, List.length_nil]; omega)) w) ?_) | refine CallK.frZE (by repeat (first | with_reducible apply At.head | apply At.tail)) (fun w => limited86 hl w) ?_); conv => whnf)
 | (intro z; conv => whnf)
 | ((with_reducible refine CallK.id ?_); refine CallK.frE (by repeat (first | with_reducible apply At.head | apply At.tail)) (fun w => uint83 (n := m) (by omega) (by first | omega | (simp only [List.length_append, List.length_nil]; omega)) w) ?_; conv => whnf)
 | ((with_reducible apply OpK.more); (focus refine sok); (conv => whnf); fail_if_success guard_target =ₛ False)
 | with_reducible (first | refine Rounds.step (fun KL hL => ?_) | (refine hL _ _ ?_; clear hL KL) | refine r_rounds 100 ?_)
 | ((with_reducible (first | refine InAt.mk (fun K' hK => ?_) | refine AnyAt.mk (fun K' hK => ?_) | (refine hK _ ?_; clear hK K') | (refine hK _ _ ?_; clear hK K'))); conv => whnf)
 | ((refine And.intro ?_ ?_); all_goals (conv => whnf))
 | (apply r_quiet; refine mixed; kernel_rfl; kernel_rfl; kernel_rfl; conv => whnf)
 | ((first | refine if_t (by decide) ?_ | refine if_f (by decide) ?_ | refine if_decT (by omega) ?_ | refine if_decF (by omega) ?_ | refine if_ndecT (by omega) ?_ | refine if_ndecF (by omega) ?_); conv => whnf)
 | ((first | refine if_dec (fun h => ?_) (fun h => ?_) | refine if_ndec (fun h => ?_) (fun h => ?_) | refine if_cond (fun h => ?_) (fun h => ?_)); all_goals (conv => whnf))
 | with_reducible apply_assumption -symm -exfalso)
  exact FinK.frZ b rfl (HSub.pick (by repeat (first | with_reducible apply At.head | apply At.tail)))
end Go.Proofs.YthmjkaljkgjicaaGreatDoor

namespace Go.Proofs.YthmjkaljkgjicaaGreatDoor
open Go Go.X
set_option maxRecDepth 100000
set_option maxHeartbeats 0
theorem numG_uvar (n : Nat) : ∀ (i a : Nat) (r : List UInt8), (i = 0 ∨ n ≠ 0) → i ≤ 9 → n * 2 ^ (7 * i) < 2 ^ 64 → numG i a (uvar n ++ r) = (a + n * 2 ^ (7 * i), i + (uvar n).length) := by
  induction n using Nat.strongRecOn with
  | _ n ih =>
    intro i a r h0 hi hn
    by_cases h : n < 128
    · rw [uvar_lt h]
      have hc : (UInt8.ofNat n).toNat = n := by simp; omega
      have h9 : i = 9 → n ≤ 1 := by
        rintro rfl
        by_cases h2 : n ≤ 1
        · exact h2
        · have := Nat.mul_le_mul_right (2 ^ (7 * 9)) (show 2 ≤ n by omega)
          exact absurd (Nat.lt_of_le_of_lt this hn) (by decide)
      show numG i a (UInt8.ofNat n :: r) = _
      rw [numG, hc, if_neg (by omega), if_pos h, Nat.mod_eq_of_lt h]
      rfl
    · rw [uvar_ge h]
      have hc : (UInt8.ofNat (n % 128 + 128)).toNat = n % 128 + 128 := by simp; omega
      have h9 : i ≠ 9 := by
        rintro rfl
        have := Nat.mul_le_mul_right (2 ^ (7 * 9)) (show 2 ≤ n by omega)
        exact absurd (Nat.lt_of_le_of_lt this hn) (by decide)
      have e1 : 2 ^ (7 * (i + 1)) = 128 * 2 ^ (7 * i) := by rw [show 7 * (i + 1) = 7 + 7 * i by omega, Nat.pow_add]
      have e2 : n / 128 * 2 ^ (7 * (i + 1)) + n % 128 * 2 ^ (7 * i) = n * 2 ^ (7 * i) := by
        rw [e1, ← Nat.mul_assoc, ← Nat.add_mul]
        congr 1
        omega
      show numG i a (UInt8.ofNat (n % 128 + 128) :: (uvar (n / 128) ++ r)) = _
      rw [numG, hc, if_neg (by omega), if_neg (by omega), ih (n / 128) (by omega) (i + 1) _ r (.inr (by omega)) (by omega) (by omega)]
      rw [show (n % 128 + 128) % 128 = n % 128 by omega, List.length_cons]
      congr 1
      · omega
      · omega
theorem numR_uvar {n : Nat} (r : List UInt8) (hn : n < 2 ^ 64) : numR (uvar n ++ r) = (n, (uvar n).length) := by
  have := numG_uvar n 0 0 r (.inl rfl) (by omega) (by simpa using hn)
  simpa [numR] using this
theorem uvar_pos (n : Nat) : (uvar n).length ≠ 0 := by
  by_cases h : n < 128
  · rw [uvar_lt h]; simp
  · rw [uvar_ge h]; simp
theorem rdU_uvar {n : Nat} (r : List UInt8) (hn : n < 2 ^ 64) : rdU (some (uvar n ++ r)) = (n, some r) := by
  simp only [rdU, numR_uvar r hn, if_neg (uvar_pos n), List.drop_left]
theorem rdS_uvar {n most : Nat} (r : List UInt8) (hn : n < 2 ^ 64) (hm : n ≤ most) : rdS most (some (uvar n ++ r)) = (n, some r) := by
  unfold rdS
  rw [rdU_uvar r hn, if_neg (by dsimp only; omega)]
theorem zagI_zigN {a : Int} (ha : -9223372036854775808 ≤ a ∧ a ≤ 9223372036854775807) : zagI (zigN a) = a := by
  unfold zagI
  rcases Int.lt_or_le a 0 with h | h
  · have := zigN_neg h
    rw [if_neg (by omega)]
    omega
  · have := zigN_pos h
    rw [if_pos (by omega)]
    omega
theorem rdI_uvar {a : Int} (r : List UInt8) (ha : -9223372036854775808 ≤ a ∧ a ≤ 9223372036854775807) : rdI (some (uvar (zigN a) ++ r)) = (a, some r) := by
  simp only [rdI, numR_uvar r (zigN_lt ha), if_neg (uvar_pos _), List.drop_left, zagI_zigN ha]
theorem rdT_uvar {s : ByteArray} (r : List UInt8) (hs : s.size ≤ 65536) : rdT (some (uvar s.size ++ s.data.toList ++ r)) = (s, some r) := by
  rw [List.append_assoc]
  have h1 := numR_uvar (s.data.toList ++ r) (show s.size < 2 ^ 64 by omega)
  have hl := str_len s
  have h2 : txtR (uvar s.size ++ (s.data.toList ++ r)) = (s, (uvar s.size).length + s.size) := by
    unfold txtR
    rw [h1]
    have hp := uvar_pos s.size
    rw [if_neg (by simp only [List.length_append]; omega)]
    simp only [List.drop_left]
    congr 1
    apply str_ext
    show List.take s.size (s.data.toList ++ r) = _
    rw [← hl, List.take_left]
  simp only [rdT, h2]
  have hp := uvar_pos s.size
  rw [if_neg (by omega), ← hl, ← List.length_append, ← List.append_assoc, List.drop_left]
theorem small114e {p : Nat} {st st' : RSt} {most n : Nat} (hb : RB st) (hm : most ≤ 9223372036854775807) (e : rdS most st = (n, st')) (w : World) : Fr Tryz.prog 69 #[pv p, .int .i64 most] w (RdA p st) (.int .i64 n) (RdA p st') := by
  have := small114 (p := p) hb hm w
  rwa [e] at this
theorem int115e {p : Nat} {st st' : RSt} {a : Int} (hb : RB st) (e : rdI st = (a, st')) (w : World) : Fr Tryz.prog 70 #[pv p] w (RdA p st) (.int .i64 a) (RdA p st') := by
  have := int115 (p := p) hb w
  rwa [e] at this
theorem text116e {p : Nat} {st st' : RSt} {s : ByteArray} (hb : RB st) (e : rdT st = (s, st')) (w : World) : Fr Tryz.prog 71 #[pv p] w (RdA p st) (.string s) (RdA p st') := by
  have := text116 (p := p) hb w
  rwa [e] at this
theorem end117ok {p : Nat} (w : World) : Fr Tryz.prog 72 #[pv p] w (RdA p (some [])) (.int .i64 0) (RdA p (some [])) := by
  refine enter_fr TBok (A' := RdA p (some [])) (H := [.ext 12 (RdA p (some []))]) one_foot Tryz.func72 rfl rfl Tryz.ntmps72 [.loc p 10 0] rfl rfl ?_
  intro S
  refine Run.open (α := Option Addr × Nat) (A := []) (B := []) (fun z => RdH p (some []) z ++ []) (fun w S h => RdA.open (X := []) (Y := []) h) ?_
  rintro ⟨a, cap⟩
  dsimp only [RdH, List.cons_append, List.nil_append]
  conv => whnf
  repeat' (first
 | with_reducible (first | refine r_seq (fun KS hS => ?_) | (refine hS _ _ ?_; clear hS KS) | (refine hA _ ?_; clear hA KA) | (refine hB _ ?_; clear hB KB) | refine r_block ?_)
 | ((with_reducible (first | refine r_region ?_ | refine r_cond (fun KA hA KB hB => ?_) | refine r_ret ?_ | refine r_skip ?_ | refine r_exit ?_ | refine And.intro rfl ?_ | intro b)); conv => whnf)
 | ((with_reducible refine WrapK.i64 ?_ ?_); (focus omega); conv => whnf)
 | ((with_reducible apply OpK.more); (focus refine sok); (conv => whnf); fail_if_success guard_target =ₛ False)
 | ((with_reducible (first | refine InAt.mk (fun K' hK => ?_) | refine AnyAt.mk (fun K' hK => ?_) | (refine hK _ ?_; clear hK K') | (refine hK _ _ ?_; clear hK K'))); conv => whnf)
 | ((refine And.intro ?_ ?_); all_goals (conv => whnf))
 | (apply r_quiet; refine mixed; kernel_rfl; kernel_rfl; kernel_rfl; conv => whnf)
 | ((first | refine if_t (by decide) ?_ | refine if_f (by decide) ?_ | refine if_decT (by omega) ?_ | refine if_decF (by omega) ?_ | refine if_ndecT (by omega) ?_ | refine if_ndecF (by omega) ?_); conv => whnf)
 | ((first | refine if_dec (fun h => ?_) (fun h => ?_) | refine if_ndec (fun h => ?_) (fun h => ?_) | refine if_cond (fun h => ?_) (fun h => ?_)); all_goals (conv => whnf))
 | with_reducible apply_assumption -symm -exfalso)
  all_goals exact FinK.fr (y := .ext 0 (RdA p (some []))) rfl (RdA.close rfl rfl) (fun _ _ h => h)
theorem RdA.closeT {p j i1 i2 : Nat} {l : List UInt8} {a cap} {R : List Blk} : HSub (.ext j (RdA p (some l)) :: R) (.blk i1 p [.v (.bool true), .v (.bool false), .v (.slice a l.length cap)] 196 :: .ext i2 (SlA 5 1 a l.length cap (bcells l)) :: R) :=
  HSub.app2 (A' := [_]) (A := [_, _]) (RdA.close rfl rfl) (HSub.refl R)
theorem RB.len {l : List UInt8} (h : l.length ≤ 1099511627776) : RB (some l) := fun l' e => by
  simp only [Option.some.injEq] at e
  subst e
  exact h
theorem decEff76 {s t p : Nat} {k : ByteArray} {d : Int} {a : Option Addr} {n cap : Nat} {w : World} (hr : RdS w 5 1 a n cap (bcells (uvar 1 ++ (uvar s ++ (uvar t ++ (uvar p ++ (uvar k.size ++ k.data.toList ++ (uvar (zigN d) ++ [])))))))) (h : EffOk s t p) (hk : nameOk k = true) (hks : k.size ≤ 16) (hd : d ≠ 0) (hn : NumOk d) (hl : n ≤ 65536) : Pu Tryz.prog 63 #[.slice a n cap] w (.tuple #[.agg #[.int .i64 1, .int .i64 0, .int .i64 0, .int .i64 (s : Nat), .int .i64 (t : Nat), .int .i64 (p : Nat), .string k, .int .i64 d, .int .i64 0, .string ⟨#[]⟩, .string ⟨#[]⟩, .int .i64 0, .string ⟨#[]⟩, .int .i64 0, .int .i64 0, .slice none 0 0, .int .i64 0, .int .i64 0, .int .i64 0, .int .i64 0, .bool false, .int .i64 0, .int .i64 0, .string ⟨#[]⟩], .int .i64 0]) := by
  have hlen := hr.len
  rw [bcells_length, Nat.mul_one] at hlen
  have hs := fun n' r H => Sees.old (c := ⟨Tryz.prog, TB, n', w, noS, r, TBok⟩) (H := H) hr.old
  have h' := h
  have hn' := hn
  unfold EffOk at h'
  unfold NumOk at hn'
  have e0 : rdS 15 (some (uvar 1 ++ (uvar s ++ (uvar t ++ (uvar p ++ (uvar k.size ++ k.data.toList ++ (uvar (zigN d) ++ []))))))) = (1, some (uvar s ++ (uvar t ++ (uvar p ++ (uvar k.size ++ k.data.toList ++ (uvar (zigN d) ++ [])))))) := rdS_uvar _ (by omega) (by omega)
  have e1 : rdS 9999 (some (uvar s ++ (uvar t ++ (uvar p ++ (uvar k.size ++ k.data.toList ++ (uvar (zigN d) ++ [])))))) = (s, some (uvar t ++ (uvar p ++ (uvar k.size ++ k.data.toList ++ (uvar (zigN d) ++ []))))) := rdS_uvar _ (by omega) (by omega)
  have e2 : rdS 8 (some (uvar t ++ (uvar p ++ (uvar k.size ++ k.data.toList ++ (uvar (zigN d) ++ []))))) = (t, some (uvar p ++ (uvar k.size ++ k.data.toList ++ (uvar (zigN d) ++ [])))) := rdS_uvar _ (by omega) (by omega)
  have e3 : rdS 3 (some (uvar p ++ (uvar k.size ++ k.data.toList ++ (uvar (zigN d) ++ [])))) = (p, some (uvar k.size ++ k.data.toList ++ (uvar (zigN d) ++ []))) := rdS_uvar _ (by omega) (by omega)
  have e4 : rdT (some (uvar k.size ++ k.data.toList ++ (uvar (zigN d) ++ []))) = (k, some (uvar (zigN d) ++ [])) := rdT_uvar _ (by omega)
  have e5 : rdI (some (uvar (zigN d) ++ [])) = (d, some ([])) := rdI_uvar _ (by omega)
  subst hlen
  have hne : (uvar 1 ++ (uvar s ++ (uvar t ++ (uvar p ++ (uvar k.size ++ k.data.toList ++ (uvar (zigN d) ++ [])))))).length ≠ 0 := by have := uvar_pos 1; simp only [List.length_append]; omega
  have hll := hl
  simp only [List.length_append, List.length_nil] at hll
  refine enter_sound TBok Tryz.func63 rfl rfl Tryz.ntmps63 [.v (.slice a (uvar 1 ++ (uvar s ++ (uvar t ++ (uvar p ++ (uvar k.size ++ k.data.toList ++ (uvar (zigN d) ++ [])))))).length cap)] (Kn.start w noS) rfl rfl ?_
  conv => whnf
  repeat' (first
 | with_reducible (first | refine r_seq (fun KS hS => ?_) | (refine hS _ _ ?_; clear hS KS) | (refine hA _ ?_; clear hA KA) | (refine hB _ ?_; clear hB KB) | refine r_block ?_)
 | ((with_reducible (first | refine r_region ?_ | refine r_cond (fun KA hA KB hB => ?_) | refine r_ret ?_ | refine r_skip ?_ | refine r_exit ?_ | refine And.intro rfl ?_ | intro b)); conv => whnf)
 | ((with_reducible refine WrapK.i64 ?_ ?_); (focus omega); conv => whnf)
 | ((with_reducible refine CallK.id ?_); (first | apply in103 | apply in143 | apply in144 | apply in145 | apply in147 | apply in148 | apply in149 | apply in216 | apply in226 | apply in113 | apply in212 | apply in222 | apply in232 | apply in290 | apply in300); rfl; rfl; rfl; intro A; conv => whnf)
 | (refine aq217 ?_; conv => whnf)
 | (refine ak217 ?_; conv => whnf)
 | (refine aq228 ?_; conv => whnf)
 | (refine ak228 ?_; conv => whnf)
 | (refine aq236 ?_; conv => whnf)
 | (refine ak236 ?_; conv => whnf)
 | ((with_reducible refine CallK.id ?_); refine CallK.fresh (fun ms w hk => clone191 (l := uvar 1 ++ (uvar s ++ (uvar t ++ (uvar p ++ (uvar k.size ++ k.data.toList ++ (uvar (zigN d) ++ [])))))) (Sees.rd (hs _ _ _) hk) (by omega)) ?_; conv => whnf)
 | (intro z; conv => whnf)
 | ((with_reducible refine CallK.id ?_); (first | (refine CallK.weak (RdA.closeT (j := 0)) (CallK.frE At.head (fun w => small114e (RB.len (by simp only [List.length_append, List.length_nil]; omega)) (by omega) e0 w) ?_)) | (refine CallK.frE (by repeat (first | with_reducible apply At.head | apply At.tail)) (fun w => small114e (RB.len (by simp only [List.length_append, List.length_nil]; omega)) (by omega) e1 w) ?_) | (refine CallK.frE (by repeat (first | with_reducible apply At.head | apply At.tail)) (fun w => small114e (RB.len (by simp only [List.length_append, List.length_nil]; omega)) (by omega) e2 w) ?_) | (refine CallK.frE (by repeat (first | with_reducible apply At.head | apply At.tail)) (fun w => small114e (RB.len (by simp only [List.length_append, List.length_nil]; omega)) (by omega) e3 w) ?_) | (refine CallK.frE (by repeat (first | with_reducible apply At.head | apply At.tail)) (fun w => text116e (RB.len (by simp only [List.length_append, List.length_nil]; omega)) e4 w) ?_) | (refine CallK.frE (by repeat (first | with_reducible apply At.head | apply At.tail)) (fun w => int115e (RB.len (by simp only [List.length_append, List.length_nil]; omega)) e5 w) ?_) | refine CallK.frE (by repeat (first | with_reducible apply At.head | apply At.tail)) (fun w => end117ok w) ?_); conv => whnf)
 | ((with_reducible refine CallK.at 48 ?_); refine CallK.pu (fun w => checkEff102 h hk (by omega) hd hn w) ?_; conv => whnf)
 | ((with_reducible apply OpK.more); (focus refine sok); (conv => whnf); fail_if_success guard_target =ₛ False)
 | with_reducible (first | refine Rounds.step (fun KL hL => ?_) | (refine hL _ _ ?_; clear hL KL) | refine r_rounds 100 ?_)
 | ((with_reducible (first | refine InAt.mk (fun K' hK => ?_) | refine AnyAt.mk (fun K' hK => ?_) | (refine hK _ ?_; clear hK K') | (refine hK _ _ ?_; clear hK K'))); conv => whnf)
 | ((refine And.intro ?_ ?_); all_goals (conv => whnf))
 | (apply r_quiet; refine mixed; kernel_rfl; kernel_rfl; kernel_rfl; conv => whnf)
 | ((first | refine if_t (by decide) ?_ | refine if_f (by decide) ?_ | refine if_decT (by omega) ?_ | refine if_decF (by omega) ?_ | refine if_ndecT (by omega) ?_ | refine if_ndecF (by omega) ?_); conv => whnf)
 | ((first | refine if_dec (fun h => ?_) (fun h => ?_) | refine if_ndec (fun h => ?_) (fun h => ?_) | refine if_cond (fun h => ?_) (fun h => ?_)); all_goals (conv => whnf))
 | with_reducible apply_assumption -symm -exfalso)
  all_goals exact FinK.pu rfl
theorem decOut76 {m : Nat} {f : ByteArray} {a : Option Addr} {n cap : Nat} {w : World} (hr : RdS w 5 1 a n cap (bcells (uvar 3 ++ (uvar m ++ (uvar f.size ++ f.data.toList ++ (uvar (ByteArray.mk #[]).size ++ (ByteArray.mk #[]).data.toList ++ [])))))) (hm : 1 ≤ (m : Int) ∧ (m : Int) ≤ 64) (hf : nameOk f = true) (hs : f.size ≤ 16) (hl : n ≤ 65536) : Pu Tryz.prog 63 #[.slice a n cap] w (.tuple #[.agg #[.int .i64 3, .int .i64 0, .int .i64 0, .int .i64 0, .int .i64 0, .int .i64 0, .string ⟨#[]⟩, .int .i64 0, .int .i64 (m : Nat), .string f, .string ⟨#[]⟩, .int .i64 0, .string ⟨#[]⟩, .int .i64 0, .int .i64 0, .slice none 0 0, .int .i64 0, .int .i64 0, .int .i64 0, .int .i64 0, .bool false, .int .i64 0, .int .i64 0, .string ⟨#[]⟩], .int .i64 0]) := by
  have hlen := hr.len
  rw [bcells_length, Nat.mul_one] at hlen
  have hs := fun n' r H => Sees.old (c := ⟨Tryz.prog, TB, n', w, noS, r, TBok⟩) (H := H) hr.old
  have he1 : (ByteArray.mk #[]).size = 0 := rfl
  have e0 : rdS 15 (some (uvar 3 ++ (uvar m ++ (uvar f.size ++ f.data.toList ++ (uvar (ByteArray.mk #[]).size ++ (ByteArray.mk #[]).data.toList ++ []))))) = (3, some (uvar m ++ (uvar f.size ++ f.data.toList ++ (uvar (ByteArray.mk #[]).size ++ (ByteArray.mk #[]).data.toList ++ [])))) := rdS_uvar _ (by omega) (by omega)
  have e1 : rdS 64 (some (uvar m ++ (uvar f.size ++ f.data.toList ++ (uvar (ByteArray.mk #[]).size ++ (ByteArray.mk #[]).data.toList ++ [])))) = (m, some (uvar f.size ++ f.data.toList ++ (uvar (ByteArray.mk #[]).size ++ (ByteArray.mk #[]).data.toList ++ []))) := rdS_uvar _ (by omega) (by omega)
  have e2 : rdT (some (uvar f.size ++ f.data.toList ++ (uvar (ByteArray.mk #[]).size ++ (ByteArray.mk #[]).data.toList ++ []))) = (f, some (uvar (ByteArray.mk #[]).size ++ (ByteArray.mk #[]).data.toList ++ [])) := rdT_uvar _ (by omega)
  have e3 : rdT (some (uvar (ByteArray.mk #[]).size ++ (ByteArray.mk #[]).data.toList ++ [])) = ((ByteArray.mk #[]), some ([])) := rdT_uvar _ (by omega)
  subst hlen
  have hne : (uvar 3 ++ (uvar m ++ (uvar f.size ++ f.data.toList ++ (uvar (ByteArray.mk #[]).size ++ (ByteArray.mk #[]).data.toList ++ [])))).length ≠ 0 := by have := uvar_pos 3; simp only [List.length_append]; omega
  have hll := hl
  simp only [List.length_append, List.length_nil] at hll
  refine enter_sound TBok Tryz.func63 rfl rfl Tryz.ntmps63 [.v (.slice a (uvar 3 ++ (uvar m ++ (uvar f.size ++ f.data.toList ++ (uvar (ByteArray.mk #[]).size ++ (ByteArray.mk #[]).data.toList ++ [])))).length cap)] (Kn.start w noS) rfl rfl ?_
  conv => whnf
  repeat' (first
 | with_reducible (first | refine r_seq (fun KS hS => ?_) | (refine hS _ _ ?_; clear hS KS) | (refine hA _ ?_; clear hA KA) | (refine hB _ ?_; clear hB KB) | refine r_block ?_)
 | ((with_reducible (first | refine r_region ?_ | refine r_cond (fun KA hA KB hB => ?_) | refine r_ret ?_ | refine r_skip ?_ | refine r_exit ?_ | refine And.intro rfl ?_ | intro b)); conv => whnf)
 | ((with_reducible refine WrapK.i64 ?_ ?_); (focus omega); conv => whnf)
 | ((with_reducible refine CallK.id ?_); (first | apply in103 | apply in143 | apply in144 | apply in145 | apply in147 | apply in148 | apply in149 | apply in216 | apply in226 | apply in113 | apply in212 | apply in222 | apply in232 | apply in290 | apply in300); rfl; rfl; rfl; intro A; conv => whnf)
 | (refine aq217 ?_; conv => whnf)
 | (refine ak217 ?_; conv => whnf)
 | (refine aq228 ?_; conv => whnf)
 | (refine ak228 ?_; conv => whnf)
 | (refine aq236 ?_; conv => whnf)
 | (refine ak236 ?_; conv => whnf)
 | ((with_reducible refine CallK.id ?_); refine CallK.fresh (fun ms w hk => clone191 (l := uvar 3 ++ (uvar m ++ (uvar f.size ++ f.data.toList ++ (uvar (ByteArray.mk #[]).size ++ (ByteArray.mk #[]).data.toList ++ [])))) (Sees.rd (hs _ _ _) hk) (by omega)) ?_; conv => whnf)
 | (intro z; conv => whnf)
 | ((with_reducible refine CallK.id ?_); (first | (refine CallK.weak (RdA.closeT (j := 0)) (CallK.frE At.head (fun w => small114e (RB.len (by simp only [List.length_append, List.length_nil]; omega)) (by omega) e0 w) ?_)) | (refine CallK.frE (by repeat (first | with_reducible apply At.head | apply At.tail)) (fun w => small114e (RB.len (by simp only [List.length_append, List.length_nil]; omega)) (by omega) e1 w) ?_) | (refine CallK.frE (by repeat (first | with_reducible apply At.head | apply At.tail)) (fun w => text116e (RB.len (by simp only [List.length_append, List.length_nil]; omega)) e2 w) ?_) | (refine CallK.frE (by repeat (first | with_reducible apply At.head | apply At.tail)) (fun w => text116e (RB.len (by simp only [List.length_append, List.length_nil]; omega)) e3 w) ?_) | refine CallK.frE (by repeat (first | with_reducible apply At.head | apply At.tail)) (fun w => end117ok w) ?_); conv => whnf)
 | ((with_reducible refine CallK.at 48 ?_); refine CallK.pu (fun w => checkOut102 hm hf (by omega) w) ?_; conv => whnf)
 | (apply r_any; refine mixed; kernel_rfl; kernel_rfl; conv => whnf)
 | ((with_reducible apply OpK.more); (focus refine sok); (conv => whnf); fail_if_success guard_target =ₛ False)
 | with_reducible (first | refine Rounds.step (fun KL hL => ?_) | (refine hL _ _ ?_; clear hL KL) | refine r_rounds 100 ?_)
 | ((with_reducible (first | refine InAt.mk (fun K' hK => ?_) | refine AnyAt.mk (fun K' hK => ?_) | (refine hK _ ?_; clear hK K') | (refine hK _ _ ?_; clear hK K'))); conv => whnf)
 | ((refine And.intro ?_ ?_); all_goals (conv => whnf))
 | (apply r_quiet; refine mixed; kernel_rfl; kernel_rfl; kernel_rfl; conv => whnf)
 | ((first | refine if_t (by decide) ?_ | refine if_f (by decide) ?_ | refine if_decT (by omega) ?_ | refine if_decF (by omega) ?_ | refine if_ndecT (by omega) ?_ | refine if_ndecF (by omega) ?_); conv => whnf)
 | ((first | refine if_dec (fun h => ?_) (fun h => ?_) | refine if_ndec (fun h => ?_) (fun h => ?_) | refine if_cond (fun h => ?_) (fun h => ?_)); all_goals (conv => whnf))
 | with_reducible apply_assumption -symm -exfalso)
  all_goals exact FinK.pu rfl
theorem decIn76 {m : Nat} {f x : ByteArray} {a : Option Addr} {n cap : Nat} {w : World} (hr : RdS w 5 1 a n cap (bcells (uvar 4 ++ (uvar m ++ (uvar f.size ++ f.data.toList ++ (uvar (ByteArray.mk #[]).size ++ (ByteArray.mk #[]).data.toList ++ (uvar x.size ++ x.data.toList ++ []))))))) (hm : 1 ≤ (m : Int) ∧ (m : Int) ≤ 64) (hf : nameOk f = true) (hs : f.size ≤ 16) (hx : x.size ≤ 65536) (hl : n ≤ 65536) : Pu Tryz.prog 63 #[.slice a n cap] w (.tuple #[.agg #[.int .i64 4, .int .i64 0, .int .i64 0, .int .i64 0, .int .i64 0, .int .i64 0, .string ⟨#[]⟩, .int .i64 0, .int .i64 (m : Nat), .string f, .string ⟨#[]⟩, .int .i64 0, .string ⟨#[]⟩, .int .i64 0, .int .i64 0, .slice none 0 0, .int .i64 0, .int .i64 0, .int .i64 0, .int .i64 0, .bool false, .int .i64 0, .int .i64 0, .string x], .int .i64 0]) := by
  have hlen := hr.len
  rw [bcells_length, Nat.mul_one] at hlen
  have hs := fun n' r H => Sees.old (c := ⟨Tryz.prog, TB, n', w, noS, r, TBok⟩) (H := H) hr.old
  have he1 : (ByteArray.mk #[]).size = 0 := rfl
  have e0 : rdS 15 (some (uvar 4 ++ (uvar m ++ (uvar f.size ++ f.data.toList ++ (uvar (ByteArray.mk #[]).size ++ (ByteArray.mk #[]).data.toList ++ (uvar x.size ++ x.data.toList ++ [])))))) = (4, some (uvar m ++ (uvar f.size ++ f.data.toList ++ (uvar (ByteArray.mk #[]).size ++ (ByteArray.mk #[]).data.toList ++ (uvar x.size ++ x.data.toList ++ []))))) := rdS_uvar _ (by omega) (by omega)
  have e1 : rdS 64 (some (uvar m ++ (uvar f.size ++ f.data.toList ++ (uvar (ByteArray.mk #[]).size ++ (ByteArray.mk #[]).data.toList ++ (uvar x.size ++ x.data.toList ++ []))))) = (m, some (uvar f.size ++ f.data.toList ++ (uvar (ByteArray.mk #[]).size ++ (ByteArray.mk #[]).data.toList ++ (uvar x.size ++ x.data.toList ++ [])))) := rdS_uvar _ (by omega) (by omega)
  have e2 : rdT (some (uvar f.size ++ f.data.toList ++ (uvar (ByteArray.mk #[]).size ++ (ByteArray.mk #[]).data.toList ++ (uvar x.size ++ x.data.toList ++ [])))) = (f, some (uvar (ByteArray.mk #[]).size ++ (ByteArray.mk #[]).data.toList ++ (uvar x.size ++ x.data.toList ++ []))) := rdT_uvar _ (by omega)
  have e3 : rdT (some (uvar (ByteArray.mk #[]).size ++ (ByteArray.mk #[]).data.toList ++ (uvar x.size ++ x.data.toList ++ []))) = ((ByteArray.mk #[]), some (uvar x.size ++ x.data.toList ++ [])) := rdT_uvar _ (by omega)
  have e4 : rdT (some (uvar x.size ++ x.data.toList ++ [])) = (x, some ([])) := rdT_uvar _ (by omega)
  subst hlen
  have hne : (uvar 4 ++ (uvar m ++ (uvar f.size ++ f.data.toList ++ (uvar (ByteArray.mk #[]).size ++ (ByteArray.mk #[]).data.toList ++ (uvar x.size ++ x.data.toList ++ []))))).length ≠ 0 := by have := uvar_pos 4; simp only [List.length_append]; omega
  have hll := hl
  simp only [List.length_append, List.length_nil] at hll
  refine enter_sound TBok Tryz.func63 rfl rfl Tryz.ntmps63 [.v (.slice a (uvar 4 ++ (uvar m ++ (uvar f.size ++ f.data.toList ++ (uvar (ByteArray.mk #[]).size ++ (ByteArray.mk #[]).data.toList ++ (uvar x.size ++ x.data.toList ++ []))))).length cap)] (Kn.start w noS) rfl rfl ?_
  conv => whnf
  repeat' (first
 | with_reducible (first | refine r_seq (fun KS hS => ?_) | (refine hS _ _ ?_; clear hS KS) | (refine hA _ ?_; clear hA KA) | (refine hB _ ?_; clear hB KB) | refine r_block ?_)
 | ((with_reducible (first | refine r_region ?_ | refine r_cond (fun KA hA KB hB => ?_) | refine r_ret ?_ | refine r_skip ?_ | refine r_exit ?_ | refine And.intro rfl ?_ | intro b)); conv => whnf)
 | ((with_reducible refine WrapK.i64 ?_ ?_); (focus omega); conv => whnf)
 | ((with_reducible refine CallK.id ?_); (first | apply in103 | apply in143 | apply in144 | apply in145 | apply in147 | apply in148 | apply in149 | apply in216 | apply in226 | apply in113 | apply in212 | apply in222 | apply in232 | apply in290 | apply in300); rfl; rfl; rfl; intro A; conv => whnf)
 | (refine aq217 ?_; conv => whnf)
 | (refine ak217 ?_; conv => whnf)
 | (refine aq228 ?_; conv => whnf)
 | (refine ak228 ?_; conv => whnf)
 | (refine aq236 ?_; conv => whnf)
 | (refine ak236 ?_; conv => whnf)
 | ((with_reducible refine CallK.id ?_); refine CallK.fresh (fun ms w hk => clone191 (l := uvar 4 ++ (uvar m ++ (uvar f.size ++ f.data.toList ++ (uvar (ByteArray.mk #[]).size ++ (ByteArray.mk #[]).data.toList ++ (uvar x.size ++ x.data.toList ++ []))))) (Sees.rd (hs _ _ _) hk) (by omega)) ?_; conv => whnf)
 | (intro z; conv => whnf)
 | ((with_reducible refine CallK.id ?_); (first | (refine CallK.weak (RdA.closeT (j := 0)) (CallK.frE At.head (fun w => small114e (RB.len (by simp only [List.length_append, List.length_nil]; omega)) (by omega) e0 w) ?_)) | (refine CallK.frE (by repeat (first | with_reducible apply At.head | apply At.tail)) (fun w => small114e (RB.len (by simp only [List.length_append, List.length_nil]; omega)) (by omega) e1 w) ?_) | (refine CallK.frE (by repeat (first | with_reducible apply At.head | apply At.tail)) (fun w => text116e (RB.len (by simp only [List.length_append, List.length_nil]; omega)) e2 w) ?_) | (refine CallK.frE (by repeat (first | with_reducible apply At.head | apply At.tail)) (fun w => text116e (RB.len (by simp only [List.length_append, List.length_nil]; omega)) e3 w) ?_) | (refine CallK.frE (by repeat (first | with_reducible apply At.head | apply At.tail)) (fun w => text116e (RB.len (by simp only [List.length_append, List.length_nil]; omega)) e4 w) ?_) | refine CallK.frE (by repeat (first | with_reducible apply At.head | apply At.tail)) (fun w => end117ok w) ?_); conv => whnf)
 | ((with_reducible refine CallK.at 48 ?_); refine CallK.pu (fun w => checkIn102 hm hf (by omega) hx w) ?_; conv => whnf)
 | (apply r_any; refine mixed; kernel_rfl; kernel_rfl; conv => whnf)
 | ((with_reducible apply OpK.more); (focus refine sok); (conv => whnf); fail_if_success guard_target =ₛ False)
 | with_reducible (first | refine Rounds.step (fun KL hL => ?_) | (refine hL _ _ ?_; clear hL KL) | refine r_rounds 100 ?_)
 | ((with_reducible (first | refine InAt.mk (fun K' hK => ?_) | refine AnyAt.mk (fun K' hK => ?_) | (refine hK _ ?_; clear hK K') | (refine hK _ _ ?_; clear hK K'))); conv => whnf)
 | ((refine And.intro ?_ ?_); all_goals (conv => whnf))
 | (apply r_quiet; refine mixed; kernel_rfl; kernel_rfl; kernel_rfl; conv => whnf)
 | ((first | refine if_t (by decide) ?_ | refine if_f (by decide) ?_ | refine if_decT (by omega) ?_ | refine if_decF (by omega) ?_ | refine if_ndecT (by omega) ?_ | refine if_ndecF (by omega) ?_); conv => whnf)
 | ((first | refine if_dec (fun h => ?_) (fun h => ?_) | refine if_ndec (fun h => ?_) (fun h => ?_) | refine if_cond (fun h => ?_) (fun h => ?_)); all_goals (conv => whnf))
 | with_reducible apply_assumption -symm -exfalso)
  all_goals exact FinK.pu rfl
end Go.Proofs.YthmjkaljkgjicaaGreatDoor

namespace Go.Proofs.YthmjkaljkgjicaaGreatDoor
open Go Go.X
set_option maxRecDepth 100000
set_option maxHeartbeats 0
theorem checkReply81 {e d : Int} {x : ByteArray} (he : 0 ≤ e ∧ e ≤ 18) (hn : NumOk d) (hx : x.size ≤ 65536) (w : World) : Pu Tryz.prog 64 #[.agg #[.int .i64 e, .int .i64 d, .string x]] w (.int .i64 0) := by
  refine enter_sound TBok Tryz.func64 rfl rfl Tryz.ntmps64 [.agg [.v (.int .i64 e), .v (.int .i64 d), .v (.string x)]] (Kn.start w noS) rfl rfl ?_
  conv => whnf
  repeat' (first
 | with_reducible (first | refine r_seq (fun KS hS => ?_) | (refine hS _ _ ?_; clear hS KS) | (refine hA _ ?_; clear hA KA) | (refine hB _ ?_; clear hB KB) | refine r_block ?_)
 | ((with_reducible (first | refine r_region ?_ | refine r_cond (fun KA hA KB hB => ?_) | refine r_ret ?_ | refine r_skip ?_ | refine r_exit ?_ | refine And.intro rfl ?_ | intro b)); conv => whnf)
 | ((with_reducible refine WrapK.i64 ?_ ?_); (focus omega); conv => whnf)
 | ((with_reducible refine CallK.at 105 ?_); refine CallK.pu (fun w => numOk131 hn w) ?_; conv => whnf)
 | ((with_reducible apply OpK.more); (focus refine sok); (conv => whnf); fail_if_success guard_target =ₛ False)
 | ((with_reducible (first | refine InAt.mk (fun K' hK => ?_) | refine AnyAt.mk (fun K' hK => ?_) | (refine hK _ ?_; clear hK K') | (refine hK _ _ ?_; clear hK K'))); conv => whnf)
 | ((refine And.intro ?_ ?_); all_goals (conv => whnf))
 | (apply r_quiet; refine mixed; kernel_rfl; kernel_rfl; kernel_rfl; conv => whnf)
 | ((first | refine if_t (by decide) ?_ | refine if_f (by decide) ?_ | refine if_decT (by omega) ?_ | refine if_decF (by omega) ?_ | refine if_ndecT (by omega) ?_ | refine if_ndecF (by omega) ?_); conv => whnf)
 | ((first | refine if_dec (fun h => ?_) (fun h => ?_) | refine if_ndec (fun h => ?_) (fun h => ?_) | refine if_cond (fun h => ?_) (fun h => ?_)); all_goals (conv => whnf))
 | with_reducible apply_assumption -symm -exfalso)
  exact FinK.pu rfl
theorem reply46 {e : Nat} {d : Int} {x : ByteArray} (he : 0 ≤ (e : Int) ∧ (e : Int) ≤ 18) (hn : NumOk d) (hx : x.size ≤ 65536) (hl : (uvar e ++ uvar (zigN d) ++ uvar x.size ++ x.data.toList).length ≤ 65536) (w : World) :
    FrZ Tryz.prog 38 #[.agg #[.int .i64 (e : Nat), .int .i64 d, .string x]] w emp (fun z : Option Addr × Nat => .tuple #[.slice z.1 (uvar e ++ uvar (zigN d) ++ uvar x.size ++ x.data.toList).length z.2, .int .i64 0]) (fun z => SlA 5 1 z.1 (uvar e ++ uvar (zigN d) ++ uvar x.size ++ x.data.toList).length z.2 (bcells (uvar e ++ uvar (zigN d) ++ uvar x.size ++ x.data.toList))) := by
  refine enter_frZ TBok (H := []) emp_foot Tryz.func38 rfl rfl Tryz.ntmps38 [.agg [.v (.int .i64 (e : Nat)), .v (.int .i64 d), .v (.string x)]] rfl rfl ?_
  intro S _ _
  have hn' := hn
  unfold NumOk at hn'
  have hz := zigN_lt (a := d) (by omega)
  have hkl := str_len x
  have hu0 := uvar_len64 (n := e) (by omega)
  have hu1 := uvar_len64 (n := zigN d) hz
  have hu2 := uvar_len64 (n := x.size) (by omega)
  conv => whnf
  repeat' (first
 | with_reducible (first | refine r_seq (fun KS hS => ?_) | (refine hS _ _ ?_; clear hS KS) | (refine hA _ ?_; clear hA KA) | (refine hB _ ?_; clear hB KB) | refine r_block ?_)
 | ((with_reducible (first | refine r_region ?_ | refine r_cond (fun KA hA KB hB => ?_) | refine r_ret ?_ | refine r_skip ?_ | refine r_exit ?_ | refine And.intro rfl ?_ | intro b)); conv => whnf)
 | ((with_reducible refine WrapK.i64 ?_ ?_); (focus omega); conv => whnf)
 | ((with_reducible refine CallK.id ?_); (first | apply in82 | apply in84); rfl; rfl; rfl; intro A; conv => whnf)
 | ((with_reducible refine CallK.at 64 ?_); refine CallK.pu (fun w => checkReply81 he hn hx w) ?_; conv => whnf)
 | ((with_reducible refine WrapK.id ?_); refine WrapK.eq (IntWalk.u64_in _ (by omega)) ?_; conv => whnf)
 | ((with_reducible refine CallK.id ?_); (first | refine CallK.frB At.head (fun w => uint83n (n := e) (by omega) w) ?_ | (refine CallK.frE (by repeat (first | with_reducible apply At.head | apply At.tail)) (fun w => text85 (by omega) (by first | omega | (simp only [List.length_append, List.length_nil]; omega)) w) ?_)); conv => whnf)
 | ((with_reducible refine CallK.at 106 ?_); refine CallK.pu (fun w => zig133 (by omega) w) ?_; conv => whnf)
 | ((with_reducible refine CallK.id ?_); refine CallK.frZE (by repeat (first | with_reducible apply At.head | apply At.tail)) (fun w => limited86 hl w) ?_; conv => whnf)
 | (intro z; conv => whnf)
 | ((with_reducible refine CallK.id ?_); refine CallK.frE (by repeat (first | with_reducible apply At.head | apply At.tail)) (fun w => uint83 (n := zigN d) hz (by omega) w) ?_; conv => whnf)
 | ((with_reducible apply OpK.more); (focus refine sok); (conv => whnf); fail_if_success guard_target =ₛ False)
 | ((with_reducible (first | refine InAt.mk (fun K' hK => ?_) | refine AnyAt.mk (fun K' hK => ?_) | (refine hK _ ?_; clear hK K') | (refine hK _ _ ?_; clear hK K'))); conv => whnf)
 | ((refine And.intro ?_ ?_); all_goals (conv => whnf))
 | (apply r_quiet; refine mixed; kernel_rfl; kernel_rfl; kernel_rfl; conv => whnf)
 | ((first | refine if_t (by decide) ?_ | refine if_f (by decide) ?_ | refine if_decT (by omega) ?_ | refine if_decF (by omega) ?_ | refine if_ndecT (by omega) ?_ | refine if_ndecF (by omega) ?_); conv => whnf)
 | ((first | refine if_dec (fun h => ?_) (fun h => ?_) | refine if_ndec (fun h => ?_) (fun h => ?_) | refine if_cond (fun h => ?_) (fun h => ?_)); all_goals (conv => whnf))
 | with_reducible apply_assumption -symm -exfalso)
  exact FinK.frZ b rfl (HSub.pick (by repeat (first | with_reducible apply At.head | apply At.tail)))
theorem parse71 {e : Nat} {d : Int} {x : ByteArray} {a : Option Addr} {n cap : Nat} {w : World} (hr : RdS w 5 1 a n cap (bcells (uvar e ++ (uvar (zigN d) ++ (uvar x.size ++ x.data.toList ++ []))))) (he : 0 ≤ (e : Int) ∧ (e : Int) ≤ 18) (hn : NumOk d) (hx : x.size ≤ 65536) (hl : n ≤ 65536) :
    Pu Tryz.prog 42 #[.slice a n cap] w (.tuple #[.agg #[.int .i64 (e : Nat), .int .i64 d, .string x], .int .i64 0]) := by
  have hlen := hr.len
  rw [bcells_length, Nat.mul_one] at hlen
  have hs := fun n' r H => Sees.old (c := ⟨Tryz.prog, TB, n', w, noS, r, TBok⟩) (H := H) hr.old
  have hn' := hn
  unfold NumOk at hn'
  have e0 : rdS 18 (some (uvar e ++ (uvar (zigN d) ++ (uvar x.size ++ x.data.toList ++ [])))) = (e, some (uvar (zigN d) ++ (uvar x.size ++ x.data.toList ++ []))) := rdS_uvar _ (by omega) (by omega)
  have e1 : rdI (some (uvar (zigN d) ++ (uvar x.size ++ x.data.toList ++ []))) = (d, some (uvar x.size ++ x.data.toList ++ [])) := rdI_uvar _ (by omega)
  have e2 : rdT (some (uvar x.size ++ x.data.toList ++ [])) = (x, some []) := rdT_uvar _ (by omega)
  subst hlen
  have hll := hl
  simp only [List.length_append, List.length_nil] at hll
  refine enter_sound TBok Tryz.func42 rfl rfl Tryz.ntmps42 [.v (.slice a (uvar e ++ (uvar (zigN d) ++ (uvar x.size ++ x.data.toList ++ []))).length cap)] (Kn.start w noS) rfl rfl ?_
  conv => whnf
  repeat' (first
 | with_reducible (first | refine r_seq (fun KS hS => ?_) | (refine hS _ _ ?_; clear hS KS) | (refine hA _ ?_; clear hA KA) | (refine hB _ ?_; clear hB KB) | refine r_block ?_)
 | ((with_reducible (first | refine r_region ?_ | refine r_cond (fun KA hA KB hB => ?_) | refine r_ret ?_ | refine r_skip ?_ | refine r_exit ?_ | refine And.intro rfl ?_ | intro b)); conv => whnf)
 | ((with_reducible refine WrapK.i64 ?_ ?_); (focus omega); conv => whnf)
 | (apply in113; rfl; rfl; rfl; intro A; conv => whnf)
 | ((with_reducible refine CallK.id ?_); refine CallK.fresh (fun ms w hk => clone191 (l := uvar e ++ (uvar (zigN d) ++ (uvar x.size ++ x.data.toList ++ []))) (Sees.rd (hs _ _ _) hk) (by omega)) ?_; conv => whnf)
 | (intro z; conv => whnf)
 | ((with_reducible refine CallK.id ?_); (first | (refine CallK.weak (RdA.closeT (j := 0)) (CallK.frE At.head (fun w => small114e (RB.len (by simp only [List.length_append, List.length_nil]; omega)) (by omega) e0 w) ?_)) | (refine CallK.frE (by repeat (first | with_reducible apply At.head | apply At.tail)) (fun w => int115e (RB.len (by simp only [List.length_append, List.length_nil]; omega)) e1 w) ?_) | (refine CallK.frE (by repeat (first | with_reducible apply At.head | apply At.tail)) (fun w => text116e (RB.len (by simp only [List.length_append, List.length_nil]; omega)) e2 w) ?_) | refine CallK.frE (by repeat (first | with_reducible apply At.head | apply At.tail)) (fun w => end117ok w) ?_); conv => whnf)
 | ((with_reducible refine CallK.at 64 ?_); refine CallK.pu (fun w => checkReply81 he hn hx w) ?_; conv => whnf)
 | ((with_reducible apply OpK.more); (focus refine sok); (conv => whnf); fail_if_success guard_target =ₛ False)
 | ((with_reducible (first | refine InAt.mk (fun K' hK => ?_) | refine AnyAt.mk (fun K' hK => ?_) | (refine hK _ ?_; clear hK K') | (refine hK _ _ ?_; clear hK K'))); conv => whnf)
 | ((refine And.intro ?_ ?_); all_goals (conv => whnf))
 | (apply r_quiet; refine mixed; kernel_rfl; kernel_rfl; kernel_rfl; conv => whnf)
 | ((first | refine if_t (by decide) ?_ | refine if_f (by decide) ?_ | refine if_decT (by omega) ?_ | refine if_decF (by omega) ?_ | refine if_ndecT (by omega) ?_ | refine if_ndecF (by omega) ?_); conv => whnf)
 | ((first | refine if_dec (fun h => ?_) (fun h => ?_) | refine if_ndec (fun h => ?_) (fun h => ?_) | refine if_cond (fun h => ?_) (fun h => ?_)); all_goals (conv => whnf))
 | with_reducible apply_assumption -symm -exfalso)
  exact FinK.pu rfl
end Go.Proofs.YthmjkaljkgjicaaGreatDoor

namespace Go.Proofs.YthmjkaljkgjicaaGreatDoor
open Go Go.X
set_option maxRecDepth 100000
theorem in65 : InSt 67 Tryz.f67 96 := InSt.mk' Tryz.func67 rfl Tryz.ntmps67
theorem in108 : InSt 108 Tryz.f108 7 := InSt.mk' Tryz.func108 rfl Tryz.ntmps108
theorem in158 : InSt 190 Tryz.f190 8 := InSt.mk' Tryz.func190 rfl Tryz.ntmps190
theorem in160 : InSt 192 Tryz.f192 7 := InSt.mk' Tryz.func192 rfl Tryz.ntmps192
theorem in168 : InSt 200 Tryz.f200 6 := InSt.mk' Tryz.func200 rfl Tryz.ntmps200
theorem in174 : InSt 205 Tryz.f205 17 := InSt.mk' Tryz.func205 rfl Tryz.ntmps205
theorem in175 : InSt 206 Tryz.f206 6 := InSt.mk' Tryz.func206 rfl Tryz.ntmps206
theorem in179 : InSt 210 Tryz.f210 5 := InSt.mk' Tryz.func210 rfl Tryz.ntmps210
theorem in180 : InSt 211 Tryz.f211 6 := InSt.mk' Tryz.func211 rfl Tryz.ntmps211
theorem in185 : InSt 216 Tryz.f216 46 := InSt.mk' Tryz.func216 rfl Tryz.ntmps216
theorem in186 : InSt 217 Tryz.f217 7 := InSt.mk' Tryz.func217 rfl Tryz.ntmps217
theorem in109 : InSt 109 Tryz.f109 9 := InSt.mk' Tryz.func109 rfl Tryz.ntmps109
theorem in190 : InSt 221 Tryz.f221 19 := InSt.mk' Tryz.func221 rfl Tryz.ntmps221
theorem in111 : InSt 111 Tryz.f111 46 := InSt.mk' Tryz.func111 rfl Tryz.ntmps111
theorem in176 : InSt 207 Tryz.f207 9 := InSt.mk' Tryz.func207 rfl Tryz.ntmps207
theorem in181 : InSt 212 Tryz.f212 8 := InSt.mk' Tryz.func212 rfl Tryz.ntmps212
theorem in167 : InSt 199 Tryz.f199 15 := InSt.mk' Tryz.func199 rfl Tryz.ntmps199
end Go.Proofs.YthmjkaljkgjicaaGreatDoor

namespace Go.X
open Go
theorem OpK.aIx {c : Cx} {o : Oper} {E : Env} {H : List Blk} {nx : K1} {t e len : Nat} {x ix : Operand} {ti j : TI} (ho : o.op = .index t x ix) {cs : List SV} {q : IntKind} {z : Int} (hx : opd E x = some (.agg cs)) (hi : opd E ix = some (.v (.int q z)))
    (hti : c.T.get t = some ti) (hd : ti.desc = .array len e) (hj : c.T.get e = some j) (h0 : 0 ≤ z) (hlt : z < len) (h : loadF c e cs (z.toNat * j.size) (fun s => nx s H)) : OpK c o E H nx := by
  have hnd : ∀ cl, o.op ≠ .defer cl := by rw [ho]; intro cl e; cases e
  obtain ⟨s, h1, h2⟩ := part_run c.ok h
  refine OpK.val hnd s (fun ms ac w ha hk => ?_) h2
  have hu := (c.ok t ti hti).1
  rw [hd] at hu
  have e1 := ha.opd hx
  have e2 := ha.opd hi
  simp only [den] at e1 e2
  simp [execOp, ho, e1, e2, Instr.index, asIntOf, run_underlying hu, r_sizeOf (c.ok e j hj) w, hlt, h0, h1 w]
end Go.X
namespace Go.Proofs.YthmjkaljkgjicaaGreatDoor
open Go Go.X
set_option maxRecDepth 100000
set_option maxHeartbeats 0
theorem bytes135 {p : Nat} {l : List UInt8} (hl : l.length ≤ 1099511627776) (w : World) : FrZ Tryz.prog 91 #[pv p] w (WrA p l) (fun z : Option Addr × Nat => .slice z.1 l.length z.2) (fun z => SlA 5 1 z.1 l.length z.2 (bcells l)) := by
  refine enter_frZ TBok (H := [.ext 12 (WrA p l)]) one_foot Tryz.func91 rfl rfl Tryz.ntmps91 [.loc p 10 0] rfl rfl ?_
  intro S _ _
  refine Run.open (α := Option Addr × Nat) (A := []) (B := []) (fun z => [.blk 10 p [.v (.bool true), .v (.slice z.1 l.length z.2)] 156, .ext 11 (SlA 5 1 z.1 l.length z.2 (bcells l))]) (fun w S h => WrA.open (X := []) (Y := []) h) ?_
  rintro ⟨a, cap⟩
  dsimp only
  conv => whnf
  repeat' (first
 | with_reducible (first | refine r_seq (fun KS hS => ?_) | (refine hS _ _ ?_; clear hS KS) | (refine hA _ ?_; clear hA KA) | (refine hB _ ?_; clear hB KB) | refine r_block ?_)
 | ((with_reducible (first | refine r_region ?_ | refine r_cond (fun KA hA KB hB => ?_) | refine r_ret ?_ | refine r_skip ?_ | refine r_exit ?_ | refine And.intro rfl ?_ | intro b)); conv => whnf)
 | ((with_reducible refine WrapK.i64 ?_ ?_); (focus omega); conv => whnf)
 | ((with_reducible refine CallK.id ?_); refine CallK.fresh (fun ms w hk => clone191 (l := l) (Sees.rd (Sees.ext (by repeat (first | with_reducible apply At.head | apply At.tail))) hk) (by omega)) ?_; conv => whnf)
 | (intro z; conv => whnf)
 | ((with_reducible apply OpK.more); (focus refine sok); (conv => whnf); fail_if_success guard_target =ₛ False)
 | ((with_reducible (first | refine InAt.mk (fun K' hK => ?_) | refine AnyAt.mk (fun K' hK => ?_) | (refine hK _ ?_; clear hK K') | (refine hK _ _ ?_; clear hK K'))); conv => whnf)
 | ((refine And.intro ?_ ?_); all_goals (conv => whnf))
 | (apply r_quiet; refine mixed; kernel_rfl; kernel_rfl; kernel_rfl; conv => whnf)
 | ((first | refine if_t (by decide) ?_ | refine if_f (by decide) ?_ | refine if_decT (by omega) ?_ | refine if_decF (by omega) ?_ | refine if_ndecT (by omega) ?_ | refine if_ndecF (by omega) ?_); conv => whnf)
 | ((first | refine if_dec (fun h => ?_) (fun h => ?_) | refine if_ndec (fun h => ?_) (fun h => ?_) | refine if_cond (fun h => ?_) (fun h => ?_)); all_goals (conv => whnf))
 | with_reducible apply_assumption -symm -exfalso)
  exact FinK.frZ (i := 0) b rfl (HSub.ext (fun _ _ h => h) (HSub.drop (HSub.drop HSub.nil)))
def askC : List SV := [.v (.string ⟨#[97, 115, 107]⟩), .v (.int .i64 12), .v (.int .i64 0), .v (.int .i64 1), .v (.int .i64 2147483647)]
def ansC : List SV := [.v (.string ⟨#[97, 110, 115, 119, 101, 114]⟩), .v (.int .i64 12), .v (.int .i64 0), .v (.int .i64 1), .v (.int .i64 2147483647)]
/-- the table of the kinds of messages is as the program laid it -/
def KAt (w : World) : Prop := 0 < w.heap.size ∧ ∃ C t f, w.heap[0]? = some (.cells C t f) ∧ (∀ j v, (denL askC)[j]? = some v → C[50 + j]? = some v) ∧ ∀ j v, (denL ansC)[j]? = some v → C[55 + j]? = some v
theorem KAt.ask {w : World} {n : Nat} {r : Option Nat} {H : List Blk} {S : Nat → Prop} (h : KAt w) (hS : ¬ S 0) : PC ⟨Tryz.prog, TB, n, w, S, r, TBok⟩ H 0 (0 + (Int.toNat 10) * TI.size ti179) askC := by
  obtain ⟨hp, C, t, f, h1, h2, _⟩ := h
  exact fun ms w' hk => ⟨C, t, f, by rw [Kn0.old hk 0 hp hS]; exact h1, fun j v hj => h2 j v hj⟩
theorem KAt.ans {w : World} {n : Nat} {r : Option Nat} {H : List Blk} {S : Nat → Prop} (h : KAt w) (hS : ¬ S 0) : PC ⟨Tryz.prog, TB, n, w, S, r, TBok⟩ H 0 (0 + (Int.toNat 11) * TI.size ti179) ansC := by
  obtain ⟨hp, C, t, f, h1, _, h2⟩ := h
  exact fun ms w' hk => ⟨C, t, f, by rw [Kn0.old hk 0 hp hS]; exact h1, fun j v hj => h2 j v hj⟩
theorem KAt.now {W w : World} {S : Nat → Prop} {ms : List Nat} {H : List Blk} (h : KAt W) (hS : ¬ S 0) (hk : Kn W S ms H w) : KAt w := by
  obtain ⟨hp, C, t, f, h1, h2⟩ := h
  exact ⟨Nat.lt_of_lt_of_le hp (Kn0.size hk), C, t, f, by rw [Kn0.old hk 0 hp hS]; exact h1, h2⟩
theorem find_ask107 {w : World} (h : KAt w) : Pu Tryz.prog 107 #[.int .i64 10] w (.tuple #[.agg (denL askC).toArray, .bool true]) := by
  refine enter_sound TBok Tryz.func107 rfl rfl Tryz.ntmps107 [.v (.int .i64 10)] (Kn.start w noS) rfl rfl ?_
  conv => whnf
  repeat' (first
 | with_reducible (first | refine r_seq (fun KS hS => ?_) | (refine hS _ _ ?_; clear hS KS) | (refine hA _ ?_; clear hA KA) | (refine hB _ ?_; clear hB KB) | refine r_block ?_)
 | ((with_reducible (first | refine r_region ?_ | refine r_cond (fun KA hA KB hB => ?_) | refine r_ret ?_ | refine r_skip ?_ | refine r_exit ?_ | refine And.intro rfl ?_ | intro b)); conv => whnf)
 | ((with_reducible refine WrapK.i64 ?_ ?_); (focus omega); conv => whnf)
 | ((with_reducible refine OpK.id ?_); (first | (refine OpK.ixP rfl rfl rfl rfl rfl rfl (by omega) (by show _ < (12 : Int); omega) ?_) | refine OpK.ldp rfl rfl (h.ask (fun h => h)) (List.cons_ne_nil _ _) ?_); conv => whnf)
 | ((with_reducible apply OpK.more); (focus refine sok); (conv => whnf); fail_if_success guard_target =ₛ False)
 | ((with_reducible (first | refine InAt.mk (fun K' hK => ?_) | refine AnyAt.mk (fun K' hK => ?_) | (refine hK _ ?_; clear hK K') | (refine hK _ _ ?_; clear hK K'))); conv => whnf)
 | ((refine And.intro ?_ ?_); all_goals (conv => whnf))
 | (apply r_quiet; refine mixed; kernel_rfl; kernel_rfl; kernel_rfl; conv => whnf)
 | ((first | refine if_t (by decide) ?_ | refine if_f (by decide) ?_ | refine if_decT (by omega) ?_ | refine if_decF (by omega) ?_ | refine if_ndecT (by omega) ?_ | refine if_ndecF (by omega) ?_); conv => whnf)
 | ((first | refine if_dec (fun h => ?_) (fun h => ?_) | refine if_ndec (fun h => ?_) (fun h => ?_) | refine if_cond (fun h => ?_) (fun h => ?_)); all_goals (conv => whnf))
 | with_reducible apply_assumption -symm -exfalso)
  exact FinK.pu rfl
theorem check_ask28 {f t n : Nat} {v : ByteArray} {w : World} (h : KAt w) (hf : f ≤ 55) (ht : t ≤ 55) (hft : f < t ∨ t < f) (hn : 1 ≤ n ∧ n ≤ 2147483647) (hv : v.size ≤ 65536) : Pu Tryz.prog 39 #[.agg #[.int .i64 10, .int .i64 (f : Nat), .int .i64 (t : Nat), .int .i64 0, .int .i64 0, .int .i64 0, .int .i64 (n : Nat), .string v, .slice none 0 0]] w (.int .i64 0) := by
  have hvl := str_len v
  have hu0 := uvar_len64 (n := 10) (by omega)
  have hu1 := uvar_len64 (n := f) (by omega)
  have hu2 := uvar_len64 (n := t) (by omega)
  have hu3 := uvar_len64 (n := n) (by omega)
  have hu4 := uvar_len64 (n := v.size) (by omega)
  have hbl : (uvar 10 ++ uvar f ++ uvar t ++ uvar n ++ uvar v.size ++ v.data.toList).length ≤ 65600 := by simp only [List.length_append]; omega
  refine enter_sound TBok Tryz.func39 rfl rfl Tryz.ntmps39 [.agg [.v (.int .i64 10), .v (.int .i64 (f : Nat)), .v (.int .i64 (t : Nat)), .v (.int .i64 0), .v (.int .i64 0), .v (.int .i64 0), .v (.int .i64 (n : Nat)), .v (.string v), .v (.slice none 0 0)]] (Kn.start w noS) rfl rfl ?_
  conv => whnf
  repeat' (first
 | with_reducible (first | refine r_seq (fun KS hS => ?_) | (refine hS _ _ ?_; clear hS KS) | (refine hA _ ?_; clear hA KA) | (refine hB _ ?_; clear hB KB) | refine r_block ?_)
 | ((with_reducible (first | refine r_region ?_ | refine r_cond (fun KA hA KB hB => ?_) | refine r_ret ?_ | refine r_skip ?_ | refine r_exit ?_ | refine And.intro rfl ?_ | intro b)); conv => whnf)
 | ((with_reducible refine WrapK.i64 ?_ ?_); (focus omega); conv => whnf)
 | ((with_reducible refine CallK.id ?_); (first | apply in65 | apply in108 | apply in82 | apply in158 | apply in160 | apply in168 | apply in174 | apply in175 | apply in179 | apply in180 | apply in185 | apply in186 | apply in109 | apply in190 | apply in111 | apply in176 | apply in181 | apply in167); rfl; rfl; rfl; intro A; conv => whnf)
 | ((with_reducible refine OpK.id ?_); refine OpK.aIx rfl rfl rfl rfl rfl rfl (by omega) (by show _ < (3 : Int); omega) ?_; conv => whnf)
 | ((with_reducible refine CallK.id ?_); refine CallK.frZE (by repeat (first | with_reducible apply At.head | apply At.tail)) (fun w => bytes135 (l := uvar 10 ++ uvar f ++ uvar t ++ uvar n ++ uvar v.size ++ v.data.toList) (by omega) w) ?_; conv => whnf)
 | (intro z; conv => whnf)
 | ((with_reducible refine CallK.at 107 ?_); refine CallK.puW (fun ms w hk => find_ask107 (h.now (fun h => h) hk)) ?_; conv => whnf)
 | (refine BitK.eq (z := 0) (by decide +kernel) ?_; conv => whnf)
 | (refine BitK.eq (z := 4) (by decide +kernel) ?_; conv => whnf)
 | (refine BitK.eq (z := 8) (by decide +kernel) ?_; conv => whnf)
 | ((with_reducible refine WrapK.id ?_); refine WrapK.eq (IntWalk.u64_in _ (by omega)) ?_; conv => whnf)
 | ((with_reducible refine CallK.id ?_); (first | refine CallK.frB At.head (fun w => uint83n (n := 10) (by omega) w) ?_ | (refine CallK.frE (by repeat (first | with_reducible apply At.head | apply At.tail)) (fun w => text85 (by omega) (by first | omega | (simp only [List.length_append, List.length_nil]; omega)) w) ?_) | (refine CallK.frE (by repeat (first | with_reducible apply At.head | apply At.tail)) (fun w => uint83 (n := f) (by omega) (by first | omega | (simp only [List.length_append, List.length_nil]; omega)) w) ?_) | (refine CallK.frE (by repeat (first | with_reducible apply At.head | apply At.tail)) (fun w => uint83 (n := t) (by omega) (by first | omega | (simp only [List.length_append, List.length_nil]; omega)) w) ?_) | (refine CallK.frE (by repeat (first | with_reducible apply At.head | apply At.tail)) (fun w => uint83 (n := n) (by omega) (by first | omega | (simp only [List.length_append, List.length_nil]; omega)) w) ?_)); conv => whnf)
 | ((with_reducible apply OpK.more); (focus refine sok); (conv => whnf); fail_if_success guard_target =ₛ False)
 | with_reducible (first | refine Rounds.step (fun KL hL => ?_) | (refine hL _ _ ?_; clear hL KL) | refine r_rounds 100 ?_)
 | ((with_reducible (first | refine InAt.mk (fun K' hK => ?_) | refine AnyAt.mk (fun K' hK => ?_) | (refine hK _ ?_; clear hK K') | (refine hK _ _ ?_; clear hK K'))); conv => whnf)
 | ((refine And.intro ?_ ?_); all_goals (conv => whnf))
 | (apply r_quiet; refine mixed; kernel_rfl; kernel_rfl; kernel_rfl; conv => whnf)
 | ((first | refine if_t (by decide) ?_ | refine if_f (by decide) ?_ | refine if_decT (by omega) ?_ | refine if_decF (by omega) ?_ | refine if_ndecT (by omega) ?_ | refine if_ndecF (by omega) ?_); conv => whnf)
 | ((first | refine if_dec (fun h => ?_) (fun h => ?_) | refine if_ndec (fun h => ?_) (fun h => ?_) | refine if_cond (fun h => ?_) (fun h => ?_)); all_goals (conv => whnf))
 | with_reducible apply_assumption -symm -exfalso)
  exact FinK.pu rfl
theorem find_ans107 {w : World} (h : KAt w) : Pu Tryz.prog 107 #[.int .i64 11] w (.tuple #[.agg (denL ansC).toArray, .bool true]) := by
  refine enter_sound TBok Tryz.func107 rfl rfl Tryz.ntmps107 [.v (.int .i64 11)] (Kn.start w noS) rfl rfl ?_
  conv => whnf
  repeat' (first
 | with_reducible (first | refine r_seq (fun KS hS => ?_) | (refine hS _ _ ?_; clear hS KS) | (refine hA _ ?_; clear hA KA) | (refine hB _ ?_; clear hB KB) | refine r_block ?_)
 | ((with_reducible (first | refine r_region ?_ | refine r_cond (fun KA hA KB hB => ?_) | refine r_ret ?_ | refine r_skip ?_ | refine r_exit ?_ | refine And.intro rfl ?_ | intro b)); conv => whnf)
 | ((with_reducible refine WrapK.i64 ?_ ?_); (focus omega); conv => whnf)
 | ((with_reducible refine OpK.id ?_); (first | (refine OpK.ixP rfl rfl rfl rfl rfl rfl (by omega) (by show _ < (12 : Int); omega) ?_) | refine OpK.ldp rfl rfl (h.ans (fun h => h)) (List.cons_ne_nil _ _) ?_); conv => whnf)
 | ((with_reducible apply OpK.more); (focus refine sok); (conv => whnf); fail_if_success guard_target =ₛ False)
 | ((with_reducible (first | refine InAt.mk (fun K' hK => ?_) | refine AnyAt.mk (fun K' hK => ?_) | (refine hK _ ?_; clear hK K') | (refine hK _ _ ?_; clear hK K'))); conv => whnf)
 | ((refine And.intro ?_ ?_); all_goals (conv => whnf))
 | (apply r_quiet; refine mixed; kernel_rfl; kernel_rfl; kernel_rfl; conv => whnf)
 | ((first | refine if_t (by decide) ?_ | refine if_f (by decide) ?_ | refine if_decT (by omega) ?_ | refine if_decF (by omega) ?_ | refine if_ndecT (by omega) ?_ | refine if_ndecF (by omega) ?_); conv => whnf)
 | ((first | refine if_dec (fun h => ?_) (fun h => ?_) | refine if_ndec (fun h => ?_) (fun h => ?_) | refine if_cond (fun h => ?_) (fun h => ?_)); all_goals (conv => whnf))
 | with_reducible apply_assumption -symm -exfalso)
  exact FinK.pu rfl
theorem check_ans28 {f t n : Nat} {v : ByteArray} {w : World} (h : KAt w) (hf : f ≤ 55) (ht : t ≤ 55) (hft : f < t ∨ t < f) (hn : 1 ≤ n ∧ n ≤ 2147483647) (hv : v.size ≤ 65536) : Pu Tryz.prog 39 #[.agg #[.int .i64 11, .int .i64 (f : Nat), .int .i64 (t : Nat), .int .i64 0, .int .i64 0, .int .i64 0, .int .i64 (n : Nat), .string v, .slice none 0 0]] w (.int .i64 0) := by
  have hvl := str_len v
  have hu0 := uvar_len64 (n := 11) (by omega)
  have hu1 := uvar_len64 (n := f) (by omega)
  have hu2 := uvar_len64 (n := t) (by omega)
  have hu3 := uvar_len64 (n := n) (by omega)
  have hu4 := uvar_len64 (n := v.size) (by omega)
  have hbl : (uvar 11 ++ uvar f ++ uvar t ++ uvar n ++ uvar v.size ++ v.data.toList).length ≤ 65600 := by simp only [List.length_append]; omega
  refine enter_sound TBok Tryz.func39 rfl rfl Tryz.ntmps39 [.agg [.v (.int .i64 11), .v (.int .i64 (f : Nat)), .v (.int .i64 (t : Nat)), .v (.int .i64 0), .v (.int .i64 0), .v (.int .i64 0), .v (.int .i64 (n : Nat)), .v (.string v), .v (.slice none 0 0)]] (Kn.start w noS) rfl rfl ?_
  conv => whnf
  repeat' (first
 | with_reducible (first | refine r_seq (fun KS hS => ?_) | (refine hS _ _ ?_; clear hS KS) | (refine hA _ ?_; clear hA KA) | (refine hB _ ?_; clear hB KB) | refine r_block ?_)
 | ((with_reducible (first | refine r_region ?_ | refine r_cond (fun KA hA KB hB => ?_) | refine r_ret ?_ | refine r_skip ?_ | refine r_exit ?_ | refine And.intro rfl ?_ | intro b)); conv => whnf)
 | ((with_reducible refine WrapK.i64 ?_ ?_); (focus omega); conv => whnf)
 | ((with_reducible refine CallK.id ?_); (first | apply in65 | apply in108 | apply in82 | apply in158 | apply in160 | apply in168 | apply in174 | apply in175 | apply in179 | apply in180 | apply in185 | apply in186 | apply in109 | apply in190 | apply in111 | apply in176 | apply in181 | apply in167); rfl; rfl; rfl; intro A; conv => whnf)
 | ((with_reducible refine OpK.id ?_); refine OpK.aIx rfl rfl rfl rfl rfl rfl (by omega) (by show _ < (3 : Int); omega) ?_; conv => whnf)
 | ((with_reducible refine CallK.id ?_); refine CallK.frZE (by repeat (first | with_reducible apply At.head | apply At.tail)) (fun w => bytes135 (l := uvar 11 ++ uvar f ++ uvar t ++ uvar n ++ uvar v.size ++ v.data.toList) (by omega) w) ?_; conv => whnf)
 | (intro z; conv => whnf)
 | ((with_reducible refine CallK.at 107 ?_); refine CallK.puW (fun ms w hk => find_ans107 (h.now (fun h => h) hk)) ?_; conv => whnf)
 | (refine BitK.eq (z := 0) (by decide +kernel) ?_; conv => whnf)
 | (refine BitK.eq (z := 4) (by decide +kernel) ?_; conv => whnf)
 | (refine BitK.eq (z := 8) (by decide +kernel) ?_; conv => whnf)
 | ((with_reducible refine WrapK.id ?_); refine WrapK.eq (IntWalk.u64_in _ (by omega)) ?_; conv => whnf)
 | ((with_reducible refine CallK.id ?_); (first | refine CallK.frB At.head (fun w => uint83n (n := 11) (by omega) w) ?_ | (refine CallK.frE (by repeat (first | with_reducible apply At.head | apply At.tail)) (fun w => text85 (by omega) (by first | omega | (simp only [List.length_append, List.length_nil]; omega)) w) ?_) | (refine CallK.frE (by repeat (first | with_reducible apply At.head | apply At.tail)) (fun w => uint83 (n := f) (by omega) (by first | omega | (simp only [List.length_append, List.length_nil]; omega)) w) ?_) | (refine CallK.frE (by repeat (first | with_reducible apply At.head | apply At.tail)) (fun w => uint83 (n := t) (by omega) (by first | omega | (simp only [List.length_append, List.length_nil]; omega)) w) ?_) | (refine CallK.frE (by repeat (first | with_reducible apply At.head | apply At.tail)) (fun w => uint83 (n := n) (by omega) (by first | omega | (simp only [List.length_append, List.length_nil]; omega)) w) ?_)); conv => whnf)
 | ((with_reducible apply OpK.more); (focus refine sok); (conv => whnf); fail_if_success guard_target =ₛ False)
 | with_reducible (first | refine Rounds.step (fun KL hL => ?_) | (refine hL _ _ ?_; clear hL KL) | refine r_rounds 100 ?_)
 | ((with_reducible (first | refine InAt.mk (fun K' hK => ?_) | refine AnyAt.mk (fun K' hK => ?_) | (refine hK _ ?_; clear hK K') | (refine hK _ _ ?_; clear hK K'))); conv => whnf)
 | ((refine And.intro ?_ ?_); all_goals (conv => whnf))
 | (apply r_quiet; refine mixed; kernel_rfl; kernel_rfl; kernel_rfl; conv => whnf)
 | ((first | refine if_t (by decide) ?_ | refine if_f (by decide) ?_ | refine if_decT (by omega) ?_ | refine if_decF (by omega) ?_ | refine if_ndecT (by omega) ?_ | refine if_ndecF (by omega) ?_); conv => whnf)
 | ((first | refine if_dec (fun h => ?_) (fun h => ?_) | refine if_ndec (fun h => ?_) (fun h => ?_) | refine if_cond (fun h => ?_) (fun h => ?_)); all_goals (conv => whnf))
 | with_reducible apply_assumption -symm -exfalso)
  exact FinK.pu rfl
end Go.Proofs.YthmjkaljkgjicaaGreatDoor

namespace Go.Proofs.YthmjkaljkgjicaaGreatDoor
open Go Go.X
set_option maxRecDepth 100000
theorem in45 : InSt 27 Tryz.f27 12 := InSt.mk' Tryz.func27 rfl Tryz.ntmps27
theorem in57 : InSt 28 Tryz.f28 37 := InSt.mk' Tryz.func28 rfl Tryz.ntmps28
theorem in58 : InSt 29 Tryz.f29 19 := InSt.mk' Tryz.func29 rfl Tryz.ntmps29
theorem in59 : InSt 30 Tryz.f30 16 := InSt.mk' Tryz.func30 rfl Tryz.ntmps30
theorem in60 : InSt 31 Tryz.f31 6 := InSt.mk' Tryz.func31 rfl Tryz.ntmps31
theorem in64 : InSt 36 Tryz.f36 4 := InSt.mk' Tryz.func36 rfl Tryz.ntmps36
theorem in101 : InSt 57 Tryz.f57 4 := InSt.mk' Tryz.func57 rfl Tryz.ntmps57
theorem in104 : InSt 59 Tryz.f59 5 := InSt.mk' Tryz.func59 rfl Tryz.ntmps59
theorem in155 : InSt 103 Tryz.f103 13 := InSt.mk' Tryz.func103 rfl Tryz.ntmps103
theorem in156 : InSt 104 Tryz.f104 134 := InSt.mk' Tryz.func104 rfl Tryz.ntmps104
theorem in261 : InSt 181 Tryz.f181 49 := InSt.mk' Tryz.func181 rfl Tryz.ntmps181
theorem in271 : InSt 101 Tryz.f101 25 := InSt.mk' Tryz.func101 rfl Tryz.ntmps101
theorem in68 : InSt 40 Tryz.f40 19 := InSt.mk' Tryz.func40 rfl Tryz.ntmps40
theorem in69 : InSt 41 Tryz.f41 32 := InSt.mk' Tryz.func41 rfl Tryz.ntmps41
end Go.Proofs.YthmjkaljkgjicaaGreatDoor
