/- Contracts and lemmas for the claim (part 5); no condition of its own. -/
import Derived.Test.YtbgnoibellfojaaGreatDoorYC704
import Derived.Test.YtbgnoibellfojaaGreatDoorYC702
import Derived.Test.YtbgnoibellfojaaGreatDoorYC701
import Derived.Test.YtbgnoibellfojaaGreatDoorYC703
set_option linter.all false
set_option linter.unusedVariables false
set_option linter.unusedSimpArgs false
set_option linter.unnecessarySimpa false
namespace Go.Proofs.YtbgnoibellfojaaGreatDoor
open Go Go.X
set_option maxRecDepth 100000
set_option maxHeartbeats 0
theorem feqDef43 {x : ByteArray} {a b : Int} (w : World) : Pu Tryz.prog 43 #[.agg #[.string x, .int .i64 a, .int .i64 b, .slice none 0 0], .agg #[.string x, .int .i64 a, .int .i64 b, .slice none 0 0]] w (.bool true) := by
  refine enter_sound TBok Tryz.func43 rfl rfl Tryz.ntmps43 [.agg [.v (.string x), .v (.int .i64 a), .v (.int .i64 b), .v (.slice none 0 0)], .agg [.v (.string x), .v (.int .i64 a), .v (.int .i64 b), .v (.slice none 0 0)]] (Kn.start w noS) rfl rfl ?_
  conv => whnf
  repeat' (first
 | with_reducible ((first | refine r_seq (fun KS hS => ?_) | (refine hS _ _ ?_; clear hS KS) | (refine hB _ ?_; clear hB KB) | refine r_block ?_))
 | ((with_reducible (first | refine r_region ?_ | refine r_cond (fun KA hA KB hB => ?_) | refine r_ret ?_ | refine r_skip ?_ | refine r_exit ?_ | refine And.intro rfl ?_ | intro b)); conv => whnf)
 | (refine if_f (by first | rfl | (simp; done) | (simp; omega)) ?_; conv => whnf)
 | with_reducible (first | refine Rounds.step (fun KL hL => ?_) | refine r_rounds 100 ?_)
 | with_reducible apply_assumption -symm -exfalso)
  all_goals exact FinK.pu rfl
theorem feqCmd16 {a0 a1 a2 a3 a4 a5 a6 a7 a8 c0 c1 c2 c3 c4 c5 : Int} {b0 b1 b2 b3 : ByteArray} {e0 : Bool} (w : World) : Pu Tryz.prog 16 #[.agg #[.int .i64 a0, .int .i64 a1, .int .i64 a2, .int .i64 a3, .int .i64 a4, .int .i64 a5, .string b0, .int .i64 a6, .int .i64 a7, .string b1, .string b2, .int .i64 a8, .string ⟨#[]⟩, .int .i64 0, .int .i64 0, .slice none 0 0, .int .i64 c0, .int .i64 c1, .int .i64 c2, .int .i64 c3, .bool e0, .int .i64 c4, .int .i64 c5, .string b3], .agg #[.int .i64 a0, .int .i64 a1, .int .i64 a2, .int .i64 a3, .int .i64 a4, .int .i64 a5, .string b0, .int .i64 a6, .int .i64 a7, .string b1, .string b2, .int .i64 a8, .string ⟨#[]⟩, .int .i64 0, .int .i64 0, .slice none 0 0, .int .i64 c0, .int .i64 c1, .int .i64 c2, .int .i64 c3, .bool e0, .int .i64 c4, .int .i64 c5, .string b3]] w (.bool true) := by
  refine enter_sound TBok Tryz.func16 rfl rfl Tryz.ntmps16 [.agg [.v (.int .i64 a0), .v (.int .i64 a1), .v (.int .i64 a2), .v (.int .i64 a3), .v (.int .i64 a4), .v (.int .i64 a5), .v (.string b0), .v (.int .i64 a6), .v (.int .i64 a7), .v (.string b1), .v (.string b2), .v (.int .i64 a8), .v (.string ⟨#[]⟩), .v (.int .i64 0), .v (.int .i64 0), .v (.slice none 0 0), .v (.int .i64 c0), .v (.int .i64 c1), .v (.int .i64 c2), .v (.int .i64 c3), .v (.bool e0), .v (.int .i64 c4), .v (.int .i64 c5), .v (.string b3)], .agg [.v (.int .i64 a0), .v (.int .i64 a1), .v (.int .i64 a2), .v (.int .i64 a3), .v (.int .i64 a4), .v (.int .i64 a5), .v (.string b0), .v (.int .i64 a6), .v (.int .i64 a7), .v (.string b1), .v (.string b2), .v (.int .i64 a8), .v (.string ⟨#[]⟩), .v (.int .i64 0), .v (.int .i64 0), .v (.slice none 0 0), .v (.int .i64 c0), .v (.int .i64 c1), .v (.int .i64 c2), .v (.int .i64 c3), .v (.bool e0), .v (.int .i64 c4), .v (.int .i64 c5), .v (.string b3)]] (Kn.start w noS) rfl rfl ?_
  conv => whnf
  repeat' (first
 | with_reducible ((first | refine r_seq (fun KS hS => ?_) | (refine hS _ _ ?_; clear hS KS)))
 | ((with_reducible (first | refine r_region ?_ | refine r_ret ?_ | refine And.intro rfl ?_ | intro b)); conv => whnf)
 | (refine if_t (by first | rfl | (simp; done) | (simp; omega)) ?_; conv => whnf)
 | ((with_reducible refine CallK.at 43 ?_); refine CallK.pu (fun w => feqDef43 w) ?_; conv => whnf)
 | ((with_reducible apply OpK.more); (focus refine sok); (conv => whnf); fail_if_success guard_target =ₛ False))
  all_goals (refine FinK.pu ?_; simp [den])
theorem fcheckEffT130 {s t p d : Int} {k : ByteArray} (hks : k.size ≤ 1099511627776) : ∃ e : Int, (e = 0 ↔ (EffOk s t p ∧ nameOk k = true ∧ d ≠ 0 ∧ NumOk d)) ∧ ∀ w, Pu Tryz.prog 130 #[.agg #[.int .i64 1, .int .i64 0, .int .i64 0, .int .i64 s, .int .i64 t, .int .i64 p, .string k, .int .i64 d, .int .i64 0, .string ⟨#[]⟩, .string ⟨#[]⟩, .int .i64 0, .string ⟨#[]⟩, .int .i64 0, .int .i64 0, .slice none 0 0, .int .i64 0, .int .i64 0, .int .i64 0, .int .i64 0, .bool false, .int .i64 0, .int .i64 0, .string ⟨#[]⟩]] w (.int .i64 e) := by
  have heff := fun w => feff119 (s := s) (t := t) (p := p) w
  by_cases h : EffOk s t p
  all_goals (have h' := h; unfold EffOk at h')
  rw [if_pos (by omega)] at heff
  rcases Bool.eq_false_or_eq_true (nameOk k) with hk | hk
  by_cases hd : d = 0
  refine ⟨2, by simp [hd], fun w => ?_⟩
  rotate_left
  by_cases hn : NumOk d
  refine ⟨0, by simp [h, hk, hd, hn], fun w => ?_⟩
  unfold NumOk at hn
  rotate_left
  refine ⟨2, by simp [hn], fun w => ?_⟩
  unfold NumOk at hn
  rotate_left
  refine ⟨2, by simp [hk], fun w => ?_⟩
  rotate_left
  rw [if_neg (by omega)] at heff
  refine ⟨2, by simp [h], fun w => ?_⟩
  all_goals (refine enter_sound TBok Tryz.func130 rfl rfl Tryz.ntmps130 [.agg [.v (.int .i64 1), .v (.int .i64 0), .v (.int .i64 0), .v (.int .i64 s), .v (.int .i64 t), .v (.int .i64 p), .v (.string k), .v (.int .i64 d), .v (.int .i64 0), .v (.string ⟨#[]⟩), .v (.string ⟨#[]⟩), .v (.int .i64 0), .v (.string ⟨#[]⟩), .v (.int .i64 0), .v (.int .i64 0), .v (.slice none 0 0), .v (.int .i64 0), .v (.int .i64 0), .v (.int .i64 0), .v (.int .i64 0), .v (.bool false), .v (.int .i64 0), .v (.int .i64 0), .v (.string ⟨#[]⟩)]] (Kn.start w noS) rfl rfl ?_; conv => whnf)
  repeat' (first
 | with_reducible ((first | refine r_seq (fun KS hS => ?_) | (refine hS _ _ ?_; clear hS KS) | (refine hA _ ?_; clear hA KA) | (refine hB _ ?_; clear hB KB) | refine r_block ?_))
 | ((with_reducible (first | refine r_region ?_ | refine r_cond (fun KA hA KB hB => ?_) | refine r_ret ?_ | refine r_skip ?_ | refine And.intro rfl ?_ | intro b)); conv => whnf)
 | ((with_reducible refine CallK.id ?_); apply in208; rfl; rfl; rfl; intro A; conv => whnf)
 | ((with_reducible refine CallK.at 16 ?_); refine CallK.pu (fun w => feqCmd16 w) ?_; conv => whnf)
 | ((with_reducible refine CallK.id ?_); refine CallK.pu (fun w => heff w) ?_; conv => whnf)
 | ((with_reducible refine CallK.at 282 ?_); refine CallK.pu (fun w => fname282 hks w) ?_; rw [hk]; conv => whnf)
 | ((first | refine if_decT (by omega) ?_ | refine if_ndecT (by omega) ?_ | refine if_ndecF (by omega) ?_); conv => whnf)
 | (refine if_dec (fun h => ?_) (fun h => ?_); all_goals (conv => whnf))
 | with_reducible apply_assumption -symm -exfalso)
  all_goals first | exact FinK.pu rfl | (exfalso; omega)
theorem fcheckOutT130 {m : Int} {f t : ByteArray} (hf : f.size ≤ 1099511627776) (ht : t.size ≤ 1099511627776) : ∃ e : Int, (e = 0 ↔ ((1 ≤ m ∧ m ≤ 64) ∧ rangeOk f t = true)) ∧ ∀ w, Pu Tryz.prog 130 #[.agg #[.int .i64 3, .int .i64 0, .int .i64 0, .int .i64 0, .int .i64 0, .int .i64 0, .string ⟨#[]⟩, .int .i64 0, .int .i64 m, .string f, .string t, .int .i64 0, .string ⟨#[]⟩, .int .i64 0, .int .i64 0, .slice none 0 0, .int .i64 0, .int .i64 0, .int .i64 0, .int .i64 0, .bool false, .int .i64 0, .int .i64 0, .string ⟨#[]⟩]] w (.int .i64 e) := by
  have hrg := fun w => frange285 hf ht w
  by_cases hm : 1 ≤ m ∧ m ≤ 64
  rcases Bool.eq_false_or_eq_true (rangeOk f t) with hr | hr
  rw [hr] at hrg
  refine ⟨0, by simp [hm, hr], fun w => ?_⟩
  rotate_left
  rw [hr] at hrg
  refine ⟨2, by simp [hr], fun w => ?_⟩
  rotate_left
  refine ⟨2, by simp [hm], fun w => ?_⟩
  all_goals (refine enter_sound TBok Tryz.func130 rfl rfl Tryz.ntmps130 [.agg [.v (.int .i64 3), .v (.int .i64 0), .v (.int .i64 0), .v (.int .i64 0), .v (.int .i64 0), .v (.int .i64 0), .v (.string ⟨#[]⟩), .v (.int .i64 0), .v (.int .i64 m), .v (.string f), .v (.string t), .v (.int .i64 0), .v (.string ⟨#[]⟩), .v (.int .i64 0), .v (.int .i64 0), .v (.slice none 0 0), .v (.int .i64 0), .v (.int .i64 0), .v (.int .i64 0), .v (.int .i64 0), .v (.bool false), .v (.int .i64 0), .v (.int .i64 0), .v (.string ⟨#[]⟩)]] (Kn.start w noS) rfl rfl ?_; conv => whnf)
  repeat' (first
 | with_reducible ((first | refine r_seq (fun KS hS => ?_) | (refine hS _ _ ?_; clear hS KS) | (refine hA _ ?_; clear hA KA) | (refine hB _ ?_; clear hB KB) | refine r_block ?_))
 | ((with_reducible (first | refine r_region ?_ | refine r_cond (fun KA hA KB hB => ?_) | refine r_ret ?_ | refine r_skip ?_ | refine And.intro rfl ?_ | intro b)); conv => whnf)
 | ((with_reducible refine CallK.id ?_); (first | apply in208 | apply in284); rfl; rfl; rfl; intro A; conv => whnf)
 | ((with_reducible refine CallK.at 16 ?_); refine CallK.pu (fun w => feqCmd16 w) ?_; conv => whnf)
 | ((with_reducible refine CallK.id ?_); refine CallK.pu (fun w => hrg w) ?_; conv => whnf)
 | ((first | refine if_decT (by omega) ?_ | refine if_decF (by omega) ?_); conv => whnf)
 | (refine if_dec (fun h => ?_) (fun h => ?_); all_goals (conv => whnf))
 | with_reducible apply_assumption -symm -exfalso)
  all_goals first | exact FinK.pu rfl | (exfalso; omega)
theorem fcheckInT130 {m : Int} {f t x : ByteArray} (hf : f.size ≤ 1099511627776) (ht : t.size ≤ 1099511627776) : ∃ e : Int, (e = 0 ↔ ((1 ≤ m ∧ m ≤ 64) ∧ rangeOk f t = true ∧ x.size ≤ 65536)) ∧ ∀ w, Pu Tryz.prog 130 #[.agg #[.int .i64 4, .int .i64 0, .int .i64 0, .int .i64 0, .int .i64 0, .int .i64 0, .string ⟨#[]⟩, .int .i64 0, .int .i64 m, .string f, .string t, .int .i64 0, .string ⟨#[]⟩, .int .i64 0, .int .i64 0, .slice none 0 0, .int .i64 0, .int .i64 0, .int .i64 0, .int .i64 0, .bool false, .int .i64 0, .int .i64 0, .string x]] w (.int .i64 e) := by
  have hrg := fun w => frange285 hf ht w
  by_cases hm : 1 ≤ m ∧ m ≤ 64
  rcases Bool.eq_false_or_eq_true (rangeOk f t) with hr | hr
  all_goals first | rw [hr] at hrg | skip
  by_cases hx : x.size ≤ 65536
  refine ⟨0, by simp [hm, hr, hx], fun w => ?_⟩
  rotate_left
  refine ⟨2, by simp [hx], fun w => ?_⟩
  rotate_left
  refine ⟨2, by simp [hr], fun w => ?_⟩
  rotate_left
  refine ⟨2, by simp [hm], fun w => ?_⟩
  all_goals (refine enter_sound TBok Tryz.func130 rfl rfl Tryz.ntmps130 [.agg [.v (.int .i64 4), .v (.int .i64 0), .v (.int .i64 0), .v (.int .i64 0), .v (.int .i64 0), .v (.int .i64 0), .v (.string ⟨#[]⟩), .v (.int .i64 0), .v (.int .i64 m), .v (.string f), .v (.string t), .v (.int .i64 0), .v (.string ⟨#[]⟩), .v (.int .i64 0), .v (.int .i64 0), .v (.slice none 0 0), .v (.int .i64 0), .v (.int .i64 0), .v (.int .i64 0), .v (.int .i64 0), .v (.bool false), .v (.int .i64 0), .v (.int .i64 0), .v (.string x)]] (Kn.start w noS) rfl rfl ?_; conv => whnf)
  repeat' (first
 | with_reducible ((first | refine r_seq (fun KS hS => ?_) | (refine hS _ _ ?_; clear hS KS) | (refine hA _ ?_; clear hA KA) | (refine hB _ ?_; clear hB KB) | refine r_block ?_))
 | ((with_reducible (first | refine r_region ?_ | refine r_cond (fun KA hA KB hB => ?_) | refine r_ret ?_ | refine r_skip ?_ | refine And.intro rfl ?_ | intro b)); conv => whnf)
 | ((with_reducible refine CallK.id ?_); (first | apply in208 | apply in284 | apply in286); rfl; rfl; rfl; intro A; conv => whnf)
 | ((with_reducible refine CallK.at 16 ?_); refine CallK.pu (fun w => feqCmd16 w) ?_; conv => whnf)
 | ((with_reducible refine CallK.id ?_); refine CallK.pu (fun w => hrg w) ?_; conv => whnf)
 | ((first | refine if_decT (by omega) ?_ | refine if_decF (by omega) ?_ | refine if_ndecT (by omega) ?_ | refine if_ndecF (by omega) ?_); conv => whnf)
 | (refine if_dec (fun h => ?_) (fun h => ?_); all_goals (conv => whnf))
 | with_reducible apply_assumption -symm -exfalso)
  all_goals first | exact FinK.pu rfl | (exfalso; omega)
end Go.Proofs.YtbgnoibellfojaaGreatDoor

namespace Go.Proofs.YtbgnoibellfojaaGreatDoor
open Go Go.X
set_option maxRecDepth 100000
set_option maxHeartbeats 0
theorem rdT_size (st : RSt) : (rdT st).1.size ≤ 65536 := by
  cases h : rdT st with
  | mk s st' =>
    cases st with
    | none => simp [rdT] at h; rw [← h.1]; show (ByteArray.mk #[]).size ≤ 65536; decide
    | some l =>
      cases st' with
      | some r => exact (rdT_inv h).2
      | none =>
        unfold rdT at h
        dsimp only at h
        split at h
        · simp only [Prod.mk.injEq] at h
          rw [← h.1]; show (ByteArray.mk #[]).size ≤ 65536; decide
        · cases h
theorem decEffT76 {l : List UInt8} {a : Option Addr} {n cap : Nat} {w : World} (hr : RdS w 5 1 a n cap (bcells l)) (hln : l.length ≤ 1099511627776) {s t p : Nat} {k : ByteArray} {d : Int} {u0 u1 u2 u3 u4 u5 : RSt} (e0 : rdS 15 (some l) = (1, u0)) (e1 : rdS 9999 u0 = (s, u1)) (e2 : rdS 8 u1 = (t, u2)) (e3 : rdS 3 u2 = (p, u3)) (e4 : rdT u3 = (k, u4)) (e5 : rdI u4 = (d, u5)) : ∃ v : Value, ((v = .tuple #[.agg #[.int .i64 0, .int .i64 0, .int .i64 0, .int .i64 0, .int .i64 0, .int .i64 0, .string ⟨#[]⟩, .int .i64 0, .int .i64 0, .string ⟨#[]⟩, .string ⟨#[]⟩, .int .i64 0, .string ⟨#[]⟩, .int .i64 0, .int .i64 0, .slice none 0 0, .int .i64 0, .int .i64 0, .int .i64 0, .int .i64 0, .bool false, .int .i64 0, .int .i64 0, .string ⟨#[]⟩], .int .i64 10] ∧ ¬ (l.length ≤ 65536 ∧ u5 = some [] ∧ (EffOk s t p ∧ nameOk k = true ∧ d ≠ 0 ∧ NumOk d))) ∨ (v = .tuple #[.agg #[.int .i64 1, .int .i64 0, .int .i64 0, .int .i64 (s : Nat), .int .i64 (t : Nat), .int .i64 (p : Nat), .string k, .int .i64 d, .int .i64 0, .string ⟨#[]⟩, .string ⟨#[]⟩, .int .i64 0, .string ⟨#[]⟩, .int .i64 0, .int .i64 0, .slice none 0 0, .int .i64 0, .int .i64 0, .int .i64 0, .int .i64 0, .bool false, .int .i64 0, .int .i64 0, .string ⟨#[]⟩], .int .i64 0] ∧ l.length ≤ 65536 ∧ u5 = some [] ∧ (EffOk s t p ∧ nameOk k = true ∧ d ≠ 0 ∧ NumOk d))) ∧ Pu Tryz.prog 76 #[.slice a n cap] w v := by
  have hlen := hr.len
  rw [bcells_length, Nat.mul_one] at hlen
  subst hlen
  have hs := fun n' r H => Sees.old (c := ⟨Tryz.prog, TB, n', w, noS, r, TBok⟩) (H := H) hr.old
  have rb : RB (some l) := RB.len hln
  have hne : l.length ≠ 0 := by
    intro h
    obtain rfl := List.length_eq_zero_iff.1 h
    have h1 : (rdS 15 (some [])).1 = 1 := by rw [e0]
    exact absurd h1 (by decide)
  have rb0 : RB u0 := by have := RB.S (most := 15) rb; rw [e0] at this; exact this
  have rb1 : RB u1 := by have := RB.S (most := 9999) rb0; rw [e1] at this; exact this
  have rb2 : RB u2 := by have := RB.S (most := 8) rb1; rw [e2] at this; exact this
  have rb3 : RB u3 := by have := RB.S (most := 3) rb2; rw [e3] at this; exact this
  have rb4 : RB u4 := by have := RB.T rb3; rw [e4] at this; exact this
  have hk4 : k.size ≤ 1099511627776 := by have := rdT_size u3; rw [e4] at this; dsimp only at this; omega
  have rb5 : RB u5 := by have := RB.I rb4; rw [e5] at this; exact this
  obtain ⟨e, he, hchk⟩ := checkEffT102 (s := s) (t := t) (p := p) (k := k) (d := d) hk4
  by_cases hl : l.length ≤ 65536
  by_cases hend : u5 = some []
  by_cases he0 : e = 0
  subst he0
  refine ⟨_, .inr ⟨rfl, hl, hend, he.1 rfl⟩, ?_⟩
  subst hend
  rotate_left
  refine ⟨_, .inl ⟨rfl, fun h => he0 (he.2 h.2.2)⟩, ?_⟩
  subst hend
  rotate_left
  refine ⟨_, .inl ⟨rfl, fun h => hend h.2.1⟩, ?_⟩
  rotate_left
  refine ⟨_, .inl ⟨rfl, fun h => hl h.1⟩, ?_⟩
  all_goals (refine enter_sound TBok Tryz.func76 rfl rfl Tryz.ntmps76 [.v (.slice a l.length cap)] (Kn.start w noS) rfl rfl ?_; conv => whnf)
  repeat' (first
 | with_reducible ((first | refine r_seq (fun KS hS => ?_) | (refine hS _ _ ?_; clear hS KS) | (refine hA _ ?_; clear hA KA) | (refine hB _ ?_; clear hB KB) | refine r_block ?_))
 | ((with_reducible (first | refine r_region ?_ | refine r_cond (fun KA hA KB hB => ?_) | refine r_ret ?_ | refine r_skip ?_ | refine r_exit ?_ | refine And.intro rfl ?_ | intro b)); conv => whnf)
 | ((with_reducible refine WrapK.i64 ?_ ?_); (focus omega); conv => whnf)
 | ((with_reducible refine CallK.id ?_); (first | apply in103 | apply in143 | apply in144 | apply in145 | apply in216 | apply in113 | apply in212 | apply in222 | apply in290); rfl; rfl; rfl; intro A; conv => whnf)
 | (refine ak217 ?_; conv => whnf)
 | ((with_reducible refine CallK.id ?_); refine CallK.fresh (fun ms w hk => clone191 (l := l) (Sees.rd (hs _ _ _) hk) (by omega)) ?_; conv => whnf)
 | ((with_reducible refine CallK.id ?_); (first | refine CallK.weak (RdA.closeT (j := 0)) (CallK.frE At.head (fun w => small114e rb (by omega) e0 w) ?_) | refine CallK.frE (by repeat (first | with_reducible apply At.head | apply At.tail)) (fun w => small114e rb0 (by omega) e1 w) ?_ | refine CallK.frE (by repeat (first | with_reducible apply At.head | apply At.tail)) (fun w => small114e rb1 (by omega) e2 w) ?_ | refine CallK.frE (by repeat (first | with_reducible apply At.head | apply At.tail)) (fun w => small114e rb2 (by omega) e3 w) ?_ | refine CallK.frE (by repeat (first | with_reducible apply At.head | apply At.tail)) (fun w => text116e rb3 e4 w) ?_ | refine CallK.frE (by repeat (first | with_reducible apply At.head | apply At.tail)) (fun w => int115e rb4 e5 w) ?_ | refine CallK.frE (by repeat (first | with_reducible apply At.head | apply At.tail)) (fun w => end117ok w) ?_ | refine CallK.frE (by repeat (first | with_reducible apply At.head | apply At.tail)) (fun w => end117bad hend w) ?_ | refine CallK.pu (fun w => hchk w) ?_); conv => whnf)
 | ((with_reducible apply OpK.more); (focus refine sok); (conv => whnf); fail_if_success guard_target =ₛ False)
 | with_reducible (first | refine Rounds.step (fun KL hL => ?_) | refine r_rounds 100 ?_)
 | ((first | refine if_decT (by omega) ?_ | refine if_decF (by omega) ?_ | refine if_ndecT (by omega) ?_); conv => whnf)
 | with_reducible apply_assumption -symm -exfalso)
  all_goals first | exact FinK.pu rfl | (exfalso; omega)
end Go.Proofs.YtbgnoibellfojaaGreatDoor

namespace Go.Proofs.YtbgnoibellfojaaGreatDoor
open Go Go.X
set_option maxRecDepth 100000
set_option maxHeartbeats 0
theorem fsmall123 {p : Nat} {st : RSt} (hb : RB st) (w : World) : Fr Tryz.prog 123 #[pv p] w (RfA p st) (.int .i64 (rdS 2147483648 st).1) (RfA p (rdS 2147483648 st).2) := by
  have hlt := rdU_lt st
  by_cases h : (rdU st).1 > 2147483648
  · have e : rdS 2147483648 st = (0, none) := if_pos h
    rw [e]
    refine enter_fr TBok (A' := RfA p none) (H := [.ext 12 (RfA p st)]) one_foot Tryz.func123 rfl rfl Tryz.ntmps123 [.loc p 10 0] rfl rfl ?_
    intro S
    conv => whnf
    repeat' (first
 | with_reducible ((first | refine r_seq (fun KS hS => ?_) | (refine hS _ _ ?_; clear hS KS) | (refine hA _ ?_; clear hA KA)))
 | ((with_reducible (first | refine r_region ?_ | refine r_cond (fun KA hA KB hB => ?_) | refine r_ret ?_)); conv => whnf)
 | ((with_reducible refine CallK.id ?_); (first | refine CallK.frE (by repeat (first | with_reducible apply At.head | apply At.tail)) (fun w => funit203 hb w) ?_ | refine CallK.frE (by repeat (first | with_reducible apply At.head | apply At.tail)) (fun w => ffail124 w) ?_); conv => whnf)
 | (refine if_decT (by omega) ?_; conv => whnf))
    exact FinK.fr (y := .ext 0 (RfA p none)) rfl (HSub.ext (fun _ _ h => h) HSub.nil) (fun _ _ h => h)
  · have e : rdS 2147483648 st = rdU st := if_neg h
    rw [e]
    refine enter_fr TBok (A' := RfA p (rdU st).2) (H := [.ext 12 (RfA p st)]) one_foot Tryz.func123 rfl rfl Tryz.ntmps123 [.loc p 10 0] rfl rfl ?_
    intro S
    conv => whnf
    repeat' (first
 | with_reducible ((first | refine r_seq (fun KS hS => ?_) | (refine hS _ _ ?_; clear hS KS) | (refine hB _ ?_; clear hB KB)))
 | ((with_reducible (first | refine r_region ?_ | refine r_cond (fun KA hA KB hB => ?_) | refine r_ret ?_ | refine r_skip ?_)); conv => whnf)
 | ((with_reducible refine WrapK.i64 ?_ ?_); (focus omega); conv => whnf)
 | ((with_reducible refine CallK.id ?_); refine CallK.frE (by repeat (first | with_reducible apply At.head | apply At.tail)) (fun w => funit203 hb w) ?_; conv => whnf)
 | (refine if_decF (by omega) ?_; conv => whnf)
 | with_reducible apply_assumption -symm -exfalso)
    exact FinK.fr (y := .ext 0 (RfA p (rdU st).2)) rfl (HSub.ext (fun _ _ h => h) HSub.nil) (fun _ _ h => h)
theorem fsmall123e {p : Nat} {st st' : RSt} {n : Nat} (hb : RB st) (e : rdS 2147483648 st = (n, st')) (w : World) : Fr Tryz.prog 123 #[pv p] w (RfA p st) (.int .i64 n) (RfA p st') := by
  have := fsmall123 (p := p) hb w
  rw [e] at this; exact this
theorem ftext125e {p : Nat} {st st' : RSt} {s : ByteArray} (hb : RB st) (e : rdT st = (s, st')) (w : World) : Fr Tryz.prog 125 #[pv p] w (RfA p st) (.string s) (RfA p st') := by
  have := ftext125 (p := p) hb w
  rw [e] at this; exact this
theorem fint126e {p : Nat} {st st' : RSt} {a : Int} (hb : RB st) (e : rdI st = (a, st')) (w : World) : Fr Tryz.prog 126 #[pv p] w (RfA p st) (.int .i64 a) (RfA p st') := by
  have := fint126 (p := p) hb w
  rw [e] at this; exact this
theorem fdecEffT79 {l : List UInt8} {a : Option Addr} {n cap : Nat} {w : World} (hr : RdS w 5 1 a n cap (bcells l)) (hln : l.length ≤ 1099511627776) {s t p : Nat} {k : ByteArray} {d : Int} {u0 u1 u2 u3 u4 u5 : RSt} (e0 : rdS 2147483648 (some l) = (1, u0)) (e1 : rdS 2147483648 u0 = (s, u1)) (e2 : rdS 2147483648 u1 = (t, u2)) (e3 : rdS 2147483648 u2 = (p, u3)) (e4 : rdT u3 = (k, u4)) (e5 : rdI u4 = (d, u5)) : ∃ v : Value, ((v = .tuple #[.agg #[.int .i64 0, .int .i64 0, .int .i64 0, .int .i64 0, .int .i64 0, .int .i64 0, .string ⟨#[]⟩, .int .i64 0, .int .i64 0, .string ⟨#[]⟩, .string ⟨#[]⟩, .int .i64 0, .string ⟨#[]⟩, .int .i64 0, .int .i64 0, .slice none 0 0, .int .i64 0, .int .i64 0, .int .i64 0, .int .i64 0, .bool false, .int .i64 0, .int .i64 0, .string ⟨#[]⟩], .int .i64 10] ∧ ¬ (l.length ≤ 65536 ∧ u5 = some [] ∧ (EffOk s t p ∧ nameOk k = true ∧ d ≠ 0 ∧ NumOk d))) ∨ (v = .tuple #[.agg #[.int .i64 1, .int .i64 0, .int .i64 0, .int .i64 (s : Nat), .int .i64 (t : Nat), .int .i64 (p : Nat), .string k, .int .i64 d, .int .i64 0, .string ⟨#[]⟩, .string ⟨#[]⟩, .int .i64 0, .string ⟨#[]⟩, .int .i64 0, .int .i64 0, .slice none 0 0, .int .i64 0, .int .i64 0, .int .i64 0, .int .i64 0, .bool false, .int .i64 0, .int .i64 0, .string ⟨#[]⟩], .int .i64 0] ∧ l.length ≤ 65536 ∧ u5 = some [] ∧ (EffOk s t p ∧ nameOk k = true ∧ d ≠ 0 ∧ NumOk d))) ∧ Pu Tryz.prog 79 #[.slice a n cap] w v := by
  have hlen := hr.len
  rw [bcells_length, Nat.mul_one] at hlen
  subst hlen
  have hs := fun n' r H => Sees.old (c := ⟨Tryz.prog, TB, n', w, noS, r, TBok⟩) (H := H) hr.old
  have rb : RB (some l) := RB.len hln
  have hne : l.length ≠ 0 := by
    intro h
    obtain rfl := List.length_eq_zero_iff.1 h
    have h1 : (rdS 2147483648 (some [])).1 = 1 := by rw [e0]
    exact absurd h1 (by decide)
  have rb0 : RB u0 := by have := RB.S (most := 2147483648) rb; rw [e0] at this; exact this
  have rb1 : RB u1 := by have := RB.S (most := 2147483648) rb0; rw [e1] at this; exact this
  have rb2 : RB u2 := by have := RB.S (most := 2147483648) rb1; rw [e2] at this; exact this
  have rb3 : RB u3 := by have := RB.S (most := 2147483648) rb2; rw [e3] at this; exact this
  have rb4 : RB u4 := by have := RB.T rb3; rw [e4] at this; exact this
  have hk4 : k.size ≤ 1099511627776 := by have := rdT_size u3; rw [e4] at this; dsimp only at this; omega
  have rb5 : RB u5 := by have := RB.I rb4; rw [e5] at this; exact this
  obtain ⟨e, he, hchk⟩ := fcheckEffT130 (s := s) (t := t) (p := p) (k := k) (d := d) hk4
  by_cases hl : l.length ≤ 65536
  by_cases hend : u5 = some []
  by_cases he0 : e = 0
  subst he0
  refine ⟨_, .inr ⟨rfl, hl, hend, he.1 rfl⟩, ?_⟩
  rotate_left
  refine ⟨_, .inl ⟨rfl, fun h => he0 (he.2 h.2.2)⟩, ?_⟩
  rotate_left
  refine ⟨_, .inl ⟨rfl, fun h => hend h.2.1⟩, ?_⟩
  rotate_left
  refine ⟨_, .inl ⟨rfl, fun h => hl h.1⟩, ?_⟩
  all_goals (refine enter_sound TBok Tryz.func79 rfl rfl Tryz.ntmps79 [.v (.slice a l.length cap)] (Kn.start w noS) rfl rfl ?_; conv => whnf)
  repeat' (first
 | with_reducible ((first | refine r_seq (fun KS hS => ?_) | (refine hS _ _ ?_; clear hS KS) | (refine hA _ ?_; clear hA KA) | (refine hB _ ?_; clear hB KB) | refine r_block ?_))
 | ((with_reducible (first | refine r_region ?_ | refine r_cond (fun KA hA KB hB => ?_) | refine r_ret ?_ | refine r_skip ?_ | refine And.intro rfl ?_ | intro b)); conv => whnf)
 | ((with_reducible refine CallK.id ?_); refine CallK.fresh (fun ms w hk => fread122 (l := l) (Sees.rd (hs _ _ _) hk) (by omega)) ?_; conv => whnf)
 | ((with_reducible refine CallK.id ?_); (first | refine CallK.frE (by repeat (first | with_reducible apply At.head | apply At.tail)) (fun w => fsmall123e rb e0 w) ?_ | refine CallK.frE (by repeat (first | with_reducible apply At.head | apply At.tail)) (fun w => fsmall123e rb0 e1 w) ?_ | refine CallK.frE (by repeat (first | with_reducible apply At.head | apply At.tail)) (fun w => fsmall123e rb1 e2 w) ?_ | refine CallK.frE (by repeat (first | with_reducible apply At.head | apply At.tail)) (fun w => fsmall123e rb2 e3 w) ?_ | refine CallK.frE (by repeat (first | with_reducible apply At.head | apply At.tail)) (fun w => ftext125e rb3 e4 w) ?_ | refine CallK.frE (by repeat (first | with_reducible apply At.head | apply At.tail)) (fun w => fint126e rb4 e5 w) ?_); conv => whnf)
 | ((with_reducible refine CallK.id ?_); refine CallK.frE (by repeat (first | with_reducible apply At.head | apply At.tail)) (fun w => fend129 w) ?_; rw [if_pos hend]; conv => whnf)
 | ((with_reducible refine CallK.id ?_); (first | (refine CallK.frE (by repeat (first | with_reducible apply At.head | apply At.tail)) (fun w => fend129 w) ?_; rw [if_neg hend]) | refine CallK.pu (fun w => hchk w) ?_); conv => whnf)
 | ((first | refine if_decT (by omega) ?_ | refine if_decF (by omega) ?_ | refine if_ndecT (by omega) ?_); conv => whnf)
 | with_reducible apply_assumption -symm -exfalso)
  all_goals first | exact FinK.pu rfl | (exfalso; omega)
end Go.Proofs.YtbgnoibellfojaaGreatDoor

namespace Go.Proofs.YtbgnoibellfojaaGreatDoor
open Go Go.X
set_option maxRecDepth 100000
set_option maxHeartbeats 0
theorem fitemX74 {a b c m g : Int} {i : Bool} : ∃ e : Int, ∀ w, Pu Tryz.prog 74 #[.agg #[.int .i64 a, .int .i64 b, .int .i64 c, .int .i64 m, .bool i, .int .i64 g]] w (.int .i64 e) := by
  have heff := fun w => feff119 (s := a) (t := b) (p := c) w
  obtain ⟨ee, hee⟩ : ∃ ee : Int, (if (1 ≤ a ∧ a ≤ 9999) ∧ (0 ≤ b ∧ b ≤ 7) ∧ (1 ≤ c ∧ c ≤ 3) then (0 : Int) else 2) = ee := ⟨_, rfl⟩
  rw [hee] at heff
  clear hee
  by_cases hg : 1 ≤ g ∧ g ≤ 7
  by_cases hm : m = 0
  rcases Bool.eq_false_or_eq_true i with rfl | rfl
  refine ⟨2, fun w => ?_⟩
  rotate_left
  refine ⟨ee, fun w => ?_⟩
  rotate_left
  by_cases hr : 1 ≤ m ∧ m ≤ 64
  by_cases hz : a = 0 ∧ b = 0 ∧ c = 0
  have hB : (decide (a = 0) && (decide (b = 0) && (decide (c = 0) && true))) = true := by simp [hz]
  have hB2 : (!(decide (a = 0) && (decide (b = 0) && (decide (c = 0) && true)))) = false := by rw [hB]; rfl
  refine ⟨0, fun w => ?_⟩
  rotate_left
  have hB : (decide (a = 0) && (decide (b = 0) && (decide (c = 0) && true))) = false := by
    rw [Bool.eq_false_iff]; intro h; simp only [Bool.and_true, Bool.and_eq_true, decide_eq_true_eq] at h; exact hz h
  have hB2 : (!(decide (a = 0) && (decide (b = 0) && (decide (c = 0) && true)))) = true := by rw [hB]; rfl
  refine ⟨2, fun w => ?_⟩
  rotate_left
  refine ⟨2, fun w => ?_⟩
  rotate_left
  refine ⟨2, fun w => ?_⟩
  all_goals (refine enter_sound TBok Tryz.func74 rfl rfl Tryz.ntmps74 [.agg [.v (.int .i64 a), .v (.int .i64 b), .v (.int .i64 c), .v (.int .i64 m), .v (.bool _), .v (.int .i64 g)]] (Kn.start w noS) rfl rfl ?_; conv => whnf)
  repeat' (first
 | with_reducible ((first | refine r_seq (fun KS hS => ?_) | (refine hS _ _ ?_; clear hS KS) | (refine hA _ ?_; clear hA KA) | (refine hB _ ?_; clear hB KB)))
 | ((with_reducible (first | refine r_region ?_ | refine r_cond (fun KA hA KB hB => ?_) | refine r_ret ?_ | refine r_skip ?_ | refine And.intro rfl ?_ | intro b)); conv => whnf)
 | (refine if_t (by assumption) ?_; conv => whnf)
 | (refine if_f (by assumption) ?_; conv => whnf)
 | ((with_reducible refine CallK.id ?_); refine CallK.pu (fun w => heff w) ?_; conv => whnf)
 | ((with_reducible apply OpK.more); (focus refine sok); (conv => whnf); fail_if_success guard_target =ₛ False)
 | ((first | refine if_decT (by omega) ?_ | refine if_decF (by omega) ?_); conv => whnf)
 | (refine if_dec (fun h => ?_) (fun h => ?_); all_goals (conv => whnf))
 | with_reducible apply_assumption -symm -exfalso)
  all_goals first | exact FinK.pu rfl | (exfalso; omega)
theorem fcheckReadX130 {q : Int} {k : ByteArray} (hks : k.size ≤ 1099511627776) : ∃ e : Int, ∀ w, Pu Tryz.prog 130 #[.agg #[.int .i64 2, .int .i64 q, .int .i64 0, .int .i64 0, .int .i64 0, .int .i64 0, .string k, .int .i64 0, .int .i64 0, .string ⟨#[]⟩, .string ⟨#[]⟩, .int .i64 0, .string ⟨#[]⟩, .int .i64 0, .int .i64 0, .slice none 0 0, .int .i64 0, .int .i64 0, .int .i64 0, .int .i64 0, .bool false, .int .i64 0, .int .i64 0, .string ⟨#[]⟩]] w (.int .i64 e) := by
  by_cases h0 : (0 : Int) ≤ q ∧ q ≤ 2147483648
  rcases Bool.eq_false_or_eq_true (nameOk k) with h1 | h1
  refine ⟨0, fun w => ?_⟩
  rotate_left
  refine ⟨2, fun w => ?_⟩
  rotate_left
  refine ⟨2, fun w => ?_⟩
  all_goals (refine enter_sound TBok Tryz.func130 rfl rfl Tryz.ntmps130 [.agg [.v (.int .i64 2), .v (.int .i64 q), .v (.int .i64 0), .v (.int .i64 0), .v (.int .i64 0), .v (.int .i64 0), .v (.string k), .v (.int .i64 0), .v (.int .i64 0), .v (.string ⟨#[]⟩), .v (.string ⟨#[]⟩), .v (.int .i64 0), .v (.string ⟨#[]⟩), .v (.int .i64 0), .v (.int .i64 0), .v (.slice none 0 0), .v (.int .i64 0), .v (.int .i64 0), .v (.int .i64 0), .v (.int .i64 0), .v (.bool false), .v (.int .i64 0), .v (.int .i64 0), .v (.string ⟨#[]⟩)]] (Kn.start w noS) rfl rfl ?_; conv => whnf)
  repeat' (first
 | with_reducible ((first | refine r_seq (fun KS hS => ?_) | (refine hS _ _ ?_; clear hS KS) | (refine hA _ ?_; clear hA KA) | (refine hB _ ?_; clear hB KB) | refine r_block ?_))
 | ((with_reducible (first | refine r_region ?_ | refine r_cond (fun KA hA KB hB => ?_) | refine r_ret ?_ | refine r_skip ?_ | refine And.intro rfl ?_ | intro b)); conv => whnf)
 | ((with_reducible refine CallK.id ?_); (first | apply in208 | apply in283); rfl; rfl; rfl; intro A; conv => whnf)
 | ((with_reducible refine CallK.at 16 ?_); refine CallK.pu (fun w => feqCmd16 w) ?_; conv => whnf)
 | ((with_reducible refine CallK.at 282 ?_); refine CallK.pu (fun w => fname282 hks w) ?_; rw [h1]; conv => whnf)
 | ((first | refine if_decT (by omega) ?_ | refine if_decF (by omega) ?_); conv => whnf)
 | (refine if_dec (fun h => ?_) (fun h => ?_); all_goals (conv => whnf))
 | with_reducible apply_assumption -symm -exfalso)
  all_goals first | exact FinK.pu rfl | (exfalso; omega)
theorem fcheckStatusX130 {q s : Int} : ∃ e : Int, ∀ w, Pu Tryz.prog 130 #[.agg #[.int .i64 12, .int .i64 q, .int .i64 s, .int .i64 0, .int .i64 0, .int .i64 0, .string ⟨#[]⟩, .int .i64 0, .int .i64 0, .string ⟨#[]⟩, .string ⟨#[]⟩, .int .i64 0, .string ⟨#[]⟩, .int .i64 0, .int .i64 0, .slice none 0 0, .int .i64 0, .int .i64 0, .int .i64 0, .int .i64 0, .bool false, .int .i64 0, .int .i64 0, .string ⟨#[]⟩]] w (.int .i64 e) := by
  by_cases h0 : (0 : Int) ≤ q ∧ q ≤ 2147483648
  by_cases h1 : (1 : Int) ≤ s ∧ s ≤ 9999
  refine ⟨0, fun w => ?_⟩
  rotate_left
  refine ⟨2, fun w => ?_⟩
  rotate_left
  refine ⟨2, fun w => ?_⟩
  all_goals (refine enter_sound TBok Tryz.func130 rfl rfl Tryz.ntmps130 [.agg [.v (.int .i64 12), .v (.int .i64 q), .v (.int .i64 s), .v (.int .i64 0), .v (.int .i64 0), .v (.int .i64 0), .v (.string ⟨#[]⟩), .v (.int .i64 0), .v (.int .i64 0), .v (.string ⟨#[]⟩), .v (.string ⟨#[]⟩), .v (.int .i64 0), .v (.string ⟨#[]⟩), .v (.int .i64 0), .v (.int .i64 0), .v (.slice none 0 0), .v (.int .i64 0), .v (.int .i64 0), .v (.int .i64 0), .v (.int .i64 0), .v (.bool false), .v (.int .i64 0), .v (.int .i64 0), .v (.string ⟨#[]⟩)]] (Kn.start w noS) rfl rfl ?_; conv => whnf)
  repeat' (first
 | with_reducible ((first | refine r_seq (fun KS hS => ?_) | (refine hS _ _ ?_; clear hS KS) | (refine hA _ ?_; clear hA KA) | (refine hB _ ?_; clear hB KB) | refine r_block ?_))
 | ((with_reducible (first | refine r_region ?_ | refine r_cond (fun KA hA KB hB => ?_) | refine r_ret ?_ | refine r_skip ?_ | refine And.intro rfl ?_ | intro b)); conv => whnf)
 | ((with_reducible refine CallK.id ?_); (first | apply in208 | apply in283 | apply in287); rfl; rfl; rfl; intro A; conv => whnf)
 | ((with_reducible refine CallK.at 16 ?_); refine CallK.pu (fun w => feqCmd16 w) ?_; conv => whnf)
 | ((first | refine if_decT (by omega) ?_ | refine if_decF (by omega) ?_ | refine if_ndecT (by omega) ?_ | refine if_ndecF (by omega) ?_); conv => whnf)
 | (refine if_dec (fun h => ?_) (fun h => ?_); all_goals (conv => whnf))
 | with_reducible apply_assumption -symm -exfalso)
  all_goals first | exact FinK.pu rfl | (exfalso; omega)
theorem fcheckCancelX130 {q s : Int} : ∃ e : Int, ∀ w, Pu Tryz.prog 130 #[.agg #[.int .i64 13, .int .i64 q, .int .i64 s, .int .i64 0, .int .i64 0, .int .i64 0, .string ⟨#[]⟩, .int .i64 0, .int .i64 0, .string ⟨#[]⟩, .string ⟨#[]⟩, .int .i64 0, .string ⟨#[]⟩, .int .i64 0, .int .i64 0, .slice none 0 0, .int .i64 0, .int .i64 0, .int .i64 0, .int .i64 0, .bool false, .int .i64 0, .int .i64 0, .string ⟨#[]⟩]] w (.int .i64 e) := by
  by_cases h0 : (0 : Int) ≤ q ∧ q ≤ 2147483648
  by_cases h1 : (1 : Int) ≤ s ∧ s ≤ 9999
  refine ⟨0, fun w => ?_⟩
  rotate_left
  refine ⟨2, fun w => ?_⟩
  rotate_left
  refine ⟨2, fun w => ?_⟩
  all_goals (refine enter_sound TBok Tryz.func130 rfl rfl Tryz.ntmps130 [.agg [.v (.int .i64 13), .v (.int .i64 q), .v (.int .i64 s), .v (.int .i64 0), .v (.int .i64 0), .v (.int .i64 0), .v (.string ⟨#[]⟩), .v (.int .i64 0), .v (.int .i64 0), .v (.string ⟨#[]⟩), .v (.string ⟨#[]⟩), .v (.int .i64 0), .v (.string ⟨#[]⟩), .v (.int .i64 0), .v (.int .i64 0), .v (.slice none 0 0), .v (.int .i64 0), .v (.int .i64 0), .v (.int .i64 0), .v (.int .i64 0), .v (.bool false), .v (.int .i64 0), .v (.int .i64 0), .v (.string ⟨#[]⟩)]] (Kn.start w noS) rfl rfl ?_; conv => whnf)
  repeat' (first
 | with_reducible ((first | refine r_seq (fun KS hS => ?_) | (refine hS _ _ ?_; clear hS KS) | (refine hA _ ?_; clear hA KA) | (refine hB _ ?_; clear hB KB) | refine r_block ?_))
 | ((with_reducible (first | refine r_region ?_ | refine r_cond (fun KA hA KB hB => ?_) | refine r_ret ?_ | refine r_skip ?_ | refine And.intro rfl ?_ | intro b)); conv => whnf)
 | ((with_reducible refine CallK.id ?_); (first | apply in208 | apply in283 | apply in287); rfl; rfl; rfl; intro A; conv => whnf)
 | ((with_reducible refine CallK.at 16 ?_); refine CallK.pu (fun w => feqCmd16 w) ?_; conv => whnf)
 | ((first | refine if_decT (by omega) ?_ | refine if_decF (by omega) ?_ | refine if_ndecT (by omega) ?_ | refine if_ndecF (by omega) ?_); conv => whnf)
 | (refine if_dec (fun h => ?_) (fun h => ?_); all_goals (conv => whnf))
 | with_reducible apply_assumption -symm -exfalso)
  all_goals first | exact FinK.pu rfl | (exfalso; omega)
theorem fcheckMoveX130 {q g : Int} {f t : ByteArray} (hf : f.size ≤ 1099511627776) (ht : t.size ≤ 1099511627776) : ∃ e : Int, ∀ w, Pu Tryz.prog 130 #[.agg #[.int .i64 14, .int .i64 q, .int .i64 0, .int .i64 0, .int .i64 0, .int .i64 0, .string ⟨#[]⟩, .int .i64 0, .int .i64 0, .string f, .string t, .int .i64 g, .string ⟨#[]⟩, .int .i64 0, .int .i64 0, .slice none 0 0, .int .i64 0, .int .i64 0, .int .i64 0, .int .i64 0, .bool false, .int .i64 0, .int .i64 0, .string ⟨#[]⟩]] w (.int .i64 e) := by
  by_cases h0 : (0 : Int) ≤ q ∧ q ≤ 2147483648
  rcases Bool.eq_false_or_eq_true (rangeOk f t) with h1 | h1
  by_cases h2 : (1 : Int) ≤ g ∧ g ≤ 7
  refine ⟨0, fun w => ?_⟩
  rotate_left
  refine ⟨2, fun w => ?_⟩
  rotate_left
  refine ⟨2, fun w => ?_⟩
  rotate_left
  refine ⟨2, fun w => ?_⟩
  all_goals (refine enter_sound TBok Tryz.func130 rfl rfl Tryz.ntmps130 [.agg [.v (.int .i64 14), .v (.int .i64 q), .v (.int .i64 0), .v (.int .i64 0), .v (.int .i64 0), .v (.int .i64 0), .v (.string ⟨#[]⟩), .v (.int .i64 0), .v (.int .i64 0), .v (.string f), .v (.string t), .v (.int .i64 g), .v (.string ⟨#[]⟩), .v (.int .i64 0), .v (.int .i64 0), .v (.slice none 0 0), .v (.int .i64 0), .v (.int .i64 0), .v (.int .i64 0), .v (.int .i64 0), .v (.bool false), .v (.int .i64 0), .v (.int .i64 0), .v (.string ⟨#[]⟩)]] (Kn.start w noS) rfl rfl ?_; conv => whnf)
  repeat' (first
 | with_reducible ((first | refine r_seq (fun KS hS => ?_) | (refine hS _ _ ?_; clear hS KS) | (refine hA _ ?_; clear hA KA) | (refine hB _ ?_; clear hB KB) | refine r_block ?_))
 | ((with_reducible (first | refine r_region ?_ | refine r_cond (fun KA hA KB hB => ?_) | refine r_ret ?_ | refine r_skip ?_ | refine And.intro rfl ?_ | intro b)); conv => whnf)
 | ((with_reducible refine CallK.id ?_); (first | apply in208 | apply in283); rfl; rfl; rfl; intro A; conv => whnf)
 | ((with_reducible refine CallK.at 16 ?_); refine CallK.pu (fun w => feqCmd16 w) ?_; conv => whnf)
 | ((with_reducible refine CallK.at 285 ?_); refine CallK.pu (fun w => frange285 hf ht w) ?_; rw [h1]; conv => whnf)
 | ((first | refine if_decT (by omega) ?_ | refine if_decF (by omega) ?_ | refine if_ndecT (by omega) ?_ | refine if_ndecF (by omega) ?_); conv => whnf)
 | (refine if_dec (fun h => ?_) (fun h => ?_); all_goals (conv => whnf))
 | with_reducible apply_assumption -symm -exfalso)
  all_goals first | exact FinK.pu rfl | (exfalso; omega)
theorem fcheckResultX130 {a b c m g r : Int} {i : Bool} {x : ByteArray} : ∃ e : Int, ∀ w, Pu Tryz.prog 130 #[.agg #[.int .i64 15, .int .i64 0, .int .i64 0, .int .i64 0, .int .i64 0, .int .i64 0, .string ⟨#[]⟩, .int .i64 0, .int .i64 0, .string ⟨#[]⟩, .string ⟨#[]⟩, .int .i64 0, .string ⟨#[]⟩, .int .i64 0, .int .i64 0, .slice none 0 0, .int .i64 a, .int .i64 b, .int .i64 c, .int .i64 m, .bool i, .int .i64 g, .int .i64 r, .string x]] w (.int .i64 e) := by
  obtain ⟨ei, hitem⟩ := fitemX74 (a := a) (b := b) (c := c) (m := m) (g := g) (i := i)
  by_cases h0 : ei = 0
  subst h0
  by_cases h1 : (0 ≤ r ∧ r ≤ 18)
  by_cases h2 : x.size ≤ 65536
  refine ⟨0, fun w => ?_⟩
  rotate_left
  refine ⟨2, fun w => ?_⟩
  rotate_left
  refine ⟨2, fun w => ?_⟩
  rotate_left
  refine ⟨2, fun w => ?_⟩
  all_goals (refine enter_sound TBok Tryz.func130 rfl rfl Tryz.ntmps130 [.agg [.v (.int .i64 15), .v (.int .i64 0), .v (.int .i64 0), .v (.int .i64 0), .v (.int .i64 0), .v (.int .i64 0), .v (.string ⟨#[]⟩), .v (.int .i64 0), .v (.int .i64 0), .v (.string ⟨#[]⟩), .v (.string ⟨#[]⟩), .v (.int .i64 0), .v (.string ⟨#[]⟩), .v (.int .i64 0), .v (.int .i64 0), .v (.slice none 0 0), .v (.int .i64 a), .v (.int .i64 b), .v (.int .i64 c), .v (.int .i64 m), .v (.bool i), .v (.int .i64 g), .v (.int .i64 r), .v (.string x)]] (Kn.start w noS) rfl rfl ?_; conv => whnf)
  repeat' (first
 | with_reducible ((first | refine r_seq (fun KS hS => ?_) | (refine hS _ _ ?_; clear hS KS) | (refine hA _ ?_; clear hA KA) | (refine hB _ ?_; clear hB KB) | refine r_block ?_))
 | ((with_reducible (first | refine r_region ?_ | refine r_cond (fun KA hA KB hB => ?_) | refine r_ret ?_ | refine r_skip ?_ | refine And.intro rfl ?_ | intro b)); conv => whnf)
 | ((with_reducible refine CallK.id ?_); (first | apply in208 | apply in286); rfl; rfl; rfl; intro A; conv => whnf)
 | ((with_reducible refine CallK.at 16 ?_); refine CallK.pu (fun w => feqCmd16 w) ?_; conv => whnf)
 | ((with_reducible refine CallK.id ?_); refine CallK.pu (fun w => hitem w) ?_; conv => whnf)
 | ((first | refine if_decT (by omega) ?_ | refine if_decF (by omega) ?_ | refine if_ndecT (by omega) ?_ | refine if_ndecF (by omega) ?_); conv => whnf)
 | (refine if_dec (fun h => ?_) (fun h => ?_); all_goals (conv => whnf))
 | with_reducible apply_assumption -symm -exfalso)
  all_goals first | exact FinK.pu rfl | (exfalso; omega)
end Go.Proofs.YtbgnoibellfojaaGreatDoor

namespace Go.Proofs.YtbgnoibellfojaaGreatDoor
open Go Go.X
set_option maxRecDepth 100000
set_option maxHeartbeats 0
theorem fdecReadX79 {l : List UInt8} {a : Option Addr} {n cap : Nat} {w : World} (hr : RdS w 5 1 a n cap (bcells l)) (hln : l.length ≤ 1099511627776) {q : Nat} {k : ByteArray} {u0 u1 u2 : RSt} (e0 : rdS 2147483648 (some l) = (2, u0)) (e1 : rdS 2147483648 u0 = (q, u1)) (e2 : rdT u1 = (k, u2))  : ∃ v : Value, (v = .tuple #[.agg #[.int .i64 0, .int .i64 0, .int .i64 0, .int .i64 0, .int .i64 0, .int .i64 0, .string ⟨#[]⟩, .int .i64 0, .int .i64 0, .string ⟨#[]⟩, .string ⟨#[]⟩, .int .i64 0, .string ⟨#[]⟩, .int .i64 0, .int .i64 0, .slice none 0 0, .int .i64 0, .int .i64 0, .int .i64 0, .int .i64 0, .bool false, .int .i64 0, .int .i64 0, .string ⟨#[]⟩], .int .i64 10] ∨ v = .tuple #[.agg #[.int .i64 2, .int .i64 (q : Nat), .int .i64 0, .int .i64 0, .int .i64 0, .int .i64 0, .string k, .int .i64 0, .int .i64 0, .string ⟨#[]⟩, .string ⟨#[]⟩, .int .i64 0, .string ⟨#[]⟩, .int .i64 0, .int .i64 0, .slice none 0 0, .int .i64 0, .int .i64 0, .int .i64 0, .int .i64 0, .bool false, .int .i64 0, .int .i64 0, .string ⟨#[]⟩], .int .i64 0]) ∧ Pu Tryz.prog 79 #[.slice a n cap] w v := by
  have hlen := hr.len
  rw [bcells_length, Nat.mul_one] at hlen
  subst hlen
  have hs := fun n' r H => Sees.old (c := ⟨Tryz.prog, TB, n', w, noS, r, TBok⟩) (H := H) hr.old
  have rb : RB (some l) := RB.len hln
  have hne : l.length ≠ 0 := by
    intro h
    obtain rfl := List.length_eq_zero_iff.1 h
    have h1 : (rdS 2147483648 (some [])).1 = 2 := by rw [e0]
    exact absurd h1 (by decide)
  have rb0 : RB u0 := by have := RB.S (most := 2147483648) rb; rw [e0] at this; exact this
  have rb1 : RB u1 := by have := RB.S (most := 2147483648) rb0; rw [e1] at this; exact this
  have rb2 : RB u2 := by have := RB.T rb1; rw [e2] at this; exact this
  have hk2 : k.size ≤ 1099511627776 := by have := rdT_size u1; rw [e2] at this; dsimp only at this; omega
  obtain ⟨e, hchk⟩ := fcheckReadX130 (q := q) (k := k) hk2
  by_cases hl : l.length ≤ 65536
  by_cases hend : u2 = some []
  by_cases he0 : e = 0
  subst he0
  refine ⟨_, .inr rfl, ?_⟩
  rotate_left
  refine ⟨_, .inl rfl, ?_⟩
  rotate_left
  refine ⟨_, .inl rfl, ?_⟩
  rotate_left
  refine ⟨_, .inl rfl, ?_⟩
  all_goals (refine enter_sound TBok Tryz.func79 rfl rfl Tryz.ntmps79 [.v (.slice a l.length cap)] (Kn.start w noS) rfl rfl ?_; conv => whnf)
  repeat' (first
 | with_reducible ((first | refine r_seq (fun KS hS => ?_) | (refine hS _ _ ?_; clear hS KS) | (refine hA _ ?_; clear hA KA) | (refine hB _ ?_; clear hB KB) | refine r_block ?_))
 | ((with_reducible (first | refine r_region ?_ | refine r_cond (fun KA hA KB hB => ?_) | refine r_ret ?_ | refine r_skip ?_ | refine And.intro rfl ?_ | intro b)); conv => whnf)
 | ((with_reducible refine CallK.id ?_); refine CallK.fresh (fun ms w hk => fread122 (l := l) (Sees.rd (hs _ _ _) hk) (by omega)) ?_; conv => whnf)
 | ((with_reducible refine CallK.id ?_); (first | refine CallK.frE (by repeat (first | with_reducible apply At.head | apply At.tail)) (fun w => fsmall123e rb e0 w) ?_ | refine CallK.frE (by repeat (first | with_reducible apply At.head | apply At.tail)) (fun w => fsmall123e rb0 e1 w) ?_ | refine CallK.frE (by repeat (first | with_reducible apply At.head | apply At.tail)) (fun w => ftext125e rb1 e2 w) ?_ | (refine CallK.frE (by repeat (first | with_reducible apply At.head | apply At.tail)) (fun w => fend129 w) ?_; rw [if_pos hend]) | (refine CallK.frE (by repeat (first | with_reducible apply At.head | apply At.tail)) (fun w => fend129 w) ?_; rw [if_neg hend]) | refine CallK.pu (fun w => hchk w) ?_); conv => whnf)
 | ((first | refine if_decT (by omega) ?_ | refine if_decF (by omega) ?_ | refine if_ndecT (by omega) ?_); conv => whnf)
 | with_reducible apply_assumption -symm -exfalso)
  all_goals first | exact FinK.pu rfl | (exfalso; omega)
theorem fdecStatusX79 {l : List UInt8} {a : Option Addr} {n cap : Nat} {w : World} (hr : RdS w 5 1 a n cap (bcells l)) (hln : l.length ≤ 1099511627776) {q s : Nat} {u0 u1 u2 : RSt} (e0 : rdS 2147483648 (some l) = (12, u0)) (e1 : rdS 2147483648 u0 = (q, u1)) (e2 : rdS 2147483648 u1 = (s, u2))  : ∃ v : Value, (v = .tuple #[.agg #[.int .i64 0, .int .i64 0, .int .i64 0, .int .i64 0, .int .i64 0, .int .i64 0, .string ⟨#[]⟩, .int .i64 0, .int .i64 0, .string ⟨#[]⟩, .string ⟨#[]⟩, .int .i64 0, .string ⟨#[]⟩, .int .i64 0, .int .i64 0, .slice none 0 0, .int .i64 0, .int .i64 0, .int .i64 0, .int .i64 0, .bool false, .int .i64 0, .int .i64 0, .string ⟨#[]⟩], .int .i64 10] ∨ v = .tuple #[.agg #[.int .i64 12, .int .i64 (q : Nat), .int .i64 (s : Nat), .int .i64 0, .int .i64 0, .int .i64 0, .string ⟨#[]⟩, .int .i64 0, .int .i64 0, .string ⟨#[]⟩, .string ⟨#[]⟩, .int .i64 0, .string ⟨#[]⟩, .int .i64 0, .int .i64 0, .slice none 0 0, .int .i64 0, .int .i64 0, .int .i64 0, .int .i64 0, .bool false, .int .i64 0, .int .i64 0, .string ⟨#[]⟩], .int .i64 0]) ∧ Pu Tryz.prog 79 #[.slice a n cap] w v := by
  have hlen := hr.len
  rw [bcells_length, Nat.mul_one] at hlen
  subst hlen
  have hs := fun n' r H => Sees.old (c := ⟨Tryz.prog, TB, n', w, noS, r, TBok⟩) (H := H) hr.old
  have rb : RB (some l) := RB.len hln
  have hne : l.length ≠ 0 := by
    intro h
    obtain rfl := List.length_eq_zero_iff.1 h
    have h1 : (rdS 2147483648 (some [])).1 = 12 := by rw [e0]
    exact absurd h1 (by decide)
  have rb0 : RB u0 := by have := RB.S (most := 2147483648) rb; rw [e0] at this; exact this
  have rb1 : RB u1 := by have := RB.S (most := 2147483648) rb0; rw [e1] at this; exact this
  have rb2 : RB u2 := by have := RB.S (most := 2147483648) rb1; rw [e2] at this; exact this
  obtain ⟨e, hchk⟩ := fcheckStatusX130 (q := q) (s := s)
  by_cases hl : l.length ≤ 65536
  by_cases hend : u2 = some []
  by_cases he0 : e = 0
  subst he0
  refine ⟨_, .inr rfl, ?_⟩
  rotate_left
  refine ⟨_, .inl rfl, ?_⟩
  rotate_left
  refine ⟨_, .inl rfl, ?_⟩
  rotate_left
  refine ⟨_, .inl rfl, ?_⟩
  all_goals (refine enter_sound TBok Tryz.func79 rfl rfl Tryz.ntmps79 [.v (.slice a l.length cap)] (Kn.start w noS) rfl rfl ?_; conv => whnf)
  repeat' (first
 | with_reducible ((first | refine r_seq (fun KS hS => ?_) | (refine hS _ _ ?_; clear hS KS) | (refine hA _ ?_; clear hA KA) | (refine hB _ ?_; clear hB KB) | refine r_block ?_))
 | ((with_reducible (first | refine r_region ?_ | refine r_cond (fun KA hA KB hB => ?_) | refine r_ret ?_ | refine r_skip ?_ | refine And.intro rfl ?_ | intro b)); conv => whnf)
 | ((with_reducible refine CallK.id ?_); refine CallK.fresh (fun ms w hk => fread122 (l := l) (Sees.rd (hs _ _ _) hk) (by omega)) ?_; conv => whnf)
 | ((with_reducible refine CallK.id ?_); (first | refine CallK.frE (by repeat (first | with_reducible apply At.head | apply At.tail)) (fun w => fsmall123e rb e0 w) ?_ | refine CallK.frE (by repeat (first | with_reducible apply At.head | apply At.tail)) (fun w => fsmall123e rb0 e1 w) ?_ | refine CallK.frE (by repeat (first | with_reducible apply At.head | apply At.tail)) (fun w => fsmall123e rb1 e2 w) ?_ | (refine CallK.frE (by repeat (first | with_reducible apply At.head | apply At.tail)) (fun w => fend129 w) ?_; rw [if_pos hend]) | (refine CallK.frE (by repeat (first | with_reducible apply At.head | apply At.tail)) (fun w => fend129 w) ?_; rw [if_neg hend]) | refine CallK.pu (fun w => hchk w) ?_); conv => whnf)
 | ((first | refine if_decT (by omega) ?_ | refine if_decF (by omega) ?_ | refine if_ndecT (by omega) ?_); conv => whnf)
 | with_reducible apply_assumption -symm -exfalso)
  all_goals first | exact FinK.pu rfl | (exfalso; omega)
theorem fdecCancelX79 {l : List UInt8} {a : Option Addr} {n cap : Nat} {w : World} (hr : RdS w 5 1 a n cap (bcells l)) (hln : l.length ≤ 1099511627776) {q s : Nat} {u0 u1 u2 : RSt} (e0 : rdS 2147483648 (some l) = (13, u0)) (e1 : rdS 2147483648 u0 = (q, u1)) (e2 : rdS 2147483648 u1 = (s, u2))  : ∃ v : Value, (v = .tuple #[.agg #[.int .i64 0, .int .i64 0, .int .i64 0, .int .i64 0, .int .i64 0, .int .i64 0, .string ⟨#[]⟩, .int .i64 0, .int .i64 0, .string ⟨#[]⟩, .string ⟨#[]⟩, .int .i64 0, .string ⟨#[]⟩, .int .i64 0, .int .i64 0, .slice none 0 0, .int .i64 0, .int .i64 0, .int .i64 0, .int .i64 0, .bool false, .int .i64 0, .int .i64 0, .string ⟨#[]⟩], .int .i64 10] ∨ v = .tuple #[.agg #[.int .i64 13, .int .i64 (q : Nat), .int .i64 (s : Nat), .int .i64 0, .int .i64 0, .int .i64 0, .string ⟨#[]⟩, .int .i64 0, .int .i64 0, .string ⟨#[]⟩, .string ⟨#[]⟩, .int .i64 0, .string ⟨#[]⟩, .int .i64 0, .int .i64 0, .slice none 0 0, .int .i64 0, .int .i64 0, .int .i64 0, .int .i64 0, .bool false, .int .i64 0, .int .i64 0, .string ⟨#[]⟩], .int .i64 0]) ∧ Pu Tryz.prog 79 #[.slice a n cap] w v := by
  have hlen := hr.len
  rw [bcells_length, Nat.mul_one] at hlen
  subst hlen
  have hs := fun n' r H => Sees.old (c := ⟨Tryz.prog, TB, n', w, noS, r, TBok⟩) (H := H) hr.old
  have rb : RB (some l) := RB.len hln
  have hne : l.length ≠ 0 := by
    intro h
    obtain rfl := List.length_eq_zero_iff.1 h
    have h1 : (rdS 2147483648 (some [])).1 = 13 := by rw [e0]
    exact absurd h1 (by decide)
  have rb0 : RB u0 := by have := RB.S (most := 2147483648) rb; rw [e0] at this; exact this
  have rb1 : RB u1 := by have := RB.S (most := 2147483648) rb0; rw [e1] at this; exact this
  have rb2 : RB u2 := by have := RB.S (most := 2147483648) rb1; rw [e2] at this; exact this
  obtain ⟨e, hchk⟩ := fcheckCancelX130 (q := q) (s := s)
  by_cases hl : l.length ≤ 65536
  by_cases hend : u2 = some []
  by_cases he0 : e = 0
  subst he0
  refine ⟨_, .inr rfl, ?_⟩
  rotate_left
  refine ⟨_, .inl rfl, ?_⟩
  rotate_left
  refine ⟨_, .inl rfl, ?_⟩
  rotate_left
  refine ⟨_, .inl rfl, ?_⟩
  all_goals (refine enter_sound TBok Tryz.func79 rfl rfl Tryz.ntmps79 [.v (.slice a l.length cap)] (Kn.start w noS) rfl rfl ?_; conv => whnf)
  repeat' (first
 | with_reducible ((first | refine r_seq (fun KS hS => ?_) | (refine hS _ _ ?_; clear hS KS) | (refine hA _ ?_; clear hA KA) | (refine hB _ ?_; clear hB KB) | refine r_block ?_))
 | ((with_reducible (first | refine r_region ?_ | refine r_cond (fun KA hA KB hB => ?_) | refine r_ret ?_ | refine r_skip ?_ | refine And.intro rfl ?_ | intro b)); conv => whnf)
 | ((with_reducible refine CallK.id ?_); refine CallK.fresh (fun ms w hk => fread122 (l := l) (Sees.rd (hs _ _ _) hk) (by omega)) ?_; conv => whnf)
 | ((with_reducible refine CallK.id ?_); (first | refine CallK.frE (by repeat (first | with_reducible apply At.head | apply At.tail)) (fun w => fsmall123e rb e0 w) ?_ | refine CallK.frE (by repeat (first | with_reducible apply At.head | apply At.tail)) (fun w => fsmall123e rb0 e1 w) ?_ | refine CallK.frE (by repeat (first | with_reducible apply At.head | apply At.tail)) (fun w => fsmall123e rb1 e2 w) ?_ | (refine CallK.frE (by repeat (first | with_reducible apply At.head | apply At.tail)) (fun w => fend129 w) ?_; rw [if_pos hend]) | (refine CallK.frE (by repeat (first | with_reducible apply At.head | apply At.tail)) (fun w => fend129 w) ?_; rw [if_neg hend]) | refine CallK.pu (fun w => hchk w) ?_); conv => whnf)
 | ((first | refine if_decT (by omega) ?_ | refine if_decF (by omega) ?_ | refine if_ndecT (by omega) ?_); conv => whnf)
 | with_reducible apply_assumption -symm -exfalso)
  all_goals first | exact FinK.pu rfl | (exfalso; omega)
theorem fdecMoveX79 {l : List UInt8} {a : Option Addr} {n cap : Nat} {w : World} (hr : RdS w 5 1 a n cap (bcells l)) (hln : l.length ≤ 1099511627776) {q g : Nat} {f t : ByteArray} {u0 u1 u2 u3 u4 : RSt} (e0 : rdS 2147483648 (some l) = (14, u0)) (e1 : rdS 2147483648 u0 = (q, u1)) (e2 : rdT u1 = (f, u2)) (e3 : rdT u2 = (t, u3)) (e4 : rdS 2147483648 u3 = (g, u4))  : ∃ v : Value, (v = .tuple #[.agg #[.int .i64 0, .int .i64 0, .int .i64 0, .int .i64 0, .int .i64 0, .int .i64 0, .string ⟨#[]⟩, .int .i64 0, .int .i64 0, .string ⟨#[]⟩, .string ⟨#[]⟩, .int .i64 0, .string ⟨#[]⟩, .int .i64 0, .int .i64 0, .slice none 0 0, .int .i64 0, .int .i64 0, .int .i64 0, .int .i64 0, .bool false, .int .i64 0, .int .i64 0, .string ⟨#[]⟩], .int .i64 10] ∨ v = .tuple #[.agg #[.int .i64 14, .int .i64 (q : Nat), .int .i64 0, .int .i64 0, .int .i64 0, .int .i64 0, .string ⟨#[]⟩, .int .i64 0, .int .i64 0, .string f, .string t, .int .i64 (g : Nat), .string ⟨#[]⟩, .int .i64 0, .int .i64 0, .slice none 0 0, .int .i64 0, .int .i64 0, .int .i64 0, .int .i64 0, .bool false, .int .i64 0, .int .i64 0, .string ⟨#[]⟩], .int .i64 0]) ∧ Pu Tryz.prog 79 #[.slice a n cap] w v := by
  have hlen := hr.len
  rw [bcells_length, Nat.mul_one] at hlen
  subst hlen
  have hs := fun n' r H => Sees.old (c := ⟨Tryz.prog, TB, n', w, noS, r, TBok⟩) (H := H) hr.old
  have rb : RB (some l) := RB.len hln
  have hne : l.length ≠ 0 := by
    intro h
    obtain rfl := List.length_eq_zero_iff.1 h
    have h1 : (rdS 2147483648 (some [])).1 = 14 := by rw [e0]
    exact absurd h1 (by decide)
  have rb0 : RB u0 := by have := RB.S (most := 2147483648) rb; rw [e0] at this; exact this
  have rb1 : RB u1 := by have := RB.S (most := 2147483648) rb0; rw [e1] at this; exact this
  have rb2 : RB u2 := by have := RB.T rb1; rw [e2] at this; exact this
  have hk2 : f.size ≤ 1099511627776 := by have := rdT_size u1; rw [e2] at this; dsimp only at this; omega
  have rb3 : RB u3 := by have := RB.T rb2; rw [e3] at this; exact this
  have hk3 : t.size ≤ 1099511627776 := by have := rdT_size u2; rw [e3] at this; dsimp only at this; omega
  have rb4 : RB u4 := by have := RB.S (most := 2147483648) rb3; rw [e4] at this; exact this
  obtain ⟨e, hchk⟩ := fcheckMoveX130 (q := q) (g := g) (f := f) (t := t) hk2 hk3
  by_cases hl : l.length ≤ 65536
  by_cases hend : u4 = some []
  by_cases he0 : e = 0
  subst he0
  refine ⟨_, .inr rfl, ?_⟩
  rotate_left
  refine ⟨_, .inl rfl, ?_⟩
  rotate_left
  refine ⟨_, .inl rfl, ?_⟩
  rotate_left
  refine ⟨_, .inl rfl, ?_⟩
  all_goals (refine enter_sound TBok Tryz.func79 rfl rfl Tryz.ntmps79 [.v (.slice a l.length cap)] (Kn.start w noS) rfl rfl ?_; conv => whnf)
  repeat' (first
 | with_reducible ((first | refine r_seq (fun KS hS => ?_) | (refine hS _ _ ?_; clear hS KS) | (refine hA _ ?_; clear hA KA) | (refine hB _ ?_; clear hB KB) | refine r_block ?_))
 | ((with_reducible (first | refine r_region ?_ | refine r_cond (fun KA hA KB hB => ?_) | refine r_ret ?_ | refine r_skip ?_ | refine And.intro rfl ?_ | intro b)); conv => whnf)
 | ((with_reducible refine CallK.id ?_); refine CallK.fresh (fun ms w hk => fread122 (l := l) (Sees.rd (hs _ _ _) hk) (by omega)) ?_; conv => whnf)
 | (apply in127; rfl; rfl; rfl; intro A; conv => whnf)
 | ((with_reducible refine CallK.id ?_); (first | refine CallK.frE (by repeat (first | with_reducible apply At.head | apply At.tail)) (fun w => fsmall123e rb e0 w) ?_ | refine CallK.frE (by repeat (first | with_reducible apply At.head | apply At.tail)) (fun w => fsmall123e rb0 e1 w) ?_ | refine CallK.frE (by repeat (first | with_reducible apply At.head | apply At.tail)) (fun w => ftext125e rb1 e2 w) ?_ | refine CallK.frE (by repeat (first | with_reducible apply At.head | apply At.tail)) (fun w => ftext125e rb2 e3 w) ?_ | refine CallK.frE (by repeat (first | with_reducible apply At.head | apply At.tail)) (fun w => fsmall123e rb3 e4 w) ?_ | (refine CallK.frE (by repeat (first | with_reducible apply At.head | apply At.tail)) (fun w => fend129 w) ?_; rw [if_pos hend]) | (refine CallK.frE (by repeat (first | with_reducible apply At.head | apply At.tail)) (fun w => fend129 w) ?_; rw [if_neg hend]) | refine CallK.pu (fun w => hchk w) ?_); conv => whnf)
 | ((first | refine if_decT (by omega) ?_ | refine if_decF (by omega) ?_ | refine if_ndecT (by omega) ?_); conv => whnf)
 | with_reducible apply_assumption -symm -exfalso)
  all_goals first | exact FinK.pu rfl | (exfalso; omega)
theorem fdecResAX79 {l : List UInt8} {a : Option Addr} {n cap : Nat} {w : World} (hr : RdS w 5 1 a n cap (bcells l)) (hln : l.length ≤ 1099511627776) {nn : Nat} {a0 b0 c0 m0 g0 : Int} {i0 : Bool} {r : Nat} {x : ByteArray} {u0 u1 u2 u3 : RSt} (e0 : rdS 2147483648 (some l) = (15, u0)) (e1 : rdS 2147483648 u0 = (nn, u1)) (e2 : rdS 2147483648 u1 = (r, u2)) (e3 : rdT u2 = (x, u3)) (hfrom : ∀ w, Pu Tryz.prog 78 #[.int .i64 (nn : Nat)] w (.tuple #[.agg #[.int .i64 a0, .int .i64 b0, .int .i64 c0, .int .i64 m0, .bool i0, .int .i64 g0], .int .i64 0])) : ∃ v : Value, (v = .tuple #[.agg #[.int .i64 0, .int .i64 0, .int .i64 0, .int .i64 0, .int .i64 0, .int .i64 0, .string ⟨#[]⟩, .int .i64 0, .int .i64 0, .string ⟨#[]⟩, .string ⟨#[]⟩, .int .i64 0, .string ⟨#[]⟩, .int .i64 0, .int .i64 0, .slice none 0 0, .int .i64 0, .int .i64 0, .int .i64 0, .int .i64 0, .bool false, .int .i64 0, .int .i64 0, .string ⟨#[]⟩], .int .i64 10] ∨ v = .tuple #[.agg #[.int .i64 15, .int .i64 0, .int .i64 0, .int .i64 0, .int .i64 0, .int .i64 0, .string ⟨#[]⟩, .int .i64 0, .int .i64 0, .string ⟨#[]⟩, .string ⟨#[]⟩, .int .i64 0, .string ⟨#[]⟩, .int .i64 0, .int .i64 0, .slice none 0 0, .int .i64 a0, .int .i64 b0, .int .i64 c0, .int .i64 m0, .bool i0, .int .i64 g0, .int .i64 (r : Nat), .string x], .int .i64 0]) ∧ Pu Tryz.prog 79 #[.slice a n cap] w v := by
  have hlen := hr.len
  rw [bcells_length, Nat.mul_one] at hlen
  subst hlen
  have hs := fun n' r H => Sees.old (c := ⟨Tryz.prog, TB, n', w, noS, r, TBok⟩) (H := H) hr.old
  have rb : RB (some l) := RB.len hln
  have hne : l.length ≠ 0 := by
    intro h
    obtain rfl := List.length_eq_zero_iff.1 h
    have h1 : (rdS 2147483648 (some [])).1 = 15 := by rw [e0]
    exact absurd h1 (by decide)
  have rb0 : RB u0 := by have := RB.S (most := 2147483648) rb; rw [e0] at this; exact this
  have rb1 : RB u1 := by have := RB.S (most := 2147483648) rb0; rw [e1] at this; exact this
  have rb2 : RB u2 := by have := RB.S (most := 2147483648) rb1; rw [e2] at this; exact this
  have rb3 : RB u3 := by have := RB.T rb2; rw [e3] at this; exact this
  have hk3 : x.size ≤ 1099511627776 := by have := rdT_size u2; rw [e3] at this; dsimp only at this; omega
  obtain ⟨e, hchk⟩ := fcheckResultX130 (a := a0) (b := b0) (c := c0) (m := m0) (i := i0) (g := g0) (r := r) (x := x)
  by_cases hl : l.length ≤ 65536
  by_cases hend : u3 = some []
  by_cases he0 : e = 0
  subst he0
  refine ⟨_, .inr rfl, ?_⟩
  rotate_left
  refine ⟨_, .inl rfl, ?_⟩
  rotate_left
  refine ⟨_, .inl rfl, ?_⟩
  rotate_left
  refine ⟨_, .inl rfl, ?_⟩
  all_goals (refine enter_sound TBok Tryz.func79 rfl rfl Tryz.ntmps79 [.v (.slice a l.length cap)] (Kn.start w noS) rfl rfl ?_; conv => whnf)
  repeat' (first
 | with_reducible ((first | refine r_seq (fun KS hS => ?_) | (refine hS _ _ ?_; clear hS KS) | (refine hA _ ?_; clear hA KA) | (refine hB _ ?_; clear hB KB) | refine r_block ?_))
 | ((with_reducible (first | refine r_region ?_ | refine r_cond (fun KA hA KB hB => ?_) | refine r_ret ?_ | refine r_skip ?_ | refine And.intro rfl ?_ | intro b)); conv => whnf)
 | ((with_reducible refine CallK.id ?_); refine CallK.fresh (fun ms w hk => fread122 (l := l) (Sees.rd (hs _ _ _) hk) (by omega)) ?_; conv => whnf)
 | ((with_reducible refine CallK.id ?_); (first | refine CallK.frE (by repeat (first | with_reducible apply At.head | apply At.tail)) (fun w => fsmall123e rb e0 w) ?_ | refine CallK.frE (by repeat (first | with_reducible apply At.head | apply At.tail)) (fun w => fsmall123e rb0 e1 w) ?_ | refine CallK.frE (by repeat (first | with_reducible apply At.head | apply At.tail)) (fun w => fsmall123e rb1 e2 w) ?_ | refine CallK.frE (by repeat (first | with_reducible apply At.head | apply At.tail)) (fun w => ftext125e rb2 e3 w) ?_ | refine CallK.pu (fun w => hfrom w) ?_ | (refine CallK.frE (by repeat (first | with_reducible apply At.head | apply At.tail)) (fun w => fend129 w) ?_; rw [if_pos hend]) | (refine CallK.frE (by repeat (first | with_reducible apply At.head | apply At.tail)) (fun w => fend129 w) ?_; rw [if_neg hend]) | refine CallK.pu (fun w => hchk w) ?_); conv => whnf)
 | ((first | refine if_decT (by omega) ?_ | refine if_decF (by omega) ?_ | refine if_ndecT (by omega) ?_); conv => whnf)
 | with_reducible apply_assumption -symm -exfalso)
  all_goals first | exact FinK.pu rfl | (exfalso; omega)
theorem fdecResBX79 {l : List UInt8} {a : Option Addr} {n cap : Nat} {w : World} (hr : RdS w 5 1 a n cap (bcells l)) (hln : l.length ≤ 1099511627776) {nn : Nat} {a0 b0 c0 m0 g0 er : Int} {i0 : Bool} {r : Nat} {x : ByteArray} {u0 u1 u2 u3 u4 : RSt} (e0 : rdS 2147483648 (some l) = (15, u0)) (e1 : rdS 2147483648 u0 = (nn, u1)) (e2 : u2 = none) (e3 : rdS 2147483648 u2 = (r, u3)) (e4 : rdT u3 = (x, u4)) (her : er ≠ 0) (hfrom : ∀ w, Pu Tryz.prog 78 #[.int .i64 (nn : Nat)] w (.tuple #[.agg #[.int .i64 a0, .int .i64 b0, .int .i64 c0, .int .i64 m0, .bool i0, .int .i64 g0], .int .i64 er])) : ∃ v : Value, (v = .tuple #[.agg #[.int .i64 0, .int .i64 0, .int .i64 0, .int .i64 0, .int .i64 0, .int .i64 0, .string ⟨#[]⟩, .int .i64 0, .int .i64 0, .string ⟨#[]⟩, .string ⟨#[]⟩, .int .i64 0, .string ⟨#[]⟩, .int .i64 0, .int .i64 0, .slice none 0 0, .int .i64 0, .int .i64 0, .int .i64 0, .int .i64 0, .bool false, .int .i64 0, .int .i64 0, .string ⟨#[]⟩], .int .i64 10] ∨ v = .tuple #[.agg #[.int .i64 15, .int .i64 0, .int .i64 0, .int .i64 0, .int .i64 0, .int .i64 0, .string ⟨#[]⟩, .int .i64 0, .int .i64 0, .string ⟨#[]⟩, .string ⟨#[]⟩, .int .i64 0, .string ⟨#[]⟩, .int .i64 0, .int .i64 0, .slice none 0 0, .int .i64 a0, .int .i64 b0, .int .i64 c0, .int .i64 m0, .bool i0, .int .i64 g0, .int .i64 (r : Nat), .string x], .int .i64 0]) ∧ Pu Tryz.prog 79 #[.slice a n cap] w v := by
  have hlen := hr.len
  rw [bcells_length, Nat.mul_one] at hlen
  subst hlen
  have hs := fun n' r H => Sees.old (c := ⟨Tryz.prog, TB, n', w, noS, r, TBok⟩) (H := H) hr.old
  have rb : RB (some l) := RB.len hln
  have hne : l.length ≠ 0 := by
    intro h
    obtain rfl := List.length_eq_zero_iff.1 h
    have h1 : (rdS 2147483648 (some [])).1 = 15 := by rw [e0]
    exact absurd h1 (by decide)
  have rb0 : RB u0 := by have := RB.S (most := 2147483648) rb; rw [e0] at this; exact this
  have rb1 : RB u1 := by have := RB.S (most := 2147483648) rb0; rw [e1] at this; exact this
  have rb2 : RB u2 := by rw [e2]; exact RB.none
  have rb3 : RB u3 := by have := RB.S (most := 2147483648) rb2; rw [e3] at this; exact this
  have rb4 : RB u4 := by have := RB.T rb3; rw [e4] at this; exact this
  have hk4 : x.size ≤ 1099511627776 := by have := rdT_size u3; rw [e4] at this; dsimp only at this; omega
  obtain ⟨e, hchk⟩ := fcheckResultX130 (a := a0) (b := b0) (c := c0) (m := m0) (i := i0) (g := g0) (r := r) (x := x)
  by_cases hl : l.length ≤ 65536
  by_cases hend : u4 = some []
  by_cases he0 : e = 0
  subst he0
  refine ⟨_, .inr rfl, ?_⟩
  rotate_left
  refine ⟨_, .inl rfl, ?_⟩
  rotate_left
  refine ⟨_, .inl rfl, ?_⟩
  rotate_left
  refine ⟨_, .inl rfl, ?_⟩
  all_goals (refine enter_sound TBok Tryz.func79 rfl rfl Tryz.ntmps79 [.v (.slice a l.length cap)] (Kn.start w noS) rfl rfl ?_; conv => whnf)
  repeat' (first
 | with_reducible ((first | refine r_seq (fun KS hS => ?_) | (refine hS _ _ ?_; clear hS KS) | (refine hA _ ?_; clear hA KA) | (refine hB _ ?_; clear hB KB) | refine r_block ?_))
 | ((with_reducible (first | refine r_region ?_ | refine r_cond (fun KA hA KB hB => ?_) | refine r_ret ?_ | refine r_skip ?_ | refine And.intro rfl ?_ | intro b)); conv => whnf)
 | ((with_reducible refine CallK.id ?_); refine CallK.fresh (fun ms w hk => fread122 (l := l) (Sees.rd (hs _ _ _) hk) (by omega)) ?_; conv => whnf)
 | ((with_reducible refine CallK.id ?_); (first | refine CallK.frE (by repeat (first | with_reducible apply At.head | apply At.tail)) (fun w => fsmall123e rb e0 w) ?_ | refine CallK.frE (by repeat (first | with_reducible apply At.head | apply At.tail)) (fun w => fsmall123e rb0 e1 w) ?_ | (refine CallK.frE (by repeat (first | with_reducible apply At.head | apply At.tail)) (fun w => ffail124 w) ?_; rw [← e2]) | refine CallK.frE (by repeat (first | with_reducible apply At.head | apply At.tail)) (fun w => fsmall123e rb2 e3 w) ?_ | refine CallK.frE (by repeat (first | with_reducible apply At.head | apply At.tail)) (fun w => ftext125e rb3 e4 w) ?_ | refine CallK.pu (fun w => hfrom w) ?_ | (refine CallK.frE (by repeat (first | with_reducible apply At.head | apply At.tail)) (fun w => fend129 w) ?_; rw [if_pos hend]) | (refine CallK.frE (by repeat (first | with_reducible apply At.head | apply At.tail)) (fun w => fend129 w) ?_; rw [if_neg hend]) | refine CallK.pu (fun w => hchk w) ?_); conv => whnf)
 | ((first | refine if_decT (by omega) ?_ | refine if_decF (by omega) ?_ | refine if_ndecT (by omega) ?_); conv => whnf)
 | with_reducible apply_assumption -symm -exfalso)
  all_goals first | exact FinK.pu rfl | (exfalso; omega)
theorem fcheckNone130 {kk : Nat} (hk : (5 ≤ kk ∧ kk ≤ 10) ∨ 16 ≤ kk) (w : World) : Pu Tryz.prog 130 #[.agg #[.int .i64 (kk : Nat), .int .i64 0, .int .i64 0, .int .i64 0, .int .i64 0, .int .i64 0, .string ⟨#[]⟩, .int .i64 0, .int .i64 0, .string ⟨#[]⟩, .string ⟨#[]⟩, .int .i64 0, .string ⟨#[]⟩, .int .i64 0, .int .i64 0, .slice none 0 0, .int .i64 0, .int .i64 0, .int .i64 0, .int .i64 0, .bool false, .int .i64 0, .int .i64 0, .string ⟨#[]⟩]] w (.int .i64 2) := by
  refine enter_sound TBok Tryz.func130 rfl rfl Tryz.ntmps130 [.agg [.v (.int .i64 (kk : Nat)), .v (.int .i64 0), .v (.int .i64 0), .v (.int .i64 0), .v (.int .i64 0), .v (.int .i64 0), .v (.string ⟨#[]⟩), .v (.int .i64 0), .v (.int .i64 0), .v (.string ⟨#[]⟩), .v (.string ⟨#[]⟩), .v (.int .i64 0), .v (.string ⟨#[]⟩), .v (.int .i64 0), .v (.int .i64 0), .v (.slice none 0 0), .v (.int .i64 0), .v (.int .i64 0), .v (.int .i64 0), .v (.int .i64 0), .v (.bool false), .v (.int .i64 0), .v (.int .i64 0), .v (.string ⟨#[]⟩)]] (Kn.start w noS) rfl rfl ?_
  conv => whnf
  repeat' (first
 | with_reducible ((first | refine r_seq (fun KS hS => ?_) | (refine hS _ _ ?_; clear hS KS) | (refine hA _ ?_; clear hA KA) | (refine hB _ ?_; clear hB KB) | refine r_block ?_))
 | ((with_reducible (first | refine r_region ?_ | refine r_cond (fun KA hA KB hB => ?_) | refine r_ret ?_ | refine And.intro rfl ?_ | intro b)); conv => whnf)
 | (apply in208; rfl; rfl; rfl; intro A; conv => whnf)
 | (refine if_decF (by omega) ?_; conv => whnf)
 | with_reducible apply_assumption -symm -exfalso)
  all_goals first | exact FinK.pu rfl | (exfalso; omega)
theorem fdecNone79 {l : List UInt8} {a : Option Addr} {n cap : Nat} {w : World} (hr : RdS w 5 1 a n cap (bcells l)) (hln : l.length ≤ 1099511627776) {kk : Nat} {u0 : RSt} (e0 : rdS 2147483648 (some l) = (kk, u0)) (hk : (5 ≤ kk ∧ kk ≤ 10) ∨ 16 ≤ kk) : Pu Tryz.prog 79 #[.slice a n cap] w (.tuple #[.agg #[.int .i64 0, .int .i64 0, .int .i64 0, .int .i64 0, .int .i64 0, .int .i64 0, .string ⟨#[]⟩, .int .i64 0, .int .i64 0, .string ⟨#[]⟩, .string ⟨#[]⟩, .int .i64 0, .string ⟨#[]⟩, .int .i64 0, .int .i64 0, .slice none 0 0, .int .i64 0, .int .i64 0, .int .i64 0, .int .i64 0, .bool false, .int .i64 0, .int .i64 0, .string ⟨#[]⟩], .int .i64 10]) := by
  have hlen := hr.len
  rw [bcells_length, Nat.mul_one] at hlen
  subst hlen
  have hs := fun n' r H => Sees.old (c := ⟨Tryz.prog, TB, n', w, noS, r, TBok⟩) (H := H) hr.old
  have rb : RB (some l) := RB.len hln
  have hne : l.length ≠ 0 := by
    intro h
    obtain rfl := List.length_eq_zero_iff.1 h
    have h1 : (rdS 2147483648 (some [])).1 = kk := by rw [e0]
    have h2 : (rdS 2147483648 (some [])).1 = 0 := by decide
    omega
  have rb0 : RB u0 := by have := RB.S (most := 2147483648) rb; rw [e0] at this; exact this
  have hchk := fun w => fcheckNone130 (kk := kk) hk w
  by_cases hl : l.length ≤ 65536
  by_cases hend : u0 = some []
  all_goals (refine enter_sound TBok Tryz.func79 rfl rfl Tryz.ntmps79 [.v (.slice a l.length cap)] (Kn.start w noS) rfl rfl ?_; conv => whnf)
  repeat' (first
 | with_reducible ((first | refine r_seq (fun KS hS => ?_) | (refine hS _ _ ?_; clear hS KS) | (refine hA _ ?_; clear hA KA) | (refine hB _ ?_; clear hB KB) | refine r_block ?_))
 | ((with_reducible (first | refine r_region ?_ | refine r_cond (fun KA hA KB hB => ?_) | refine r_ret ?_ | refine r_skip ?_ | refine And.intro rfl ?_ | intro b)); conv => whnf)
 | ((with_reducible refine CallK.id ?_); refine CallK.fresh (fun ms w hk => fread122 (l := l) (Sees.rd (hs _ _ _) hk) (by omega)) ?_; conv => whnf)
 | ((with_reducible refine CallK.id ?_); (first | refine CallK.frE (by repeat (first | with_reducible apply At.head | apply At.tail)) (fun w => fsmall123e rb e0 w) ?_ | (refine CallK.frE (by repeat (first | with_reducible apply At.head | apply At.tail)) (fun w => fend129 w) ?_; rw [if_pos hend]) | (refine CallK.frE (by repeat (first | with_reducible apply At.head | apply At.tail)) (fun w => fend129 w) ?_; rw [if_neg hend]) | refine CallK.pu (fun w => hchk w) ?_); conv => whnf)
 | ((first | refine if_decT (by omega) ?_ | refine if_decF (by omega) ?_); conv => whnf)
 | with_reducible apply_assumption -symm -exfalso)
  all_goals first | exact FinK.pu rfl | (exfalso; omega)
theorem fdecZero79 {l : List UInt8} {a : Option Addr} {n cap : Nat} {w : World} (hr : RdS w 5 1 a n cap (bcells l)) (hln : l.length ≤ 1099511627776) {u0 : RSt} (e0 : rdS 2147483648 (some l) = (0, u0)) (hne : l.length ≠ 0) : Pu Tryz.prog 79 #[.slice a n cap] w (.tuple #[.agg #[.int .i64 0, .int .i64 0, .int .i64 0, .int .i64 0, .int .i64 0, .int .i64 0, .string ⟨#[]⟩, .int .i64 0, .int .i64 0, .string ⟨#[]⟩, .string ⟨#[]⟩, .int .i64 0, .string ⟨#[]⟩, .int .i64 0, .int .i64 0, .slice none 0 0, .int .i64 0, .int .i64 0, .int .i64 0, .int .i64 0, .bool false, .int .i64 0, .int .i64 0, .string ⟨#[]⟩], .int .i64 10]) := by
  have hlen := hr.len
  rw [bcells_length, Nat.mul_one] at hlen
  subst hlen
  have hs := fun n' r H => Sees.old (c := ⟨Tryz.prog, TB, n', w, noS, r, TBok⟩) (H := H) hr.old
  have rb : RB (some l) := RB.len hln
  have hnone : ¬ (none : RSt) = some [] := by simp
  all_goals (refine enter_sound TBok Tryz.func79 rfl rfl Tryz.ntmps79 [.v (.slice a l.length cap)] (Kn.start w noS) rfl rfl ?_; conv => whnf)
  repeat' (first
 | with_reducible ((first | refine r_seq (fun KS hS => ?_) | (refine hS _ _ ?_; clear hS KS) | (refine hA _ ?_; clear hA KA) | (refine hB _ ?_; clear hB KB) | refine r_block ?_))
 | ((with_reducible (first | refine r_region ?_ | refine r_cond (fun KA hA KB hB => ?_) | refine r_ret ?_ | refine r_skip ?_ | refine And.intro rfl ?_ | intro b)); conv => whnf)
 | ((with_reducible refine CallK.id ?_); refine CallK.fresh (fun ms w hk => fread122 (l := l) (Sees.rd (hs _ _ _) hk) (by omega)) ?_; conv => whnf)
 | ((with_reducible refine CallK.id ?_); (first | refine CallK.frE (by repeat (first | with_reducible apply At.head | apply At.tail)) (fun w => fsmall123e rb e0 w) ?_ | refine CallK.frE (by repeat (first | with_reducible apply At.head | apply At.tail)) (fun w => ffail124 w) ?_ | (refine CallK.frE (by repeat (first | with_reducible apply At.head | apply At.tail)) (fun w => fend129 w) ?_; rw [if_neg hnone])); conv => whnf)
 | (refine if_decF (by omega) ?_; conv => whnf)
 | (refine if_dec (fun h => ?_) (fun h => ?_); all_goals (conv => whnf))
 | with_reducible apply_assumption -symm -exfalso)
  all_goals first | exact FinK.pu rfl | (exfalso; omega)
theorem fdecNil79 {a : Option Addr} {cap : Nat} {w : World} : Pu Tryz.prog 79 #[.slice a 0 cap] w (.tuple #[.agg #[.int .i64 0, .int .i64 0, .int .i64 0, .int .i64 0, .int .i64 0, .int .i64 0, .string ⟨#[]⟩, .int .i64 0, .int .i64 0, .string ⟨#[]⟩, .string ⟨#[]⟩, .int .i64 0, .string ⟨#[]⟩, .int .i64 0, .int .i64 0, .slice none 0 0, .int .i64 0, .int .i64 0, .int .i64 0, .int .i64 0, .bool false, .int .i64 0, .int .i64 0, .string ⟨#[]⟩], .int .i64 0]) := by
  refine enter_sound TBok Tryz.func79 rfl rfl Tryz.ntmps79 [.v (.slice a 0 cap)] (Kn.start w noS) rfl rfl ?_
  conv => whnf
  repeat' (first
 | with_reducible ((first | refine r_seq (fun KS hS => ?_) | (refine hS _ _ ?_; clear hS KS) | (refine hA _ ?_; clear hA KA)))
 | ((with_reducible (first | refine r_region ?_ | refine r_cond (fun KA hA KB hB => ?_) | refine r_ret ?_ | refine And.intro rfl ?_ | intro b)); conv => whnf))
  all_goals exact FinK.pu rfl
end Go.Proofs.YtbgnoibellfojaaGreatDoor

namespace Go.Proofs.YtbgnoibellfojaaGreatDoor
open Go Go.X
set_option maxRecDepth 100000
set_option maxHeartbeats 0
theorem fball280 {br bn : Int} (w : World) : Pu Tryz.prog 280 #[.agg #[.int .i64 br, .int .i64 bn], .int .i64 7] w (.int .i64 (if (br = 0 ∧ bn = 0) ∨ (1 ≤ br ∧ br ≤ 1073741824 ∧ 0 ≤ bn ∧ bn < 7) then 0 else 2)) := by
  refine enter_sound TBok Tryz.func280 rfl rfl Tryz.ntmps280 [.agg [.v (.int .i64 br), .v (.int .i64 bn)], .v (.int .i64 7)] (Kn.start w noS) rfl rfl ?_
  by_cases hb : br = 0 ∧ bn = 0
  · have hB : (decide (br = 0) && (decide (bn = 0) && true)) = true := by simp [hb]
    have hB2 : (!(decide (br = 0) && (decide (bn = 0) && true))) = false := by rw [hB]; rfl
    conv => whnf
    repeat' (first
 | with_reducible ((first | refine r_seq (fun KS hS => ?_) | (refine hS _ _ ?_; clear hS KS) | (refine hA _ ?_; clear hA KA) | (refine hB _ ?_; clear hB KB)))
 | ((with_reducible (first | refine r_region ?_ | refine r_cond (fun KA hA KB hB => ?_) | refine r_ret ?_ | refine r_skip ?_ | refine And.intro rfl ?_ | intro b)); conv => whnf)
 | (refine if_t (by assumption) ?_; conv => whnf)
 | ((with_reducible apply OpK.more); (focus refine sok); (conv => whnf); fail_if_success guard_target =ₛ False)
 | with_reducible apply_assumption -symm -exfalso)
    all_goals (refine FinK.pu ?_; first | (rw [if_pos (by omega)]; rfl) | (rw [if_neg (by omega)]; rfl))
  · have hB : (decide (br = 0) && (decide (bn = 0) && true)) = false := by
      rw [Bool.eq_false_iff]; intro h; simp only [Bool.and_true, Bool.and_eq_true, decide_eq_true_eq] at h; exact hb h
    have hB2 : (!(decide (br = 0) && (decide (bn = 0) && true))) = true := by rw [hB]; rfl
    conv => whnf
    repeat' (first
 | with_reducible ((first | refine r_seq (fun KS hS => ?_) | (refine hS _ _ ?_; clear hS KS) | (refine hA _ ?_; clear hA KA) | (refine hB _ ?_; clear hB KB)))
 | ((with_reducible (first | refine r_region ?_ | refine r_cond (fun KA hA KB hB => ?_) | refine r_ret ?_ | refine r_skip ?_ | refine And.intro rfl ?_ | intro b)); conv => whnf)
 | (refine if_f (by assumption) ?_; conv => whnf)
 | ((with_reducible apply OpK.more); (focus refine sok); (conv => whnf); fail_if_success guard_target =ₛ False)
 | (refine if_dec (fun h => ?_) (fun h => ?_); all_goals (conv => whnf))
 | with_reducible apply_assumption -symm -exfalso)
    all_goals (refine FinK.pu ?_; first | (rw [if_pos (by omega)]; rfl) | (rw [if_neg (by omega)]; rfl))
theorem fgood202 {br bn : Int} (w : World) : Pu Tryz.prog 202 #[.agg #[.int .i64 br, .int .i64 bn]] w (.bool (decide (¬ (br = 0 ∧ bn = 0) ∧ (1 ≤ br ∧ br ≤ 1073741824 ∧ 0 ≤ bn ∧ bn < 7)))) := by
  refine enter_sound TBok Tryz.func202 rfl rfl Tryz.ntmps202 [.agg [.v (.int .i64 br), .v (.int .i64 bn)]] (Kn.start w noS) rfl rfl ?_
  have hc := fun w => fball280 (br := br) (bn := bn) w
  obtain ⟨e, he, hee⟩ : ∃ e : Int, (∀ w, Pu Tryz.prog 280 #[.agg #[.int .i64 br, .int .i64 bn], .int .i64 7] w (.int .i64 e)) ∧ (e = 0 ∧ ((br = 0 ∧ bn = 0) ∨ (1 ≤ br ∧ br ≤ 1073741824 ∧ 0 ≤ bn ∧ bn < 7)) ∨ e = 2 ∧ ¬ ((br = 0 ∧ bn = 0) ∨ (1 ≤ br ∧ br ≤ 1073741824 ∧ 0 ≤ bn ∧ bn < 7))) := by
    by_cases h : (br = 0 ∧ bn = 0) ∨ (1 ≤ br ∧ br ≤ 1073741824 ∧ 0 ≤ bn ∧ bn < 7)
    · rw [if_pos h] at hc; exact ⟨0, hc, .inl ⟨rfl, h⟩⟩
    · rw [if_neg h] at hc; exact ⟨2, hc, .inr ⟨rfl, h⟩⟩
  clear hc
  by_cases hb : br = 0 ∧ bn = 0
  · have hB : (decide (br = 0) && (decide (bn = 0) && true)) = true := by simp [hb]
    have hB2 : (!(decide (br = 0) && (decide (bn = 0) && true))) = false := by rw [hB]; rfl
    conv => whnf
    repeat' (first
 | with_reducible ((first | refine r_seq (fun KS hS => ?_) | (refine hS _ _ ?_; clear hS KS)))
 | ((with_reducible (first | refine r_region ?_ | refine r_ret ?_ | refine And.intro rfl ?_ | intro b)); conv => whnf)
 | (refine if_f (by assumption) ?_; conv => whnf)
 | ((with_reducible apply OpK.more); (focus refine sok); (conv => whnf); fail_if_success guard_target =ₛ False))
    all_goals (refine FinK.pu ?_; show Value.bool _ = Value.bool _; congr 1; symm; first | exact decide_eq_true (by omega) | exact decide_eq_false (by omega) | (rw [Bool.eq_iff_iff]; simp; omega))
  · have hB : (decide (br = 0) && (decide (bn = 0) && true)) = false := by
      rw [Bool.eq_false_iff]; intro h; simp only [Bool.and_true, Bool.and_eq_true, decide_eq_true_eq] at h; exact hb h
    have hB2 : (!(decide (br = 0) && (decide (bn = 0) && true))) = true := by rw [hB]; rfl
    conv => whnf
    repeat' (first
 | with_reducible ((first | refine r_seq (fun KS hS => ?_) | (refine hS _ _ ?_; clear hS KS)))
 | ((with_reducible (first | refine r_region ?_ | refine r_ret ?_ | refine And.intro rfl ?_ | intro b)); conv => whnf)
 | (refine if_t (by assumption) ?_; conv => whnf)
 | ((with_reducible refine CallK.id ?_); refine CallK.pu (fun w => he w) ?_; conv => whnf)
 | ((with_reducible apply OpK.more); (focus refine sok); (conv => whnf); fail_if_success guard_target =ₛ False))
    all_goals (refine FinK.pu ?_; show Value.bool _ = Value.bool _; congr 1; symm; first | exact decide_eq_true (by omega) | exact decide_eq_false (by omega) | (rw [Bool.eq_iff_iff]; simp; omega))
theorem fvalid120 {F T br bn sl nu : Int} {v : ByteArray} {la : Option Addr} {ln lc : Nat} (w : World) : Pu Tryz.prog 120 #[.agg #[.int .i64 10, .int .i64 F, .int .i64 T, .int .i64 br, .int .i64 bn, .int .i64 sl, .int .i64 nu, .string v, .slice la ln lc]] w (.bool (decide ((0 ≤ F ∧ F ≤ 55) ∧ (0 ≤ T ∧ T ≤ 55) ∧ ¬ F = T ∧ (br = 0 ∧ bn = 0) ∧ sl = 0 ∧ (1 ≤ nu ∧ nu ≤ 2147483647) ∧ ln = 0))) := by
  refine enter_sound TBok Tryz.func120 rfl rfl Tryz.ntmps120 [.agg [.v (.int .i64 10), .v (.int .i64 F), .v (.int .i64 T), .v (.int .i64 br), .v (.int .i64 bn), .v (.int .i64 sl), .v (.int .i64 nu), .v (.string v), .v (.slice la ln lc)]] (Kn.start w noS) rfl rfl ?_
  obtain ⟨gb, hg, hgb⟩ : ∃ gb, (∀ w, Pu Tryz.prog 202 #[.agg #[.int .i64 br, .int .i64 bn]] w (.bool gb)) ∧ ((br = 0 ∧ bn = 0) → gb = false) := ⟨_, fun w => fgood202 w, fun h => decide_eq_false (by omega)⟩
  by_cases hb : br = 0 ∧ bn = 0
  · have hB : (decide (br = 0) && (decide (bn = 0) && true)) = true := by simp [hb]
    have hB2 : (!(decide (br = 0) && (decide (bn = 0) && true))) = false := by rw [hB]; rfl
    obtain rfl := hgb hb
    conv => whnf
    repeat' (first
 | with_reducible ((first | refine r_seq (fun KS hS => ?_) | (refine hS _ _ ?_; clear hS KS) | (refine hA _ ?_; clear hA KA) | (refine hB _ ?_; clear hB KB) | refine r_block ?_))
 | ((with_reducible (first | refine r_region ?_ | refine r_cond (fun KA hA KB hB => ?_) | refine r_ret ?_ | refine r_skip ?_ | refine r_exit ?_ | refine And.intro rfl ?_ | intro b)); conv => whnf)
 | (refine if_f (by assumption) ?_; conv => whnf)
 | ((with_reducible refine CallK.id ?_); (first | apply in200 | apply in201); rfl; rfl; rfl; intro A; conv => whnf)
 | ((with_reducible refine CallK.id ?_); refine CallK.pu (fun w => hg w) ?_; conv => whnf)
 | ((with_reducible apply OpK.more); (focus refine sok); (conv => whnf); fail_if_success guard_target =ₛ False)
 | with_reducible (first | refine Rounds.step (fun KL hL => ?_) | refine r_rounds 100 ?_)
 | (refine if_decF (by omega) ?_; conv => whnf)
 | ((first | refine if_dec (fun h => ?_) (fun h => ?_) | refine if_ndec (fun h => ?_) (fun h => ?_)); all_goals (conv => whnf))
 | with_reducible apply_assumption -symm -exfalso)
    all_goals first | (refine FinK.pu ?_; show Value.bool _ = Value.bool _; congr 1; symm; first | exact decide_eq_true (by omega) | exact decide_eq_false (by omega)) | trace_state
  · have hB : (decide (br = 0) && (decide (bn = 0) && true)) = false := by
      rw [Bool.eq_false_iff]; intro h; simp only [Bool.and_true, Bool.and_eq_true, decide_eq_true_eq] at h; exact hb h
    have hB2 : (!(decide (br = 0) && (decide (bn = 0) && true))) = true := by rw [hB]; rfl
    cases gb with
    | false =>
      conv => whnf
      repeat' (first
 | with_reducible ((first | refine r_seq (fun KS hS => ?_) | (refine hS _ _ ?_; clear hS KS) | (refine hA _ ?_; clear hA KA) | (refine hB _ ?_; clear hB KB) | refine r_block ?_))
 | ((with_reducible (first | refine r_region ?_ | refine r_cond (fun KA hA KB hB => ?_) | refine r_ret ?_ | refine r_skip ?_ | refine And.intro rfl ?_ | intro b)); conv => whnf)
 | (refine if_t (by assumption) ?_; conv => whnf)
 | ((with_reducible refine CallK.id ?_); (first | apply in200 | apply in201); rfl; rfl; rfl; intro A; conv => whnf)
 | ((with_reducible refine CallK.id ?_); refine CallK.pu (fun w => hg w) ?_; conv => whnf)
 | ((with_reducible apply OpK.more); (focus refine sok); (conv => whnf); fail_if_success guard_target =ₛ False)
 | ((first | refine if_dec (fun h => ?_) (fun h => ?_) | refine if_ndec (fun h => ?_) (fun h => ?_)); all_goals (conv => whnf))
 | with_reducible apply_assumption -symm -exfalso)
      all_goals first | (refine FinK.pu ?_; show Value.bool _ = Value.bool _; congr 1; symm; first | exact decide_eq_true (by omega) | exact decide_eq_false (by omega)) | trace_state
    | true =>
      conv => whnf
      repeat' (first
 | with_reducible ((first | refine r_seq (fun KS hS => ?_) | (refine hS _ _ ?_; clear hS KS) | (refine hA _ ?_; clear hA KA) | (refine hB _ ?_; clear hB KB) | refine r_block ?_))
 | ((with_reducible (first | refine r_region ?_ | refine r_cond (fun KA hA KB hB => ?_) | refine r_ret ?_ | refine r_skip ?_ | refine And.intro rfl ?_ | intro b)); conv => whnf)
 | ((with_reducible refine CallK.id ?_); (first | apply in200 | apply in201); rfl; rfl; rfl; intro A; conv => whnf)
 | ((with_reducible refine CallK.id ?_); refine CallK.pu (fun w => hg w) ?_; conv => whnf)
 | ((with_reducible apply OpK.more); (focus refine sok); (conv => whnf); fail_if_success guard_target =ₛ False)
 | ((first | refine if_dec (fun h => ?_) (fun h => ?_) | refine if_ndec (fun h => ?_) (fun h => ?_)); all_goals (conv => whnf))
 | with_reducible apply_assumption -symm -exfalso)
      all_goals first | (refine FinK.pu ?_; show Value.bool _ = Value.bool _; congr 1; symm; first | exact decide_eq_true (by omega) | exact decide_eq_false (by omega)) | trace_state
end Go.Proofs.YtbgnoibellfojaaGreatDoor

namespace Go.Proofs.YtbgnoibellfojaaGreatDoor
open Go Go.X
set_option maxRecDepth 100000
set_option maxHeartbeats 0
theorem WfA.nilT {p j i1 : Nat} {R : List Blk} : HSub (.ext j (WfA p []) :: R) (.blk i1 p [.v (.bool true), .v (.slice none 0 0)] 215 :: R) :=
  HSub.app2 (A' := [_]) (A := [_]) (fun w S h => by
    cases h with
    | @cons _ _ S1 T1 hx hb hH hd =>
      cases hH
      have h2 : Holds w [.ext 11 (SlA 5 1 none 0 0 [])] (fun _ => False ∨ False) := .cons (S := fun _ => False) (x := .ext 11 (SlA 5 1 none 0 0 [])) (.inl ⟨rfl, rfl, rfl, rfl⟩) (fun _ h => h.elim) .nil (fun _ h _ => h)
      have h3 : Holds w [.blk 10 p [.v (.bool true), .v (.slice none 0 0)] 215, .ext 11 (SlA 5 1 none 0 0 [])] (fun k => S1 k ∨ (False ∨ False)) := .cons (x := .blk 10 p [.v (.bool true), .v (.slice none 0 0)] 215) hx hb h2 (fun _ _ h => h.elim id id)
      exact ⟨_, .cons (x := .ext j (WfA p [])) ⟨none, 0, h3⟩ (fun k hk => hk.elim (hb k) (fun h => h.elim False.elim False.elim)) .nil (fun _ _ h => h), fun k hk => hk.elim (fun h => h.elim .inl (fun h => h.elim False.elim False.elim)) False.elim⟩) (HSub.refl _)
theorem fcheckBad77 {F T br bn sl nu : Int} {v : ByteArray} {la : Option Addr} {ln lc : Nat} {w : World} (hbad : ¬ (((0 ≤ F ∧ F ≤ 55) ∧ (0 ≤ T ∧ T ≤ 55) ∧ ¬ F = T ∧ (br = 0 ∧ bn = 0) ∧ sl = 0 ∧ (1 ≤ nu ∧ nu ≤ 2147483647) ∧ ln = 0) ∧ v.size ≤ 65536)) : Pu Tryz.prog 77 #[.agg #[.int .i64 10, .int .i64 F, .int .i64 T, .int .i64 br, .int .i64 bn, .int .i64 sl, .int .i64 nu, .string v, .slice la ln lc]] w (.int .i64 (if ((0 ≤ F ∧ F ≤ 55) ∧ (0 ≤ T ∧ T ≤ 55) ∧ ¬ F = T ∧ (br = 0 ∧ bn = 0) ∧ sl = 0 ∧ (1 ≤ nu ∧ nu ≤ 2147483647) ∧ ln = 0) then 11 else 2)) := by
  refine enter_sound TBok Tryz.func77 rfl rfl Tryz.ntmps77 [.agg [.v (.int .i64 10), .v (.int .i64 F), .v (.int .i64 T), .v (.int .i64 br), .v (.int .i64 bn), .v (.int .i64 sl), .v (.int .i64 nu), .v (.string v), .v (.slice la ln lc)]] (Kn.start w noS) rfl rfl ?_
  by_cases hC : ((0 ≤ F ∧ F ≤ 55) ∧ (0 ≤ T ∧ T ≤ 55) ∧ ¬ F = T ∧ (br = 0 ∧ bn = 0) ∧ sl = 0 ∧ (1 ≤ nu ∧ nu ≤ 2147483647) ∧ ln = 0)
  · have hv : decide ((0 ≤ F ∧ F ≤ 55) ∧ (0 ≤ T ∧ T ≤ 55) ∧ ¬ F = T ∧ (br = 0 ∧ bn = 0) ∧ sl = 0 ∧ (1 ≤ nu ∧ nu ≤ 2147483647) ∧ ln = 0) = true := decide_eq_true hC
    rw [if_pos hC]
    conv => whnf
    repeat' (first
 | with_reducible ((first | refine r_seq (fun KS hS => ?_) | (refine hS _ _ ?_; clear hS KS) | (refine hA _ ?_; clear hA KA) | (refine hB _ ?_; clear hB KB)))
 | ((with_reducible (first | refine r_region ?_ | refine r_cond (fun KA hA KB hB => ?_) | refine r_ret ?_ | refine r_skip ?_ | refine And.intro rfl ?_ | intro b)); conv => whnf)
 | ((with_reducible refine CallK.at 120 ?_); refine CallK.pu (fun w => fvalid120 w) ?_; rw [hv]; conv => whnf)
 | (refine if_decT (by omega) ?_; conv => whnf)
 | with_reducible apply_assumption -symm -exfalso)
    all_goals first | exact FinK.pu rfl | (exfalso; omega)
  · have hv : decide ((0 ≤ F ∧ F ≤ 55) ∧ (0 ≤ T ∧ T ≤ 55) ∧ ¬ F = T ∧ (br = 0 ∧ bn = 0) ∧ sl = 0 ∧ (1 ≤ nu ∧ nu ≤ 2147483647) ∧ ln = 0) = false := decide_eq_false hC
    rw [if_neg hC]
    conv => whnf
    repeat' (first
 | with_reducible ((first | refine r_seq (fun KS hS => ?_) | (refine hS _ _ ?_; clear hS KS) | (refine hA _ ?_; clear hA KA)))
 | ((with_reducible (first | refine r_region ?_ | refine r_cond (fun KA hA KB hB => ?_) | refine r_ret ?_ | refine And.intro rfl ?_ | intro b)); conv => whnf)
 | ((with_reducible refine CallK.at 120 ?_); refine CallK.pu (fun w => fvalid120 w) ?_; rw [hv]; conv => whnf))
    all_goals first | exact FinK.pu rfl | (exfalso; omega)
theorem fcheck77 {F T nu : Nat} {v : ByteArray} {la : Option Addr} {lc : Nat} {w : World} (hF : F ≤ 55) (hT : T ≤ 55) (hFT : ¬ F = T) (hnu : 1 ≤ nu ∧ nu ≤ 2147483647) (hsz : v.size ≤ 65536) : Pu Tryz.prog 77 #[.agg #[.int .i64 10, .int .i64 (F : Nat), .int .i64 (T : Nat), .int .i64 0, .int .i64 0, .int .i64 0, .int .i64 (nu : Nat), .string v, .slice la 0 lc]] w (.int .i64 0) := by
  refine enter_sound TBok Tryz.func77 rfl rfl Tryz.ntmps77 [.agg [.v (.int .i64 10), .v (.int .i64 (F : Nat)), .v (.int .i64 (T : Nat)), .v (.int .i64 0), .v (.int .i64 0), .v (.int .i64 0), .v (.int .i64 (nu : Nat)), .v (.string v), .v (.slice la 0 lc)]] (Kn.start w noS) rfl rfl ?_
  have hv := fun w => fvalid120 (F := F) (T := T) (br := 0) (bn := 0) (sl := 0) (nu := nu) (v := v) (la := la) (ln := 0) (lc := lc) w
  rw [decide_eq_true (by omega)] at hv
  have hvl := str_len v
  have hu0 := uvar_len64 (n := 10) (by omega)
  have hu1 := uvar_len64 (n := F) (by omega)
  have hu2 := uvar_len64 (n := T) (by omega)
  have hu3 := uvar_len64 (n := nu) (by omega)
  have hu4 := uvar_len64 (n := v.size) (by omega)
  conv => whnf
  repeat' (first
 | with_reducible ((first | refine r_seq (fun KS hS => ?_) | (refine hS _ _ ?_; clear hS KS) | (refine hA _ ?_; clear hA KA) | (refine hB _ ?_; clear hB KB) | refine r_block ?_))
 | ((with_reducible (first | refine r_region ?_ | refine r_cond (fun KA hA KB hB => ?_) | refine r_ret ?_ | refine r_skip ?_ | refine r_exit ?_ | refine And.intro rfl ?_ | intro b)); conv => whnf)
 | ((with_reducible refine CallK.id ?_); refine CallK.pu (fun w => hv w) ?_; conv => whnf)
 | ((with_reducible refine CallK.id ?_); (first | apply in121 | apply in88 | apply in201); rfl; rfl; rfl; intro A; conv => whnf)
 | ((with_reducible refine WrapK.id ?_); refine WrapK.eq (IntWalk.u64_in _ (by omega)) ?_; conv => whnf)
 | ((with_reducible refine CallK.id ?_); (first | refine CallK.weak (WfA.nilT (j := 40)) (CallK.frE At.head (fun w => fuint89 (n := 10) (by omega) (by decide) w) ?_) | (refine CallK.frE (by repeat (first | with_reducible apply At.head | apply At.tail)) (fun w => fuint89 (n := F) (by omega) (by simp only [List.length_append, List.length_nil]; omega) w) ?_) | (refine CallK.frE (by repeat (first | with_reducible apply At.head | apply At.tail)) (fun w => fuint89 (n := T) (by omega) (by simp only [List.length_append, List.length_nil]; omega) w) ?_) | (refine CallK.frE (by repeat (first | with_reducible apply At.head | apply At.tail)) (fun w => fuint89 (n := nu) (by omega) (by simp only [List.length_append, List.length_nil]; omega) w) ?_) | (refine CallK.frE (by repeat (first | with_reducible apply At.head | apply At.tail)) (fun w => ftext91 (by omega) (by simp only [List.length_append, List.length_nil]; omega) w) ?_) | (refine CallK.frZE (by repeat (first | with_reducible apply At.head | apply At.tail)) (fun w => fbytes93 (by simp only [List.length_append, List.length_nil]; omega) w) ?_)); conv => whnf)
 | (refine if_decF (by simp only [List.length_append, List.length_nil]; omega) ?_; conv => whnf)
 | with_reducible (first | refine Rounds.step (fun KL hL => ?_) | refine r_rounds 100 ?_)
 | (refine if_decF (by omega) ?_; conv => whnf)
 | with_reducible apply_assumption -symm -exfalso)
  all_goals exact FinK.pu rfl
end Go.Proofs.YtbgnoibellfojaaGreatDoor

namespace Go.Proofs.YtbgnoibellfojaaGreatDoor
open Go Go.X
set_option maxRecDepth 100000
set_option maxHeartbeats 0
theorem limitedLong86 {p : Nat} {l : List UInt8} (hl : l.length > 65536) (w : World) : FrZ Tryz.prog 86 #[pv p] w (WrA p l) (fun _ : Unit => .tuple #[.slice none 0 0, .int .i64 11]) (fun _ => AssL []) := by
  refine enter_frZ TBok (H := [.ext 12 (WrA p l)]) one_foot Tryz.func86 rfl rfl Tryz.ntmps86 [.loc p 10 0] rfl rfl ?_
  intro S _ _
  refine Run.open (α := Option Addr × Nat) (A := []) (B := []) (fun z => [.blk 10 p [.v (.bool true), .v (.slice z.1 l.length z.2)] 209, .ext 11 (SlA 5 1 z.1 l.length z.2 (bcells l))]) (fun w S h => WrA.open (X := []) (Y := []) h) ?_
  rintro ⟨a, cap⟩
  dsimp only
  conv => whnf
  repeat' (first
 | with_reducible ((first | refine r_seq (fun KS hS => ?_) | (refine hS _ _ ?_; clear hS KS) | (refine hA _ ?_; clear hA KA) | (refine hB _ ?_; clear hB KB)))
 | ((with_reducible (first | refine r_region ?_ | refine r_cond (fun KA hA KB hB => ?_) | refine r_ret ?_ | refine r_skip ?_ | refine And.intro rfl ?_)); conv => whnf)
 | ((with_reducible refine CallK.id ?_); apply in134; rfl; rfl; rfl; intro A; conv => whnf)
 | ((with_reducible apply OpK.more); (focus refine sok); (conv => whnf); fail_if_success guard_target =ₛ False)
 | (refine if_decT (by omega) ?_; conv => whnf)
 | with_reducible apply_assumption -symm -exfalso)
  exact FinK.frZ (i := 0) () rfl (HSub.trans HSub.join (HSub.none _))
theorem replyLong46 {e : Nat} {d : Int} {x : ByteArray} (he : 0 ≤ (e : Int) ∧ (e : Int) ≤ 18) (hn : NumOk d) (hx : x.size ≤ 65536) (hl : (uvar e ++ uvar (zigN d) ++ uvar x.size ++ x.data.toList).length > 65536) (w : World) :
    Pu Tryz.prog 46 #[.agg #[.int .i64 (e : Nat), .int .i64 d, .string x]] w (.tuple #[.slice none 0 0, .int .i64 11]) := by
  refine enter_sound TBok Tryz.func46 rfl rfl Tryz.ntmps46 [.agg [.v (.int .i64 (e : Nat)), .v (.int .i64 d), .v (.string x)]] (Kn.start w noS) rfl rfl ?_
  have hn' := hn
  unfold NumOk at hn'
  have hz := zigN_lt (a := d) (by omega)
  have hkl := str_len x
  have hu0 := uvar_len64 (n := e) (by omega)
  have hu1 := uvar_len64 (n := zigN d) hz
  have hu2 := uvar_len64 (n := x.size) (by omega)
  conv => whnf
  repeat' (first
 | with_reducible ((first | refine r_seq (fun KS hS => ?_) | (refine hS _ _ ?_; clear hS KS) | (refine hB _ ?_; clear hB KB)))
 | ((with_reducible (first | refine r_region ?_ | refine r_cond (fun KA hA KB hB => ?_) | refine r_ret ?_ | refine r_skip ?_ | refine And.intro rfl ?_ | intro b)); conv => whnf)
 | ((with_reducible refine CallK.id ?_); (first | apply in82 | apply in84); rfl; rfl; rfl; intro A; conv => whnf)
 | ((with_reducible refine CallK.at 81 ?_); refine CallK.pu (fun w => checkReply81 he hn hx w) ?_; conv => whnf)
 | ((with_reducible refine WrapK.id ?_); refine WrapK.eq (IntWalk.u64_in _ (by omega)) ?_; conv => whnf)
 | ((with_reducible refine CallK.id ?_); (first | refine CallK.frB At.head (fun w => uint83n (n := e) (by omega) w) ?_ | (refine CallK.frE (by repeat (first | with_reducible apply At.head | apply At.tail)) (fun w => text85 (by omega) (by first | omega | (simp only [List.length_append, List.length_nil]; omega)) w) ?_)); conv => whnf)
 | ((with_reducible refine CallK.at 133 ?_); refine CallK.pu (fun w => zig133 (by omega) w) ?_; conv => whnf)
 | ((with_reducible refine CallK.id ?_); refine CallK.frZE (by repeat (first | with_reducible apply At.head | apply At.tail)) (fun w => limitedLong86 hl w) ?_; conv => whnf)
 | ((with_reducible refine CallK.id ?_); refine CallK.frE (by repeat (first | with_reducible apply At.head | apply At.tail)) (fun w => uint83 (n := zigN d) hz (by omega) w) ?_; conv => whnf)
 | with_reducible apply_assumption -symm -exfalso)
  all_goals exact FinK.pu rfl
theorem replyBad46 {e d : Int} {x : ByteArray} (h : ¬ ((0 ≤ e ∧ e ≤ 18) ∧ NumOk d ∧ x.size ≤ 65536)) (w : World) : Pu Tryz.prog 46 #[.agg #[.int .i64 e, .int .i64 d, .string x]] w (.tuple #[.slice none 0 0, .int .i64 2]) := by
  refine enter_sound TBok Tryz.func46 rfl rfl Tryz.ntmps46 [.agg [.v (.int .i64 e), .v (.int .i64 d), .v (.string x)]] (Kn.start w noS) rfl rfl ?_
  conv => whnf
  repeat' (first
 | with_reducible ((first | refine r_seq (fun KS hS => ?_) | (refine hS _ _ ?_; clear hS KS) | (refine hA _ ?_; clear hA KA)))
 | ((with_reducible (first | refine r_region ?_ | refine r_cond (fun KA hA KB hB => ?_) | refine r_ret ?_ | refine And.intro rfl ?_ | intro b)); conv => whnf)
 | ((with_reducible refine CallK.at 81 ?_); refine CallK.pu (fun w => checkReplyBad81 h w) ?_; conv => whnf))
  all_goals exact FinK.pu rfl
end Go.Proofs.YtbgnoibellfojaaGreatDoor

namespace Go.Proofs.YtbgnoibellfojaaGreatDoor
open Go Go.X
set_option maxRecDepth 100000
set_option maxHeartbeats 0
theorem fbytesS93 {p : Nat} {l : List UInt8} (hl : l.length ≤ 1099511627776) (w : World) : FrZ Tryz.prog 93 #[pv p] w (WfA p l) (fun z : Option Addr × Nat => .slice z.1 l.length z.2) (fun z => SlA 5 1 z.1 l.length z.2 (bcells l)) := by
  refine enter_frZ TBok (H := [.ext 12 (WfA p l)]) one_foot Tryz.func93 rfl rfl Tryz.ntmps93 [.loc p 10 0] rfl rfl ?_
  intro S _ _
  refine Run.open (α := Option Addr × Nat) (A := []) (B := []) (fun z => [.blk 10 p [.v (.bool true), .v (.slice z.1 l.length z.2)] 215, .ext 11 (SlA 5 1 z.1 l.length z.2 (bcells l))]) (fun w S h => WfA.open (X := []) (Y := []) h) ?_
  rintro ⟨a, cap⟩
  dsimp only
  conv => whnf
  repeat' (first
 | with_reducible ((first | refine r_seq (fun KS hS => ?_) | (refine hS _ _ ?_; clear hS KS) | (refine hB _ ?_; clear hB KB)))
 | ((with_reducible (first | refine r_region ?_ | refine r_cond (fun KA hA KB hB => ?_) | refine r_ret ?_ | refine r_skip ?_ | refine And.intro rfl ?_ | intro b)); conv => whnf)
 | (apply in139; rfl; rfl; rfl; intro A; conv => whnf)
 | ((with_reducible refine OpK.id ?_); refine OpK.appS (k := 1) rfl rfl rfl rfl rfl rfl rfl rfl (by repeat (first | with_reducible apply At.head | apply At.tail)) rfl (SrcK.sees rfl rfl (Sees.ext (by repeat (first | with_reducible apply At.head | apply At.tail))) (bone _)) (by show (0 + _) * (1 + 1) ≤ 140737488355328; omega) (fun a' cap' => ?_); conv => whnf)
 | ((with_reducible apply OpK.more); (focus refine sok); (conv => whnf); fail_if_success guard_target =ₛ False)
 | with_reducible apply_assumption -symm -exfalso)
  exact FinK.frZ (i := 0) (a', cap') (by rw [Nat.zero_add]; rfl) (HSub.ext (fun w S h => by rw [Nat.zero_add] at h; exact h) (HSub.drop (HSub.drop HSub.nil)))
theorem freply49 {e : Nat} {d : Int} {x : ByteArray} (he : 0 ≤ (e : Int) ∧ (e : Int) ≤ 18) (hn : NumOk d) (hx : x.size ≤ 65536) (hl : (uvar e ++ uvar (zigN d) ++ uvar x.size ++ x.data.toList).length ≤ 65536) (w : World) :
    FrZ Tryz.prog 49 #[.agg #[.int .i64 (e : Nat), .int .i64 d, .string x]] w emp (fun z : Option Addr × Nat => .tuple #[.slice z.1 (uvar e ++ uvar (zigN d) ++ uvar x.size ++ x.data.toList).length z.2, .int .i64 0]) (fun z => SlA 5 1 z.1 (uvar e ++ uvar (zigN d) ++ uvar x.size ++ x.data.toList).length z.2 (bcells (uvar e ++ uvar (zigN d) ++ uvar x.size ++ x.data.toList))) := by
  refine enter_frZ TBok (H := []) emp_foot Tryz.func49 rfl rfl Tryz.ntmps49 [.agg [.v (.int .i64 (e : Nat)), .v (.int .i64 d), .v (.string x)]] rfl rfl ?_
  intro S _ _
  have hn' := hn
  unfold NumOk at hn'
  have hz := zigN_lt (a := d) (by omega)
  have hkl := str_len x
  have hu0 := uvar_len64 (n := e) (by omega)
  have hu1 := uvar_len64 (n := zigN d) hz
  have hu2 := uvar_len64 (n := x.size) (by omega)
  have hl' := hl
  simp only [List.length_append] at hl'
  conv => whnf
  repeat' (first
 | with_reducible ((first | refine r_seq (fun KS hS => ?_) | (refine hS _ _ ?_; clear hS KS) | (refine hB _ ?_; clear hB KB)))
 | ((with_reducible (first | refine r_region ?_ | refine r_cond (fun KA hA KB hB => ?_) | refine r_ret ?_ | refine r_skip ?_ | refine And.intro rfl ?_ | intro b)); conv => whnf)
 | ((with_reducible refine CallK.id ?_); (first | apply in48 | apply in87 | apply in88); rfl; rfl; rfl; intro A; conv => whnf)
 | ((with_reducible refine WrapK.id ?_); refine WrapK.eq (IntWalk.u64_in _ (by omega)) ?_; conv => whnf)
 | ((with_reducible refine CallK.id ?_); (first | refine CallK.weak (WfA.nilT (j := 40)) (CallK.frE At.head (fun w => fuint89 (n := e) (by omega) (by decide) w) ?_) | (refine CallK.frE (by repeat (first | with_reducible apply At.head | apply At.tail)) (fun w => fint90 (by omega) (by simp only [List.length_append, List.length_nil]; omega) w) ?_) | (refine CallK.frE (by repeat (first | with_reducible apply At.head | apply At.tail)) (fun w => ftext91 (by omega) (by simp only [List.length_append, List.length_nil]; omega) w) ?_) | (refine CallK.frE (by repeat (first | with_reducible apply At.head | apply At.tail)) (fun w => flen92 (by simp only [List.length_append, List.length_nil]; omega) w) ?_) | (refine CallK.frZE (by repeat (first | with_reducible apply At.head | apply At.tail)) (fun w => fbytesS93 (by simp only [List.length_append, List.length_nil]; omega) w) ?_)); conv => whnf)
 | (refine if_decF (by simp only [List.length_append, List.length_nil]; omega) ?_; conv => whnf)
 | (refine if_decF (by omega) ?_; conv => whnf)
 | with_reducible apply_assumption -symm -exfalso)
  rw [List.nil_append]
  exact FinK.frZ b rfl (HSub.pick (by repeat (first | with_reducible apply At.head | apply At.tail)))
theorem freplyLong49 {e : Nat} {d : Int} {x : ByteArray} (he : 0 ≤ (e : Int) ∧ (e : Int) ≤ 18) (hn : NumOk d) (hx : x.size ≤ 65536) (hl : (uvar e ++ uvar (zigN d) ++ uvar x.size ++ x.data.toList).length > 65536) (w : World) : Pu Tryz.prog 49 #[.agg #[.int .i64 (e : Nat), .int .i64 d, .string x]] w (.tuple #[.slice none 0 0, .int .i64 11]) := by
  refine enter_sound TBok Tryz.func49 rfl rfl Tryz.ntmps49 [.agg [.v (.int .i64 (e : Nat)), .v (.int .i64 d), .v (.string x)]] (Kn.start w noS) rfl rfl ?_
  have hn' := hn
  unfold NumOk at hn'
  have hz := zigN_lt (a := d) (by omega)
  have hkl := str_len x
  have hu0 := uvar_len64 (n := e) (by omega)
  have hu1 := uvar_len64 (n := zigN d) hz
  have hu2 := uvar_len64 (n := x.size) (by omega)
  have hl' := hl
  simp only [List.length_append] at hl'
  conv => whnf
  repeat' (first
 | with_reducible ((first | refine r_seq (fun KS hS => ?_) | (refine hS _ _ ?_; clear hS KS) | (refine hA _ ?_; clear hA KA) | (refine hB _ ?_; clear hB KB)))
 | ((with_reducible (first | refine r_region ?_ | refine r_cond (fun KA hA KB hB => ?_) | refine r_ret ?_ | refine r_skip ?_ | refine And.intro rfl ?_ | intro b)); conv => whnf)
 | ((with_reducible refine CallK.id ?_); (first | apply in48 | apply in87 | apply in88); rfl; rfl; rfl; intro A; conv => whnf)
 | ((with_reducible refine WrapK.id ?_); refine WrapK.eq (IntWalk.u64_in _ (by omega)) ?_; conv => whnf)
 | ((with_reducible refine CallK.id ?_); (first | refine CallK.weak (WfA.nilT (j := 40)) (CallK.frE At.head (fun w => fuint89 (n := e) (by omega) (by decide) w) ?_) | (refine CallK.frE (by repeat (first | with_reducible apply At.head | apply At.tail)) (fun w => fint90 (by omega) (by simp only [List.length_append, List.length_nil]; omega) w) ?_) | (refine CallK.frE (by repeat (first | with_reducible apply At.head | apply At.tail)) (fun w => ftext91 (by omega) (by simp only [List.length_append, List.length_nil]; omega) w) ?_) | (refine CallK.frE (by repeat (first | with_reducible apply At.head | apply At.tail)) (fun w => flen92 (by simp only [List.length_append, List.length_nil]; omega) w) ?_)); conv => whnf)
 | (refine if_decT (by simp only [List.length_append, List.length_nil]; omega) ?_; conv => whnf)
 | (refine if_decF (by omega) ?_; conv => whnf)
 | with_reducible apply_assumption -symm -exfalso)
  all_goals first | exact FinK.pu rfl | (exfalso; omega)
theorem fchk48 {e d : Int} {x : ByteArray} : ∃ q : Int, (q = 0 ↔ ((0 ≤ e ∧ e ≤ 18) ∧ NumOk d ∧ x.size ≤ 65536)) ∧ ∀ w, Pu Tryz.prog 48 #[.agg #[.int .i64 e, .int .i64 d, .string x]] w (.int .i64 q) := by
  by_cases h : (0 ≤ e ∧ e ≤ 18) ∧ NumOk d ∧ x.size ≤ 65536
  · have h' := h
    unfold NumOk at h'
    refine ⟨0, by simp [h], fun w => ?_⟩
    refine enter_sound TBok Tryz.func48 rfl rfl Tryz.ntmps48 [.agg [.v (.int .i64 e), .v (.int .i64 d), .v (.string x)]] (Kn.start w noS) rfl rfl ?_
    conv => whnf
    repeat' (first
 | with_reducible ((first | refine r_seq (fun KS hS => ?_) | (refine hS _ _ ?_; clear hS KS) | (refine hB _ ?_; clear hB KB)))
 | ((with_reducible (first | refine r_region ?_ | refine r_cond (fun KA hA KB hB => ?_) | refine r_ret ?_ | refine r_skip ?_ | refine And.intro rfl ?_ | intro b)); conv => whnf)
 | (apply in87; rfl; rfl; rfl; intro A; conv => whnf)
 | (refine if_decF (by omega) ?_; conv => whnf)
 | with_reducible apply_assumption -symm -exfalso)
    all_goals first | exact FinK.pu rfl | (exfalso; omega)
  · have h' := h
    unfold NumOk at h'
    refine ⟨2, by simp [h], fun w => ?_⟩
    refine enter_sound TBok Tryz.func48 rfl rfl Tryz.ntmps48 [.agg [.v (.int .i64 e), .v (.int .i64 d), .v (.string x)]] (Kn.start w noS) rfl rfl ?_
    conv => whnf
    repeat' (first
 | with_reducible ((first | refine r_seq (fun KS hS => ?_) | (refine hS _ _ ?_; clear hS KS) | (refine hA _ ?_; clear hA KA)))
 | ((with_reducible (first | refine r_region ?_ | refine r_cond (fun KA hA KB hB => ?_) | refine r_ret ?_ | refine And.intro rfl ?_ | intro b)); conv => whnf)
 | (apply in87; rfl; rfl; rfl; intro A; conv => whnf)
 | (refine if_decT (by omega) ?_; conv => whnf)
 | (refine if_dec (fun h => ?_) (fun h => ?_); all_goals (conv => whnf))
 | with_reducible apply_assumption -symm -exfalso)
    all_goals first | exact FinK.pu rfl | (exfalso; omega)
end Go.Proofs.YtbgnoibellfojaaGreatDoor

namespace Go.Proofs.YtbgnoibellfojaaGreatDoor
open Go Go.X
set_option maxRecDepth 100000
set_option maxHeartbeats 0
def StI (l : List (ByteArray × Int)) : Prop := ∀ x ∈ l, -9223372036854775808 ≤ x.2 ∧ x.2 ≤ 9223372036854775807
theorem HSub.addNil' {i e k : Nat} {L' L : List Blk} (h : HSub L' L) : HSub (.ext i (SlA e k none 0 0 []) :: L') L := fun w S hS =>
  let ⟨S', h1, h2⟩ := h w S hS
  ⟨fun k => False ∨ S' k, .cons (x := .ext i (SlA e k none 0 0 [])) (S := fun _ => False) (.inl ⟨rfl, rfl, rfl, rfl⟩) (fun _ h => h.elim) h1 (fun _ h => h.elim), fun k hk => hk.elim False.elim (h2 k)⟩
theorem fenc207 {x : ByteArray} {r d : Nat} {l : List (ByteArray × Int)} {a : Option Addr} {n cap : Nat} {w : World} (hr : RdS w 144 2 a n cap (stC l)) (hx : x.size ≤ 65536) (hk : StS l) (hI : StI l) (hl : l.length ≤ 8) (hrb : r ≤ 1000000) (hdb : d ≤ 1000000) :
    FrZ Tryz.prog 207 #[.agg #[.string x, .int .i64 (r : Nat), .int .i64 (d : Nat), .slice a n cap]] w emp (fun z : Option Addr × Nat × Nat × List UInt8 × Int => .tuple #[.slice z.1 z.2.1 z.2.2.1, .int .i64 z.2.2.2.2]) (fun z => SlA 5 1 z.1 z.2.1 z.2.2.1 (bcells z.2.2.2.1)) := by
  have hlen := hr.len
  rw [stC_length] at hlen
  obtain rfl : n = l.length := by omega
  refine enter_frZ TBok (H := []) emp_foot Tryz.func207 rfl rfl Tryz.ntmps207 [.agg [.v (.string x), .v (.int .i64 (r : Nat)), .v (.int .i64 (d : Nat)), .v (.slice a l.length cap)]] rfl rfl ?_
  intro S hSe _
  have hs := fun n' H => Sees.old (c := ⟨Tryz.prog, TB, n', w, S, none, TBok⟩) (H := H) (hr.oldE hSe)
  have hu1 := uvar_len64 (n := r) (by omega)
  have hu2 := uvar_len64 (n := d) (by omega)
  have hu3 := uvar_len64 (n := l.length) (by omega)
  have hu4 := uvar_len64 (n := x.size) (by omega)
  have hxl := str_len x
  conv => whnf
  repeat' (first
 | with_reducible ((first | refine r_seq (fun KS hS => ?_) | (refine hS _ _ ?_; clear hS KS) | (refine hA _ ?_; clear hA KA) | (refine hB _ ?_; clear hB KB) | refine r_block ?_))
 | ((with_reducible (first | refine r_region ?_ | refine r_cond (fun KA hA KB hB => ?_) | refine r_ret ?_ | refine r_skip ?_ | refine And.intro rfl ?_ | intro b)); conv => whnf)
 | (apply in88; rfl; rfl; rfl; intro A; conv => whnf)
 | ((with_reducible refine CallK.id ?_); (first | (refine CallK.puE (fun ms w hk2 => fdefn281 (Sees.rd (hs _ _) hk2) (by omega) hk hl) ?_; rintro _ ⟨q, rfl⟩) | refine CallK.weak (WfA.nilT (j := 40)) (CallK.frE At.head (fun w => ftext91 (by omega) (by decide) w) ?_)); conv => whnf)
 | ((with_reducible refine WrapK.id ?_); refine WrapK.eq (IntWalk.u64_in _ (by omega)) ?_; conv => whnf)
 | ((with_reducible refine CallK.id ?_); refine CallK.frE (by repeat (first | with_reducible apply At.head | apply At.tail)) (fun w => fuint89 (by omega) (by simp only [List.length_append, List.length_nil]; omega) w) ?_; conv => whnf)
 | (refine if_ndec (fun h => ?_) (fun h => ?_); all_goals (conv => whnf))
 | with_reducible apply_assumption -symm -exfalso)
  · exact FinK.frZ (i := 0) (none, 0, 0, [], 15) rfl (HSub.addNil' (HSub.none _))
  rename_i b1 _ _
  rename Nat => p
  refine r_loop (α := Nat × List UInt8) (fun y => [(1, .loc b1 0 0), (4, .loc p 1 0), (5, .v (.int .i64 (y.1 : Nat)))]) (fun y => [.ext 2 (WfA p y.2), .blk 0 b1 [.v (.string x), .v (.int .i64 (r : Nat)), .v (.int .i64 (d : Nat)), .v (.slice a l.length cap)] 46]) (fun y => y.1 ≤ l.length ∧ y.2.length ≤ 100000 + y.1 * 100000) (fun y => l.length - y.1) (0, [] ++ uvar x.size ++ x.data.toList ++ uvar r ++ uvar d ++ uvar l.length) ⟨by dsimp only; omega, by simp only [List.length_append, List.length_nil]; omega⟩ (by repeat' (first | exact Sub.nil | (refine Sub.cons rfl rfl ?_))) (by (try dsimp only [List.cons_append, List.nil_append, den, denL]); refine SelI.spec ?_; (repeat (first | refine SelI.blk (by repeat (first | with_reducible apply Rm.head | apply Rm.tail)) ?_ | refine SelI.ext (by repeat (first | with_reducible apply Rm.head | apply Rm.tail)) ?_ | (refine SelI.blk' (by repeat (first | with_reducible apply Rm.head | apply Rm.tail)) ?_ ?_; focus rfl) | (refine SelI.ext' (by repeat (first | with_reducible apply Rm.head | apply Rm.tail)) ?_ ?_; focus rfl))); exact SelI.nil) ?_
  rintro ⟨k, ws⟩ ⟨hkl, hws⟩ KL hL
  dsimp only at hkl hws hL ⊢
  by_cases hkk : k < l.length
  · have hst := stC_at l k hkk
    have hks := hk _ (List.getElem_mem hkk)
    have hIk := hI _ (List.getElem_mem hkk)
    have hv1 := uvar_len64 (n := l[k].1.size) (by omega)
    have hv2 := uvar_len64 (n := zigN l[k].2) (zigN_lt (by omega))
    have hv3 := str_len l[k].1
    conv => whnf
    repeat' (first
 | with_reducible ((first | refine r_seq (fun KS hS => ?_) | (refine hS _ _ ?_; clear hS KS) | (refine hA _ ?_; clear hA KA) | refine r_block ?_))
 | ((with_reducible (first | refine r_region ?_ | refine r_cond (fun KA hA KB hB => ?_) | refine r_skip ?_ | refine And.intro rfl ?_ | intro b)); conv => whnf)
 | ((with_reducible refine WrapK.i64 ?_ ?_); (focus omega); conv => whnf)
 | (refine hL (k + 1, ws ++ uvar l[k].1.size ++ l[k].1.data.toList ++ uvar (zigN l[k].2)) _ _ ⟨by dsimp only; omega, by simp only [List.length_append, List.length_nil]; omega⟩ (by dsimp only; omega) (by repeat' (first | exact Sub.nil | (refine Sub.cons rfl rfl ?_))) (by (try dsimp only [List.cons_append, List.nil_append, den, denL]); refine SelI.spec ?_; (repeat (first | refine SelI.blk (by repeat (first | with_reducible apply Rm.head | apply Rm.tail)) ?_ | refine SelI.ext (by repeat (first | with_reducible apply Rm.head | apply Rm.tail)) ?_ | (refine SelI.blk' (by repeat (first | with_reducible apply Rm.head | apply Rm.tail)) ?_ ?_; focus rfl) | (refine SelI.ext' (by repeat (first | with_reducible apply Rm.head | apply Rm.tail)) ?_ ?_; focus rfl))); exact SelI.nil))
 | ((with_reducible refine OpK.id ?_); (first | refine OpK.idx (k := 2) rfl rfl rfl rfl rfl rfl rfl (hs _ _) (by omega) (by omega) hst (fun b off hp => ?_) | refine OpK.fap rfl rfl hp ?_ | refine OpK.ldp rfl rfl (by assumption) (List.cons_ne_nil _ _) ?_); conv => whnf)
 | ((with_reducible refine CallK.id ?_); (first | refine CallK.frE (by repeat (first | with_reducible apply At.head | apply At.tail)) (fun w => ftext91 (by omega) (by omega) w) ?_ | (refine CallK.frE (by repeat (first | with_reducible apply At.head | apply At.tail)) (fun w => fint90 (by omega) (by simp only [List.length_append, List.length_nil]; omega) w) ?_)); conv => whnf)
 | (refine if_decT (by omega) ?_; conv => whnf)
 | with_reducible apply_assumption -symm -exfalso)
  · conv => whnf
    repeat' (first
 | with_reducible ((first | refine r_seq (fun KS hS => ?_) | (refine hS _ _ ?_; clear hS KS) | (refine hB _ ?_; clear hB KB)))
 | ((with_reducible (first | refine r_region ?_ | refine r_cond (fun KA hA KB hB => ?_) | refine r_ret ?_ | refine r_exit ?_ | refine And.intro rfl ?_ | intro b)); conv => whnf)
 | ((with_reducible refine CallK.id ?_); refine CallK.frZE (by repeat (first | with_reducible apply At.head | apply At.tail)) (fun w => fbytesS93 (by omega) w) ?_; conv => whnf)
 | (refine if_decF (by omega) ?_; conv => whnf)
 | with_reducible apply_assumption -symm -exfalso)
    exact FinK.frZ (i := 2) (b.1, _, b.2, ws, 0) rfl (HSub.pick (by repeat (first | with_reducible apply At.head | apply At.tail)))
end Go.Proofs.YtbgnoibellfojaaGreatDoor
