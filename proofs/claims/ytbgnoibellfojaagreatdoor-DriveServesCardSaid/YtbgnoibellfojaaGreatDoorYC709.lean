/- Contracts and lemmas for the claim (part 9); no condition of its own. -/
import Derived.Test.YtbgnoibellfojaaGreatDoorYC705
import Derived.Test.YtbgnoibellfojaaGreatDoorYC704
import Derived.Test.YtbgnoibellfojaaGreatDoorYC708
import Derived.Test.YtbgnoibellfojaaGreatDoorYC703
set_option linter.all false
set_option linter.unusedVariables false
set_option linter.unusedSimpArgs false
set_option linter.unnecessarySimpa false
namespace Go.Proofs.YtbgnoibellfojaaGreatDoor
open Go Go.X
set_option maxRecDepth 100000
set_option maxHeartbeats 0
theorem decInT76 {l : List UInt8} {a : Option Addr} {n cap : Nat} {w : World} (hr : RdS w 5 1 a n cap (bcells l)) (hln : l.length ≤ 1099511627776) {m : Nat} {f t x : ByteArray} {u0 u1 u2 u3 u4 : RSt} (e0 : rdS 15 (some l) = (4, u0)) (e1 : rdS 64 u0 = (m, u1)) (e2 : rdT u1 = (f, u2)) (e3 : rdT u2 = (t, u3)) (e4 : rdT u3 = (x, u4)) : ∃ v : Value, ((v = .tuple #[.agg #[.int .i64 0, .int .i64 0, .int .i64 0, .int .i64 0, .int .i64 0, .int .i64 0, .string ⟨#[]⟩, .int .i64 0, .int .i64 0, .string ⟨#[]⟩, .string ⟨#[]⟩, .int .i64 0, .string ⟨#[]⟩, .int .i64 0, .int .i64 0, .slice none 0 0, .int .i64 0, .int .i64 0, .int .i64 0, .int .i64 0, .bool false, .int .i64 0, .int .i64 0, .string ⟨#[]⟩], .int .i64 10] ∧ ¬ (l.length ≤ 65536 ∧ u4 = some [] ∧ ((1 ≤ (m : Int) ∧ (m : Int) ≤ 64) ∧ rangeOk f t = true ∧ x.size ≤ 65536))) ∨ (v = .tuple #[.agg #[.int .i64 4, .int .i64 0, .int .i64 0, .int .i64 0, .int .i64 0, .int .i64 0, .string ⟨#[]⟩, .int .i64 0, .int .i64 (m : Nat), .string f, .string t, .int .i64 0, .string ⟨#[]⟩, .int .i64 0, .int .i64 0, .slice none 0 0, .int .i64 0, .int .i64 0, .int .i64 0, .int .i64 0, .bool false, .int .i64 0, .int .i64 0, .string x], .int .i64 0] ∧ l.length ≤ 65536 ∧ u4 = some [] ∧ ((1 ≤ (m : Int) ∧ (m : Int) ≤ 64) ∧ rangeOk f t = true ∧ x.size ≤ 65536))) ∧ Pu Tryz.prog 76 #[.slice a n cap] w v := by
  have hlen := hr.len
  rw [bcells_length, Nat.mul_one] at hlen
  subst hlen
  have hs := fun n' r H => Sees.old (c := ⟨Tryz.prog, TB, n', w, noS, r, TBok⟩) (H := H) hr.old
  have rb : RB (some l) := RB.len hln
  have hne : l.length ≠ 0 := by
    intro h
    obtain rfl := List.length_eq_zero_iff.1 h
    have h1 : (rdS 15 (some [])).1 = 4 := by rw [e0]
    exact absurd h1 (by decide)
  have rb0 : RB u0 := by have := RB.S (most := 15) rb; rw [e0] at this; exact this
  have rb1 : RB u1 := by have := RB.S (most := 64) rb0; rw [e1] at this; exact this
  have rb2 : RB u2 := by have := RB.T rb1; rw [e2] at this; exact this
  have hk2 : f.size ≤ 1099511627776 := by have := rdT_size u1; rw [e2] at this; dsimp only at this; omega
  have rb3 : RB u3 := by have := RB.T rb2; rw [e3] at this; exact this
  have hk3 : t.size ≤ 1099511627776 := by have := rdT_size u2; rw [e3] at this; dsimp only at this; omega
  have rb4 : RB u4 := by have := RB.T rb3; rw [e4] at this; exact this
  have hk4 : x.size ≤ 1099511627776 := by have := rdT_size u3; rw [e4] at this; dsimp only at this; omega
  obtain ⟨e, he, hchk⟩ := checkInT102 (m := m) (f := f) (t := t) (x := x) hk2 hk3
  by_cases hl : l.length ≤ 65536
  by_cases hend : u4 = some []
  by_cases he0 : e = 0
  subst he0
  refine ⟨_, .inr ⟨rfl, hl, hend, he.1 rfl⟩, ?_⟩
  subst hend
  rotate_left
  refine ⟨_, .inl ⟨rfl, fun h => he0 (he.2 h.2.2)⟩, ?_⟩
  subst hend
  rotate_left
  refine ⟨_, .inl ⟨rfl, fun h => hend h.2.1⟩, ?_⟩
  rotate_left
  refine ⟨_, .inl ⟨rfl, fun h => hl h.1⟩, ?_⟩
  all_goals (refine enter_sound TBok Tryz.func76 rfl rfl Tryz.ntmps76 [.v (.slice a l.length cap)] (Kn.start w noS) rfl rfl ?_; conv => whnf)
  repeat' (first
 | with_reducible ((first | refine r_seq (fun KS hS => ?_) | (refine hS _ _ ?_; clear hS KS) | (refine hA _ ?_; clear hA KA) | (refine hB _ ?_; clear hB KB) | refine r_block ?_))
 | ((with_reducible (first | refine r_region ?_ | refine r_cond (fun KA hA KB hB => ?_) | refine r_ret ?_ | refine r_skip ?_ | refine r_exit ?_ | refine And.intro rfl ?_ | intro b)); conv => whnf)
 | ((with_reducible refine WrapK.i64 ?_ ?_); (focus omega); conv => whnf)
 | ((with_reducible refine CallK.id ?_); (first | apply in103 | apply in147 | apply in148 | apply in149 | apply in216 | apply in226 | apply in113 | apply in232 | apply in290); rfl; rfl; rfl; intro A; conv => whnf)
 | (apply in300; rfl; rfl; rfl; intro A; (conv => whnf); apply r_anyM; refine mixed; kernel_rfl; kernel_rfl; intro KM hM; (conv => whnf))
 | ((with_reducible refine hM _ _ ?_); first | exact HSub.refl _ | exact (by (try dsimp only [List.cons_append, List.nil_append, den, denL]); refine SelI.spec ?_; (repeat (first | refine SelI.blk (by repeat (first | with_reducible apply Rm.head | apply Rm.tail)) ?_ | refine SelI.ext (by repeat (first | with_reducible apply Rm.head | apply Rm.tail)) ?_ | (refine SelI.blk' (by repeat (first | with_reducible apply Rm.head | apply Rm.tail)) ?_ ?_; focus rfl) | (refine SelI.ext' (by repeat (first | with_reducible apply Rm.head | apply Rm.tail)) ?_ ?_; focus rfl))); exact SelI.nil))
 | (refine ak228 ?_; conv => whnf)
 | (refine ak236 ?_; conv => whnf)
 | ((with_reducible refine CallK.id ?_); refine CallK.fresh (fun ms w hk => clone191 (l := l) (Sees.rd (hs _ _ _) hk) (by omega)) ?_; conv => whnf)
 | ((with_reducible refine CallK.id ?_); (first | refine CallK.weak (RdA.closeT (j := 0)) (CallK.frE At.head (fun w => small114e rb (by omega) e0 w) ?_) | refine CallK.frE (by repeat (first | with_reducible apply At.head | apply At.tail)) (fun w => small114e rb0 (by omega) e1 w) ?_ | refine CallK.frE (by repeat (first | with_reducible apply At.head | apply At.tail)) (fun w => text116e rb1 e2 w) ?_ | refine CallK.frE (by repeat (first | with_reducible apply At.head | apply At.tail)) (fun w => text116e rb2 e3 w) ?_ | refine CallK.frE (by repeat (first | with_reducible apply At.head | apply At.tail)) (fun w => text116e rb3 e4 w) ?_ | refine CallK.frE (by repeat (first | with_reducible apply At.head | apply At.tail)) (fun w => end117ok w) ?_ | refine CallK.frE (by repeat (first | with_reducible apply At.head | apply At.tail)) (fun w => end117bad hend w) ?_ | refine CallK.pu (fun w => hchk w) ?_); conv => whnf)
 | ((with_reducible apply OpK.more); (focus refine sok); (conv => whnf); fail_if_success guard_target =ₛ False)
 | with_reducible (first | refine Rounds.step (fun KL hL => ?_) | refine r_rounds 100 ?_)
 | ((with_reducible ((first | refine InAt.mk (fun K' hK => ?_) | refine AnyAt.mk (fun K' hK => ?_) | (refine hK _ ?_; clear hK K') | (refine hK _ _ ?_; clear hK K')))); conv => whnf)
 | (refine And.intro ?_ ?_; all_goals (conv => whnf))
 | ((first | refine if_decT (by omega) ?_ | refine if_decF (by omega) ?_ | refine if_ndecT (by omega) ?_); conv => whnf)
 | with_reducible apply_assumption -symm -exfalso)
  all_goals first | exact FinK.pu rfl | (exfalso; omega)
end Go.Proofs.YtbgnoibellfojaaGreatDoor

namespace Go.Proofs.YtbgnoibellfojaaGreatDoor
open Go Go.X
set_option maxRecDepth 100000
set_option maxHeartbeats 0
theorem fdecOutT79 {l : List UInt8} {a : Option Addr} {n cap : Nat} {w : World} (hr : RdS w 5 1 a n cap (bcells l)) (hln : l.length ≤ 1099511627776) {m : Nat} {f t : ByteArray} {u0 u1 u2 u3 : RSt} (e0 : rdS 2147483648 (some l) = (3, u0)) (e1 : rdS 2147483648 u0 = (m, u1)) (e2 : rdT u1 = (f, u2)) (e3 : rdT u2 = (t, u3)) : ∃ v : Value, ((v = .tuple #[.agg #[.int .i64 0, .int .i64 0, .int .i64 0, .int .i64 0, .int .i64 0, .int .i64 0, .string ⟨#[]⟩, .int .i64 0, .int .i64 0, .string ⟨#[]⟩, .string ⟨#[]⟩, .int .i64 0, .string ⟨#[]⟩, .int .i64 0, .int .i64 0, .slice none 0 0, .int .i64 0, .int .i64 0, .int .i64 0, .int .i64 0, .bool false, .int .i64 0, .int .i64 0, .string ⟨#[]⟩], .int .i64 10] ∧ ¬ (l.length ≤ 65536 ∧ u3 = some [] ∧ ((1 ≤ (m : Int) ∧ (m : Int) ≤ 64) ∧ rangeOk f t = true))) ∨ (v = .tuple #[.agg #[.int .i64 3, .int .i64 0, .int .i64 0, .int .i64 0, .int .i64 0, .int .i64 0, .string ⟨#[]⟩, .int .i64 0, .int .i64 (m : Nat), .string f, .string t, .int .i64 0, .string ⟨#[]⟩, .int .i64 0, .int .i64 0, .slice none 0 0, .int .i64 0, .int .i64 0, .int .i64 0, .int .i64 0, .bool false, .int .i64 0, .int .i64 0, .string ⟨#[]⟩], .int .i64 0] ∧ l.length ≤ 65536 ∧ u3 = some [] ∧ ((1 ≤ (m : Int) ∧ (m : Int) ≤ 64) ∧ rangeOk f t = true))) ∧ Pu Tryz.prog 79 #[.slice a n cap] w v := by
  have hlen := hr.len
  rw [bcells_length, Nat.mul_one] at hlen
  subst hlen
  have hs := fun n' r H => Sees.old (c := ⟨Tryz.prog, TB, n', w, noS, r, TBok⟩) (H := H) hr.old
  have rb : RB (some l) := RB.len hln
  have hne : l.length ≠ 0 := by
    intro h
    obtain rfl := List.length_eq_zero_iff.1 h
    have h1 : (rdS 2147483648 (some [])).1 = 3 := by rw [e0]
    exact absurd h1 (by decide)
  have rb0 : RB u0 := by have := RB.S (most := 2147483648) rb; rw [e0] at this; exact this
  have rb1 : RB u1 := by have := RB.S (most := 2147483648) rb0; rw [e1] at this; exact this
  have rb2 : RB u2 := by have := RB.T rb1; rw [e2] at this; exact this
  have hk2 : f.size ≤ 1099511627776 := by have := rdT_size u1; rw [e2] at this; dsimp only at this; omega
  have rb3 : RB u3 := by have := RB.T rb2; rw [e3] at this; exact this
  have hk3 : t.size ≤ 1099511627776 := by have := rdT_size u2; rw [e3] at this; dsimp only at this; omega
  obtain ⟨e, he, hchk⟩ := fcheckOutT130 (m := m) (f := f) (t := t) hk2 hk3
  by_cases hl : l.length ≤ 65536
  by_cases hend : u3 = some []
  by_cases he0 : e = 0
  subst he0
  refine ⟨_, .inr ⟨rfl, hl, hend, he.1 rfl⟩, ?_⟩
  rotate_left
  refine ⟨_, .inl ⟨rfl, fun h => he0 (he.2 h.2.2)⟩, ?_⟩
  rotate_left
  refine ⟨_, .inl ⟨rfl, fun h => hend h.2.1⟩, ?_⟩
  rotate_left
  refine ⟨_, .inl ⟨rfl, fun h => hl h.1⟩, ?_⟩
  all_goals (refine enter_sound TBok Tryz.func79 rfl rfl Tryz.ntmps79 [.v (.slice a l.length cap)] (Kn.start w noS) rfl rfl ?_; conv => whnf)
  repeat' (first
 | with_reducible ((first | refine r_seq (fun KS hS => ?_) | (refine hS _ _ ?_; clear hS KS) | (refine hA _ ?_; clear hA KA) | (refine hB _ ?_; clear hB KB) | refine r_block ?_))
 | ((with_reducible (first | refine r_region ?_ | refine r_cond (fun KA hA KB hB => ?_) | refine r_ret ?_ | refine r_skip ?_ | refine And.intro rfl ?_ | intro b)); conv => whnf)
 | ((with_reducible refine CallK.id ?_); refine CallK.fresh (fun ms w hk => fread122 (l := l) (Sees.rd (hs _ _ _) hk) (by omega)) ?_; conv => whnf)
 | (apply in127; rfl; rfl; rfl; intro A; conv => whnf)
 | ((with_reducible refine CallK.id ?_); (first | refine CallK.frE (by repeat (first | with_reducible apply At.head | apply At.tail)) (fun w => fsmall123e rb e0 w) ?_ | refine CallK.frE (by repeat (first | with_reducible apply At.head | apply At.tail)) (fun w => fsmall123e rb0 e1 w) ?_ | refine CallK.frE (by repeat (first | with_reducible apply At.head | apply At.tail)) (fun w => ftext125e rb1 e2 w) ?_ | refine CallK.frE (by repeat (first | with_reducible apply At.head | apply At.tail)) (fun w => ftext125e rb2 e3 w) ?_); conv => whnf)
 | ((with_reducible refine CallK.id ?_); refine CallK.frE (by repeat (first | with_reducible apply At.head | apply At.tail)) (fun w => fend129 w) ?_; rw [if_pos hend]; conv => whnf)
 | ((with_reducible refine CallK.id ?_); (first | (refine CallK.frE (by repeat (first | with_reducible apply At.head | apply At.tail)) (fun w => fend129 w) ?_; rw [if_neg hend]) | refine CallK.pu (fun w => hchk w) ?_); conv => whnf)
 | ((first | refine if_decT (by omega) ?_ | refine if_decF (by omega) ?_ | refine if_ndecT (by omega) ?_); conv => whnf)
 | with_reducible apply_assumption -symm -exfalso)
  all_goals first | exact FinK.pu rfl | (exfalso; omega)
end Go.Proofs.YtbgnoibellfojaaGreatDoor

namespace Go.Proofs.YtbgnoibellfojaaGreatDoor
open Go Go.X
set_option maxRecDepth 100000
set_option maxHeartbeats 0
theorem fdecInT79 {l : List UInt8} {a : Option Addr} {n cap : Nat} {w : World} (hr : RdS w 5 1 a n cap (bcells l)) (hln : l.length ≤ 1099511627776) {m : Nat} {f t x : ByteArray} {u0 u1 u2 u3 u4 : RSt} (e0 : rdS 2147483648 (some l) = (4, u0)) (e1 : rdS 2147483648 u0 = (m, u1)) (e2 : rdT u1 = (f, u2)) (e3 : rdT u2 = (t, u3)) (e4 : rdT u3 = (x, u4)) : ∃ v : Value, ((v = .tuple #[.agg #[.int .i64 0, .int .i64 0, .int .i64 0, .int .i64 0, .int .i64 0, .int .i64 0, .string ⟨#[]⟩, .int .i64 0, .int .i64 0, .string ⟨#[]⟩, .string ⟨#[]⟩, .int .i64 0, .string ⟨#[]⟩, .int .i64 0, .int .i64 0, .slice none 0 0, .int .i64 0, .int .i64 0, .int .i64 0, .int .i64 0, .bool false, .int .i64 0, .int .i64 0, .string ⟨#[]⟩], .int .i64 10] ∧ ¬ (l.length ≤ 65536 ∧ u4 = some [] ∧ ((1 ≤ (m : Int) ∧ (m : Int) ≤ 64) ∧ rangeOk f t = true ∧ x.size ≤ 65536))) ∨ (v = .tuple #[.agg #[.int .i64 4, .int .i64 0, .int .i64 0, .int .i64 0, .int .i64 0, .int .i64 0, .string ⟨#[]⟩, .int .i64 0, .int .i64 (m : Nat), .string f, .string t, .int .i64 0, .string ⟨#[]⟩, .int .i64 0, .int .i64 0, .slice none 0 0, .int .i64 0, .int .i64 0, .int .i64 0, .int .i64 0, .bool false, .int .i64 0, .int .i64 0, .string x], .int .i64 0] ∧ l.length ≤ 65536 ∧ u4 = some [] ∧ ((1 ≤ (m : Int) ∧ (m : Int) ≤ 64) ∧ rangeOk f t = true ∧ x.size ≤ 65536))) ∧ Pu Tryz.prog 79 #[.slice a n cap] w v := by
  have hlen := hr.len
  rw [bcells_length, Nat.mul_one] at hlen
  subst hlen
  have hs := fun n' r H => Sees.old (c := ⟨Tryz.prog, TB, n', w, noS, r, TBok⟩) (H := H) hr.old
  have rb : RB (some l) := RB.len hln
  have hne : l.length ≠ 0 := by
    intro h
    obtain rfl := List.length_eq_zero_iff.1 h
    have h1 : (rdS 2147483648 (some [])).1 = 4 := by rw [e0]
    exact absurd h1 (by decide)
  have rb0 : RB u0 := by have := RB.S (most := 2147483648) rb; rw [e0] at this; exact this
  have rb1 : RB u1 := by have := RB.S (most := 2147483648) rb0; rw [e1] at this; exact this
  have rb2 : RB u2 := by have := RB.T rb1; rw [e2] at this; exact this
  have hk2 : f.size ≤ 1099511627776 := by have := rdT_size u1; rw [e2] at this; dsimp only at this; omega
  have rb3 : RB u3 := by have := RB.T rb2; rw [e3] at this; exact this
  have hk3 : t.size ≤ 1099511627776 := by have := rdT_size u2; rw [e3] at this; dsimp only at this; omega
  have rb4 : RB u4 := by have := RB.T rb3; rw [e4] at this; exact this
  have hk4 : x.size ≤ 1099511627776 := by have := rdT_size u3; rw [e4] at this; dsimp only at this; omega
  obtain ⟨e, he, hchk⟩ := fcheckInT130 (m := m) (f := f) (t := t) (x := x) hk2 hk3
  by_cases hl : l.length ≤ 65536
  by_cases hend : u4 = some []
  by_cases he0 : e = 0
  subst he0
  refine ⟨_, .inr ⟨rfl, hl, hend, he.1 rfl⟩, ?_⟩
  rotate_left
  refine ⟨_, .inl ⟨rfl, fun h => he0 (he.2 h.2.2)⟩, ?_⟩
  rotate_left
  refine ⟨_, .inl ⟨rfl, fun h => hend h.2.1⟩, ?_⟩
  rotate_left
  refine ⟨_, .inl ⟨rfl, fun h => hl h.1⟩, ?_⟩
  all_goals (refine enter_sound TBok Tryz.func79 rfl rfl Tryz.ntmps79 [.v (.slice a l.length cap)] (Kn.start w noS) rfl rfl ?_; conv => whnf)
  repeat' (first
 | with_reducible ((first | refine r_seq (fun KS hS => ?_) | (refine hS _ _ ?_; clear hS KS) | (refine hA _ ?_; clear hA KA) | (refine hB _ ?_; clear hB KB) | refine r_block ?_))
 | ((with_reducible (first | refine r_region ?_ | refine r_cond (fun KA hA KB hB => ?_) | refine r_ret ?_ | refine r_skip ?_ | refine And.intro rfl ?_ | intro b)); conv => whnf)
 | ((with_reducible refine CallK.id ?_); refine CallK.fresh (fun ms w hk => fread122 (l := l) (Sees.rd (hs _ _ _) hk) (by omega)) ?_; conv => whnf)
 | (apply in127; rfl; rfl; rfl; intro A; conv => whnf)
 | ((with_reducible refine CallK.id ?_); (first | refine CallK.frE (by repeat (first | with_reducible apply At.head | apply At.tail)) (fun w => fsmall123e rb e0 w) ?_ | refine CallK.frE (by repeat (first | with_reducible apply At.head | apply At.tail)) (fun w => fsmall123e rb0 e1 w) ?_ | refine CallK.frE (by repeat (first | with_reducible apply At.head | apply At.tail)) (fun w => ftext125e rb1 e2 w) ?_ | refine CallK.frE (by repeat (first | with_reducible apply At.head | apply At.tail)) (fun w => ftext125e rb2 e3 w) ?_ | refine CallK.frE (by repeat (first | with_reducible apply At.head | apply At.tail)) (fun w => ftext125e rb3 e4 w) ?_); conv => whnf)
 | ((with_reducible refine CallK.id ?_); refine CallK.frE (by repeat (first | with_reducible apply At.head | apply At.tail)) (fun w => fend129 w) ?_; rw [if_pos hend]; conv => whnf)
 | ((with_reducible refine CallK.id ?_); (first | (refine CallK.frE (by repeat (first | with_reducible apply At.head | apply At.tail)) (fun w => fend129 w) ?_; rw [if_neg hend]) | refine CallK.pu (fun w => hchk w) ?_); conv => whnf)
 | ((first | refine if_decT (by omega) ?_ | refine if_decF (by omega) ?_ | refine if_ndecT (by omega) ?_); conv => whnf)
 | with_reducible apply_assumption -symm -exfalso)
  all_goals first | exact FinK.pu rfl | (exfalso; omega)
end Go.Proofs.YtbgnoibellfojaaGreatDoor

namespace Go.Proofs.YtbgnoibellfojaaGreatDoor
open Go Go.X
set_option maxRecDepth 100000
set_option maxHeartbeats 0
theorem fromItem75 {s t p m : Int} {i : Bool} {g : Int} {num : Nat} (h : ItemOk s t p m i g) (e : (num : Int) = itemNum s t p m i g) (w : World) : Pu Tryz.prog 75 #[.int .i64 (num : Nat)] w (.tuple #[.agg #[.int .i64 s, .int .i64 t, .int .i64 p, .int .i64 m, .bool i, .int .i64 g], .int .i64 0]) := by
  unfold itemNum at e
  obtain ⟨h1, h2, h3⟩ := h
  obtain ⟨g', rfl⟩ : ∃ g' : Nat, g = g' := ⟨g.toNat, by omega⟩
  rcases h3 with ⟨rfl, rfl, h3⟩ | ⟨h3, h4, rfl, rfl, rfl⟩
  · rw [if_pos rfl] at e
    have h3' := h3
    unfold EffOk at h3'
    obtain ⟨s', rfl⟩ : ∃ s' : Nat, s = s' := ⟨s.toNat, by omega⟩
    obtain ⟨t', rfl⟩ : ∃ t' : Nat, t = t' := ⟨t.toNat, by omega⟩
    obtain ⟨p', rfl⟩ : ∃ p' : Nat, p = p' := ⟨p.toNat, by omega⟩
    exact fromIEff75 (k := ⟨#[107]⟩) (dl := 1) h3 (by omega) hk107 (by decide) (by decide) (by unfold NumOk; decide) e w
  · rw [if_neg (by omega)] at e
    obtain ⟨m', rfl⟩ : ∃ m' : Nat, m = m' := ⟨m.toNat, by omega⟩
    cases i with
    | true => exact fromIIn75 (f1 := ⟨#[97]⟩) (x := ⟨#[]⟩) ⟨h3, h4⟩ (by omega) hk97 (by decide) (by decide) (by simpa using e) w
    | false => exact fromIOut75 (f1 := ⟨#[97]⟩) ⟨h3, h4⟩ (by omega) hk97 (by decide) (by simpa using e) w
end Go.Proofs.YtbgnoibellfojaaGreatDoor

namespace Go.Proofs.YtbgnoibellfojaaGreatDoor
open Go Go.X
set_option maxRecDepth 100000
set_option maxHeartbeats 0
theorem rdT_le {u v : RSt} {k : ByteArray} (h : rdT u = (k, v)) : k.size ≤ 1099511627776 := by
  have := rdT_size u
  rw [h] at this
  dsimp only at this
  omega
theorem fromBoth (n : Int) : (∃ (s t p m : Int) (i : Bool) (g : Int), ItemOk s t p m i g ∧ (∀ w, Pu Tryz.prog 75 #[.int .i64 n] w (.tuple #[.agg #[.int .i64 s, .int .i64 t, .int .i64 p, .int .i64 m, .bool i, .int .i64 g], .int .i64 0])) ∧ ∀ w, Pu Tryz.prog 78 #[.int .i64 n] w (.tuple #[.agg #[.int .i64 s, .int .i64 t, .int .i64 p, .int .i64 m, .bool i, .int .i64 g], .int .i64 0])) ∨ ((∀ w, Pu Tryz.prog 75 #[.int .i64 n] w (.tuple #[.agg #[.int .i64 0, .int .i64 0, .int .i64 0, .int .i64 0, .bool false, .int .i64 0], .int .i64 3])) ∧ ∀ w, Pu Tryz.prog 78 #[.int .i64 n] w (.tuple #[.agg #[.int .i64 0, .int .i64 0, .int .i64 0, .int .i64 0, .bool false, .int .i64 0], .int .i64 3])) := by
  by_cases h : n < 1 ∨ 1680728 < n
  · exact .inr ⟨fun w => fromBad75 h w, fun w => ffromBad78 h w⟩
  · obtain ⟨k, rfl⟩ := Int.eq_ofNat_of_zero_le (show 0 ≤ n by omega)
    by_cases h1 : (k : Int) ≤ 1679832
    · have hI : ItemOk (((k : Int) - 1) / 7 / 3 / 8 + 1) (((k : Int) - 1) / 7 / 3 % 8) (((k : Int) - 1) / 7 % 3 + 1) 0 false (((k : Int) - 1) % 7 + 1) := by
        refine ⟨by omega, by omega, .inl ⟨rfl, rfl, ?_⟩⟩
        unfold EffOk
        omega
      refine .inl ⟨_, _, _, _, _, _, hI, fun w => fromItem75 hI ?_ w, fun w => ffromEff78 ⟨by omega, h1⟩ w⟩
      unfold itemNum
      rw [if_pos rfl]
      omega
    · have hI : ItemOk 0 0 0 ((((k : Int) - 1) / 7 - 239976) / 2 + 1) (decide ((((k : Int) - 1) / 7 - 239976) % 2 = 1)) (((k : Int) - 1) % 7 + 1) := by
        refine ⟨by omega, by omega, .inr ⟨by omega, by omega, rfl, rfl, rfl⟩⟩
      refine .inl ⟨_, _, _, _, _, _, hI, fun w => fromItem75 hI ?_ w, fun w => ffromMove78 ⟨by omega, by omega⟩ w⟩
      unfold itemNum
      rw [if_neg (by omega)]
      by_cases h2 : (((k : Int) - 1) / 7 - 239976) % 2 = 1
      · rw [decide_eq_true h2, if_pos rfl]; omega
      · rw [decide_eq_false h2, if_neg (by simp)]; omega
theorem fcheckNoop130 (w : World) : Pu Tryz.prog 130 #[.agg #[.int .i64 0, .int .i64 0, .int .i64 0, .int .i64 0, .int .i64 0, .int .i64 0, .string ⟨#[]⟩, .int .i64 0, .int .i64 0, .string ⟨#[]⟩, .string ⟨#[]⟩, .int .i64 0, .string ⟨#[]⟩, .int .i64 0, .int .i64 0, .slice none 0 0, .int .i64 0, .int .i64 0, .int .i64 0, .int .i64 0, .bool false, .int .i64 0, .int .i64 0, .string ⟨#[]⟩]] w (.int .i64 0) := by
  refine enter_sound TBok Tryz.func130 rfl rfl Tryz.ntmps130 [.agg [.v (.int .i64 0), .v (.int .i64 0), .v (.int .i64 0), .v (.int .i64 0), .v (.int .i64 0), .v (.int .i64 0), .v (.string ⟨#[]⟩), .v (.int .i64 0), .v (.int .i64 0), .v (.string ⟨#[]⟩), .v (.string ⟨#[]⟩), .v (.int .i64 0), .v (.string ⟨#[]⟩), .v (.int .i64 0), .v (.int .i64 0), .v (.slice none 0 0), .v (.int .i64 0), .v (.int .i64 0), .v (.int .i64 0), .v (.int .i64 0), .v (.bool false), .v (.int .i64 0), .v (.int .i64 0), .v (.string ⟨#[]⟩)]] (Kn.start w noS) rfl rfl ?_
  conv => whnf
  repeat' (first
 | with_reducible ((first | refine r_seq (fun KS hS => ?_) | (refine hS _ _ ?_; clear hS KS) | (refine hA _ ?_; clear hA KA) | (refine hB _ ?_; clear hB KB) | refine r_block ?_))
 | ((with_reducible (first | refine r_region ?_ | refine r_cond (fun KA hA KB hB => ?_) | refine r_ret ?_ | refine r_skip ?_ | refine And.intro rfl ?_ | intro b)); conv => whnf)
 | (apply in208; rfl; rfl; rfl; intro A; conv => whnf)
 | ((with_reducible refine CallK.at 16 ?_); refine CallK.pu (fun w => feqCmd16 w) ?_; conv => whnf)
 | with_reducible apply_assumption -symm -exfalso)
  all_goals first | exact FinK.pu rfl | (exfalso; omega)
/-- a command that both sides read alike -/
structure GoodC (l : List UInt8) (c : CmdC) : Prop where
  pr : ∀ {w : World} {a : Option Addr} {cap : Nat}, RdS w 5 1 a l.length cap (bcells l) → Pu Tryz.prog 76 #[.slice a l.length cap] w (.tuple #[c.V, .int .i64 0])
  rf : ∀ {w : World} {a : Option Addr} {cap : Nat}, RdS w 5 1 a l.length cap (bcells l) → Pu Tryz.prog 79 #[.slice a l.length cap] w (.tuple #[c.V, .int .i64 0])
  cp : ∀ w, Pu Tryz.prog 102 #[c.V] w (.int .i64 0)
  cr : ∀ w, Pu Tryz.prog 130 #[c.V] w (.int .i64 0)
  on : c.On
  no : c.dn = ⟨#[]⟩ ∧ c.dr = 0 ∧ c.dd = 0 ∧ c.sa = none ∧ c.sn = 0 ∧ c.sc = 0
/-- nothing that is a command for an item -/
structure BadC (l : List UInt8) : Prop where
  pr : ∀ {w : World} {a : Option Addr} {cap : Nat}, RdS w 5 1 a l.length cap (bcells l) → PuE Tryz.prog 76 #[.slice a l.length cap] w (fun y => ∃ (c : CmdC) (e : Int), y = .tuple #[c.V, .int .i64 e] ∧ (e = 0 → c.Off))
  rf : ∀ {w : World} {a : Option Addr} {cap : Nat}, RdS w 5 1 a l.length cap (bcells l) → FrZ Tryz.prog 79 #[.slice a l.length cap] w emp (fun z : OffZ => .tuple #[z.c.V, .int .i64 z.e]) (fun z => SlA 144 2 z.c.sa z.c.sn z.c.sc (stC z.l))
theorem bp10 {args : Array Value} {w : World} (h : Pu Tryz.prog 76 args w (.tuple #[.agg #[.int .i64 0, .int .i64 0, .int .i64 0, .int .i64 0, .int .i64 0, .int .i64 0, .string ⟨#[]⟩, .int .i64 0, .int .i64 0, .string ⟨#[]⟩, .string ⟨#[]⟩, .int .i64 0, .string ⟨#[]⟩, .int .i64 0, .int .i64 0, .slice none 0 0, .int .i64 0, .int .i64 0, .int .i64 0, .int .i64 0, .bool false, .int .i64 0, .int .i64 0, .string ⟨#[]⟩], .int .i64 10])) : PuE Tryz.prog 76 args w (fun y => ∃ (c : CmdC) (e : Int), y = .tuple #[c.V, .int .i64 e] ∧ (e = 0 → c.Off)) := PuE.of h ⟨CmdC.zero, 10, rfl, fun h => absurd h (by decide)⟩
theorem bpOff {args : Array Value} {w : World} (c : CmdC) (ho : c.Off) {v : Value} (hv : v = .tuple #[.agg #[.int .i64 0, .int .i64 0, .int .i64 0, .int .i64 0, .int .i64 0, .int .i64 0, .string ⟨#[]⟩, .int .i64 0, .int .i64 0, .string ⟨#[]⟩, .string ⟨#[]⟩, .int .i64 0, .string ⟨#[]⟩, .int .i64 0, .int .i64 0, .slice none 0 0, .int .i64 0, .int .i64 0, .int .i64 0, .int .i64 0, .bool false, .int .i64 0, .int .i64 0, .string ⟨#[]⟩], .int .i64 10] ∨ v = .tuple #[c.V, .int .i64 0]) (h : Pu Tryz.prog 76 args w v) : PuE Tryz.prog 76 args w (fun y => ∃ (c : CmdC) (e : Int), y = .tuple #[c.V, .int .i64 e] ∧ (e = 0 → c.Off)) := by
  rcases hv with rfl | rfl
  · exact bp10 h
  · exact PuE.of h ⟨c, 0, rfl, fun _ => ho⟩
theorem br10 {args : Array Value} {w : World} (h : Pu Tryz.prog 79 args w (.tuple #[.agg #[.int .i64 0, .int .i64 0, .int .i64 0, .int .i64 0, .int .i64 0, .int .i64 0, .string ⟨#[]⟩, .int .i64 0, .int .i64 0, .string ⟨#[]⟩, .string ⟨#[]⟩, .int .i64 0, .string ⟨#[]⟩, .int .i64 0, .int .i64 0, .slice none 0 0, .int .i64 0, .int .i64 0, .int .i64 0, .int .i64 0, .bool false, .int .i64 0, .int .i64 0, .string ⟨#[]⟩], .int .i64 10])) : FrZ Tryz.prog 79 args w emp (fun z : OffZ => .tuple #[z.c.V, .int .i64 z.e]) (fun z => SlA 144 2 z.c.sa z.c.sn z.c.sc (stC z.l)) :=
  FrZ.ofPu (v := fun z : OffZ => .tuple #[z.c.V, .int .i64 z.e]) (A' := fun z => SlA 144 2 z.c.sa z.c.sn z.c.sc (stC z.l)) ⟨CmdC.zero, 10, [], fun h => absurd h (by decide), fun h => absurd h (by decide)⟩ h (fun w => SlA.nil0 w)
theorem brOff {args : Array Value} {w : World} (c : CmdC) (ho : c.Off) (hs : c.sa = none ∧ c.sn = 0 ∧ c.sc = 0) (hc : ∃ e : Int, ∀ w, Pu Tryz.prog 130 #[c.V] w (.int .i64 e)) {v : Value} (hv : v = .tuple #[.agg #[.int .i64 0, .int .i64 0, .int .i64 0, .int .i64 0, .int .i64 0, .int .i64 0, .string ⟨#[]⟩, .int .i64 0, .int .i64 0, .string ⟨#[]⟩, .string ⟨#[]⟩, .int .i64 0, .string ⟨#[]⟩, .int .i64 0, .int .i64 0, .slice none 0 0, .int .i64 0, .int .i64 0, .int .i64 0, .int .i64 0, .bool false, .int .i64 0, .int .i64 0, .string ⟨#[]⟩], .int .i64 10] ∨ v = .tuple #[c.V, .int .i64 0]) (h : Pu Tryz.prog 79 args w v) : FrZ Tryz.prog 79 args w emp (fun z : OffZ => .tuple #[z.c.V, .int .i64 z.e]) (fun z => SlA 144 2 z.c.sa z.c.sn z.c.sc (stC z.l)) := by
  rcases hv with rfl | rfl
  · exact br10 h
  · obtain ⟨e, he⟩ := hc
    refine FrZ.ofPu (v := fun z : OffZ => .tuple #[z.c.V, .int .i64 z.e]) (A' := fun z => SlA 144 2 z.c.sa z.c.sn z.c.sc (stC z.l)) ⟨c, 0, [], fun _ => ho, fun _ w _ => PuE.of (he w) ⟨e, rfl⟩⟩ h (fun w => ?_)
    dsimp only
    rw [hs.1, hs.2.1, hs.2.2]
    exact SlA.nil0 w
theorem bothRead {l : List UInt8} (hln : l.length ≤ 1099511627776) {u0 : RSt} (e0 : rdS 15 (some l) = (2, u0)) (f0 : rdS 2147483648 (some l) = (2, u0)) : BadC l := by
  rcases e1 : rdS 2147483648 u0 with ⟨q, u1⟩
  rcases e2 : rdT u1 with ⟨k, u2⟩
  rcases f1 : rdS 2147483648 u0 with ⟨q', v1⟩
  rcases f2 : rdT v1 with ⟨k', v2⟩
  refine ⟨fun hr => ?_, fun hr => ?_⟩
  · obtain ⟨v, hv, h⟩ := decReadX76 hr hln e0 e1 e2
    exact bpOff ⟨2, (q : Nat), 0, 0, 0, 0, k, 0, 0, ⟨#[]⟩, ⟨#[]⟩, 0, ⟨#[]⟩, 0, 0, none, 0, 0, 0, 0, 0, 0, false, 0, 0, ⟨#[]⟩⟩ (by refine ⟨?_, ?_, ?_⟩ <;> (try dsimp only [CmdC.zero]) <;> decide) hv h
  · obtain ⟨v, hv, h⟩ := fdecReadX79 hr hln f0 f1 f2
    exact brOff ⟨2, (q' : Nat), 0, 0, 0, 0, k', 0, 0, ⟨#[]⟩, ⟨#[]⟩, 0, ⟨#[]⟩, 0, 0, none, 0, 0, 0, 0, 0, 0, false, 0, 0, ⟨#[]⟩⟩ (by refine ⟨?_, ?_, ?_⟩ <;> (try dsimp only [CmdC.zero]) <;> decide) ⟨rfl, rfl, rfl⟩ (fcheckReadX130 (rdT_le f2)) hv h
theorem bothStatus {l : List UInt8} (hln : l.length ≤ 1099511627776) {u0 : RSt} (e0 : rdS 15 (some l) = (12, u0)) (f0 : rdS 2147483648 (some l) = (12, u0)) : BadC l := by
  rcases e1 : rdS 2147483648 u0 with ⟨q, u1⟩
  rcases e2 : rdS 9999 u1 with ⟨s, u2⟩
  rcases f1 : rdS 2147483648 u0 with ⟨q', v1⟩
  rcases f2 : rdS 2147483648 v1 with ⟨s', v2⟩
  refine ⟨fun hr => ?_, fun hr => ?_⟩
  · obtain ⟨v, hv, h⟩ := decStatusX76 hr hln e0 e1 e2
    exact bpOff ⟨12, (q : Nat), (s : Nat), 0, 0, 0, ⟨#[]⟩, 0, 0, ⟨#[]⟩, ⟨#[]⟩, 0, ⟨#[]⟩, 0, 0, none, 0, 0, 0, 0, 0, 0, false, 0, 0, ⟨#[]⟩⟩ (by refine ⟨?_, ?_, ?_⟩ <;> (try dsimp only [CmdC.zero]) <;> decide) hv h
  · obtain ⟨v, hv, h⟩ := fdecStatusX79 hr hln f0 f1 f2
    exact brOff ⟨12, (q' : Nat), (s' : Nat), 0, 0, 0, ⟨#[]⟩, 0, 0, ⟨#[]⟩, ⟨#[]⟩, 0, ⟨#[]⟩, 0, 0, none, 0, 0, 0, 0, 0, 0, false, 0, 0, ⟨#[]⟩⟩ (by refine ⟨?_, ?_, ?_⟩ <;> (try dsimp only [CmdC.zero]) <;> decide) ⟨rfl, rfl, rfl⟩ fcheckStatusX130 hv h
theorem bothCancel {l : List UInt8} (hln : l.length ≤ 1099511627776) {u0 : RSt} (e0 : rdS 15 (some l) = (13, u0)) (f0 : rdS 2147483648 (some l) = (13, u0)) : BadC l := by
  rcases e1 : rdS 2147483648 u0 with ⟨q, u1⟩
  rcases e2 : rdS 9999 u1 with ⟨s, u2⟩
  rcases f1 : rdS 2147483648 u0 with ⟨q', v1⟩
  rcases f2 : rdS 2147483648 v1 with ⟨s', v2⟩
  refine ⟨fun hr => ?_, fun hr => ?_⟩
  · obtain ⟨v, hv, h⟩ := decCancelX76 hr hln e0 e1 e2
    exact bpOff ⟨13, (q : Nat), (s : Nat), 0, 0, 0, ⟨#[]⟩, 0, 0, ⟨#[]⟩, ⟨#[]⟩, 0, ⟨#[]⟩, 0, 0, none, 0, 0, 0, 0, 0, 0, false, 0, 0, ⟨#[]⟩⟩ (by refine ⟨?_, ?_, ?_⟩ <;> (try dsimp only [CmdC.zero]) <;> decide) hv h
  · obtain ⟨v, hv, h⟩ := fdecCancelX79 hr hln f0 f1 f2
    exact brOff ⟨13, (q' : Nat), (s' : Nat), 0, 0, 0, ⟨#[]⟩, 0, 0, ⟨#[]⟩, ⟨#[]⟩, 0, ⟨#[]⟩, 0, 0, none, 0, 0, 0, 0, 0, 0, false, 0, 0, ⟨#[]⟩⟩ (by refine ⟨?_, ?_, ?_⟩ <;> (try dsimp only [CmdC.zero]) <;> decide) ⟨rfl, rfl, rfl⟩ fcheckCancelX130 hv h
theorem bothMove {l : List UInt8} (hln : l.length ≤ 1099511627776) {u0 : RSt} (e0 : rdS 15 (some l) = (14, u0)) (f0 : rdS 2147483648 (some l) = (14, u0)) : BadC l := by
  rcases e1 : rdS 2147483648 u0 with ⟨q, u1⟩
  rcases e2 : rdT u1 with ⟨f, u2⟩
  rcases e3 : rdT u2 with ⟨t, u3⟩
  rcases e4 : rdS 7 u3 with ⟨g, u4⟩
  rcases f1 : rdS 2147483648 u0 with ⟨q', v1⟩
  rcases f2 : rdT v1 with ⟨f', v2⟩
  rcases f3 : rdT v2 with ⟨t', v3⟩
  rcases f4 : rdS 2147483648 v3 with ⟨g', v4⟩
  refine ⟨fun hr => ?_, fun hr => ?_⟩
  · obtain ⟨v, hv, h⟩ := decMoveX76 hr hln e0 e1 e2 e3 e4
    exact bpOff ⟨14, (q : Nat), 0, 0, 0, 0, ⟨#[]⟩, 0, 0, f, t, (g : Nat), ⟨#[]⟩, 0, 0, none, 0, 0, 0, 0, 0, 0, false, 0, 0, ⟨#[]⟩⟩ (by refine ⟨?_, ?_, ?_⟩ <;> (try dsimp only [CmdC.zero]) <;> decide) hv h
  · obtain ⟨v, hv, h⟩ := fdecMoveX79 hr hln f0 f1 f2 f3 f4
    exact brOff ⟨14, (q' : Nat), 0, 0, 0, 0, ⟨#[]⟩, 0, 0, f', t', (g' : Nat), ⟨#[]⟩, 0, 0, none, 0, 0, 0, 0, 0, 0, false, 0, 0, ⟨#[]⟩⟩ (by refine ⟨?_, ?_, ?_⟩ <;> (try dsimp only [CmdC.zero]) <;> decide) ⟨rfl, rfl, rfl⟩ (fcheckMoveX130 (rdT_le f2) (rdT_le f3)) hv h
theorem bothRes {l : List UInt8} (hln : l.length ≤ 1099511627776) {u0 : RSt} (e0 : rdS 15 (some l) = (15, u0)) (f0 : rdS 2147483648 (some l) = (15, u0)) : BadC l := by
  rcases e1 : rdS 2147483648 u0 with ⟨n, u1⟩
  rcases fromBoth n with ⟨s, t, p, m, i, g, _, hp, hf⟩ | ⟨hp, hf⟩
  · rcases e2 : rdS 18 u1 with ⟨r, u2⟩
    rcases e3 : rdT u2 with ⟨x, u3⟩
    rcases f2 : rdS 2147483648 u1 with ⟨r', v2⟩
    rcases f3 : rdT v2 with ⟨x', v3⟩
    refine ⟨fun hr => ?_, fun hr => ?_⟩
    · obtain ⟨v, hv, h⟩ := decResAX76 hr hln e0 e1 e2 e3 hp
      exact bpOff ⟨15, 0, 0, 0, 0, 0, ⟨#[]⟩, 0, 0, ⟨#[]⟩, ⟨#[]⟩, 0, ⟨#[]⟩, 0, 0, none, 0, 0, s, t, p, m, i, g, (r : Nat), x⟩ (by refine ⟨?_, ?_, ?_⟩ <;> (try dsimp only [CmdC.zero]) <;> decide) hv h
    · obtain ⟨v, hv, h⟩ := fdecResAX79 hr hln f0 e1 f2 f3 hf
      exact brOff ⟨15, 0, 0, 0, 0, 0, ⟨#[]⟩, 0, 0, ⟨#[]⟩, ⟨#[]⟩, 0, ⟨#[]⟩, 0, 0, none, 0, 0, s, t, p, m, i, g, (r' : Nat), x'⟩ (by refine ⟨?_, ?_, ?_⟩ <;> (try dsimp only [CmdC.zero]) <;> decide) ⟨rfl, rfl, rfl⟩ fcheckResultX130 hv h
  · rcases e2 : rdS 18 none with ⟨r, u2⟩
    rcases e3 : rdT u2 with ⟨x, u3⟩
    rcases f2 : rdS 2147483648 none with ⟨r', v2⟩
    rcases f3 : rdT v2 with ⟨x', v3⟩
    refine ⟨fun hr => ?_, fun hr => ?_⟩
    · obtain ⟨v, hv, h⟩ := decResBX76 (u2 := none) hr hln e0 e1 rfl e2 e3 (by decide) hp
      exact bpOff ⟨15, 0, 0, 0, 0, 0, ⟨#[]⟩, 0, 0, ⟨#[]⟩, ⟨#[]⟩, 0, ⟨#[]⟩, 0, 0, none, 0, 0, 0, 0, 0, 0, false, 0, (r : Nat), x⟩ (by refine ⟨?_, ?_, ?_⟩ <;> (try dsimp only [CmdC.zero]) <;> decide) hv h
    · obtain ⟨v, hv, h⟩ := fdecResBX79 (u2 := none) hr hln f0 e1 rfl f2 f3 (by decide) hf
      exact brOff ⟨15, 0, 0, 0, 0, 0, ⟨#[]⟩, 0, 0, ⟨#[]⟩, ⟨#[]⟩, 0, ⟨#[]⟩, 0, 0, none, 0, 0, 0, 0, 0, 0, false, 0, (r' : Nat), x'⟩ (by refine ⟨?_, ?_, ?_⟩ <;> (try dsimp only [CmdC.zero]) <;> decide) ⟨rfl, rfl, rfl⟩ fcheckResultX130 hv h
theorem bothStart {l : List UInt8} (hln : l.length ≤ 1099511627776) {u0 : RSt} (e0 : rdS 15 (some l) = (11, u0)) (f0 : rdS 2147483648 (some l) = (11, u0)) : BadC l := by
  rcases e1 : rdS 2147483648 u0 with ⟨q, u1⟩
  rcases e2 : rdS 9999 u1 with ⟨s, u2⟩
  rcases e3 : rdT u2 with ⟨x, u3⟩
  rcases f2 : rdS 2147483648 u1 with ⟨s', v2⟩
  rcases f3 : rdT v2 with ⟨x', v3⟩
  exact ⟨fun hr => decStart76 hr hln e0 e1 e2 e3, fun hr => fdecStart79 hr hln f0 e1 f2 f3⟩
theorem bothZero {l : List UInt8} (hln : l.length ≤ 1099511627776) (hne : l.length ≠ 0) {u0 : RSt} (e0 : rdS 15 (some l) = (0, u0)) (f0 : rdS 2147483648 (some l) = (0, u0)) : BadC l :=
  ⟨fun hr => bp10 (decZero76 hr hln e0 hne), fun hr => br10 (fdecZero79 hr hln f0 hne)⟩
theorem bothOver {l : List UInt8} (hln : l.length ≤ 1099511627776) (hne : l.length ≠ 0) {k : Nat} {u0 : RSt} (hk : 16 ≤ k) (f0 : rdS 2147483648 (some l) = (k, u0)) : BadC l :=
  ⟨fun hr => bp10 (decZero76 hr hln (rdS_over f0 (by omega)) hne), fun hr => br10 (fdecNone79 hr hln f0 (.inr hk))⟩
theorem bothNone {l : List UInt8} (hln : l.length ≤ 1099511627776) {k : Nat} {u0 : RSt} (hk : 5 ≤ k ∧ k ≤ 10) (e0 : rdS 15 (some l) = (k, u0)) (f0 : rdS 2147483648 (some l) = (k, u0)) : BadC l :=
  ⟨fun hr => bp10 (decNone76 hr hln e0 hk), fun hr => br10 (fdecNone79 hr hln f0 (.inl hk))⟩
theorem bothNil : BadC [] :=
  ⟨fun hr => PuE.of decNil76 ⟨CmdC.zero, 0, rfl, fun _ => (by refine ⟨?_, ?_, ?_⟩ <;> (try dsimp only [CmdC.zero]) <;> decide)⟩, fun hr => brOff CmdC.zero (by refine ⟨?_, ?_, ?_⟩ <;> (try dsimp only [CmdC.zero]) <;> decide) ⟨rfl, rfl, rfl⟩ ⟨0, fcheckNoop130⟩ (.inr rfl) fdecNil79⟩
theorem bothEff {l : List UInt8} (hln : l.length ≤ 1099511627776) {u0 : RSt} (e0 : rdS 15 (some l) = (1, u0)) (f0 : rdS 2147483648 (some l) = (1, u0)) : (∃ c, GoodC l c) ∨ BadC l := by
  rcases e1 : rdS 9999 u0 with ⟨s, u1⟩
  rcases e2 : rdS 8 u1 with ⟨t, u2⟩
  rcases e3 : rdS 3 u2 with ⟨p, u3⟩
  rcases e4 : rdT u3 with ⟨k, u4⟩
  rcases e5 : rdI u4 with ⟨dl, u5⟩
  rcases f1 : rdS 2147483648 u0 with ⟨s', v1⟩
  rcases f2 : rdS 2147483648 v1 with ⟨t', v2⟩
  rcases f3 : rdS 2147483648 v2 with ⟨p', v3⟩
  rcases f4 : rdT v3 with ⟨k', v4⟩
  rcases f5 : rdI v4 with ⟨dl', v5⟩
  have hP : EffR 15 9999 8 3 l s t p k dl u0 u1 u2 u3 u4 u5 := ⟨e0, e1, e2, e3, e4, e5⟩
  have hR : EffR 2147483648 2147483648 2147483648 2147483648 l s' t' p' k' dl' u0 v1 v2 v3 v4 v5 := ⟨f0, f1, f2, f3, f4, f5⟩
  by_cases hg : l.length ≤ 65536 ∧ u5 = some [] ∧ (EffOk s t p ∧ nameOk k = true ∧ dl ≠ 0 ∧ NumOk dl)
  · obtain ⟨rfl, rfl, rfl, rfl, rfl, hv⟩ := hP.up hR (by decide) (by decide) (by decide) (by decide) hg.2.1
    obtain ⟨e, he, hc⟩ := checkEffT102 (s := s') (t := t') (p := p') (k := k') (d := dl') (rdT_le e4)
    obtain ⟨e', he', hc'⟩ := fcheckEffT130 (s := s') (t := t') (p := p') (k := k') (d := dl') (rdT_le e4)
    have h0 := he.2 hg.2.2
    have h0' := he'.2 hg.2.2
    subst h0 h0'
    refine .inl ⟨⟨1, 0, 0, (s' : Nat), (t' : Nat), (p' : Nat), k', dl', 0, ⟨#[]⟩, ⟨#[]⟩, 0, ⟨#[]⟩, 0, 0, none, 0, 0, 0, 0, 0, 0, false, 0, 0, ⟨#[]⟩⟩, fun hr => ?_, fun hr => ?_, hc, hc', .inl ⟨rfl, rfl⟩, ⟨rfl, rfl, rfl, rfl, rfl, rfl⟩⟩
    · obtain ⟨v, hv | hv, h⟩ := decEffT76 hr hln e0 e1 e2 e3 e4 e5
      · exact absurd hg hv.2
      · exact hv.1 ▸ h
    · obtain ⟨v, hv2 | hv2, h⟩ := fdecEffT79 hr hln f0 f1 f2 f3 f4 f5
      · exact absurd ⟨hg.1, hv, hg.2.2⟩ hv2.2
      · exact hv2.1 ▸ h
  · refine .inr ⟨fun hr => ?_, fun hr => ?_⟩
    · obtain ⟨v, hv | hv, h⟩ := decEffT76 hr hln e0 e1 e2 e3 e4 e5
      · exact bp10 (hv.1 ▸ h)
      · exact absurd hv.2 hg
    · obtain ⟨v, hv | hv, h⟩ := fdecEffT79 hr hln f0 f1 f2 f3 f4 f5
      · exact br10 (hv.1 ▸ h)
      · exfalso
        obtain ⟨-, h1, h2, h3⟩ := hv
        have h4 := h3.1
        unfold EffOk at h4
        obtain ⟨rfl, rfl, rfl, rfl, rfl, rfl⟩ := hP.down hR (by decide) (by decide) (by decide) (by decide) (by decide) (by omega) (by omega) (by omega)
        exact hg ⟨h1, h2, h3⟩
theorem bothOut {l : List UInt8} (hln : l.length ≤ 1099511627776) {u0 : RSt} (e0 : rdS 15 (some l) = (3, u0)) (f0 : rdS 2147483648 (some l) = (3, u0)) : (∃ c, GoodC l c) ∨ BadC l := by
  rcases e1 : rdS 64 u0 with ⟨m, u1⟩
  rcases e2 : rdT u1 with ⟨f, u2⟩
  rcases e3 : rdT u2 with ⟨t, u3⟩
  rcases f1 : rdS 2147483648 u0 with ⟨m', v1⟩
  rcases f2 : rdT v1 with ⟨f', v2⟩
  rcases f3 : rdT v2 with ⟨t', v3⟩
  have hP : OutR 3 15 64 l m f t u0 u1 u2 u3 := ⟨e0, e1, e2, e3⟩
  have hR : OutR 3 2147483648 2147483648 l m' f' t' u0 v1 v2 v3 := ⟨f0, f1, f2, f3⟩
  by_cases hg : l.length ≤ 65536 ∧ u3 = some [] ∧ ((1 ≤ (m : Int) ∧ (m : Int) ≤ 64) ∧ rangeOk f t = true)
  · obtain ⟨rfl, rfl, rfl, hv⟩ := hP.up hR (by decide) (by decide) hg.2.1
    obtain ⟨e, he, hc⟩ := checkOutT102 (m := m') (f := f') (t := t') (rdT_le e2) (rdT_le e3)
    obtain ⟨e', he', hc'⟩ := fcheckOutT130 (m := m') (f := f') (t := t') (rdT_le e2) (rdT_le e3)
    have h0 := he.2 hg.2.2
    have h0' := he'.2 hg.2.2
    subst h0 h0'
    refine .inl ⟨⟨3, 0, 0, 0, 0, 0, ⟨#[]⟩, 0, (m' : Nat), f', t', 0, ⟨#[]⟩, 0, 0, none, 0, 0, 0, 0, 0, 0, false, 0, 0, ⟨#[]⟩⟩, fun hr => ?_, fun hr => ?_, hc, hc', .inr ⟨.inl rfl, hg.2.2.1.1, rfl, rfl, rfl⟩, ⟨rfl, rfl, rfl, rfl, rfl, rfl⟩⟩
    · obtain ⟨v, hv | hv, h⟩ := decOutT76 hr hln e0 e1 e2 e3
      · exact absurd hg hv.2
      · exact hv.1 ▸ h
    · obtain ⟨v, hv2 | hv2, h⟩ := fdecOutT79 hr hln f0 f1 f2 f3
      · exact absurd ⟨hg.1, hv, hg.2.2⟩ hv2.2
      · exact hv2.1 ▸ h
  · refine .inr ⟨fun hr => ?_, fun hr => ?_⟩
    · obtain ⟨v, hv | hv, h⟩ := decOutT76 hr hln e0 e1 e2 e3
      · exact bp10 (hv.1 ▸ h)
      · exact absurd hv.2 hg
    · obtain ⟨v, hv | hv, h⟩ := fdecOutT79 hr hln f0 f1 f2 f3
      · exact br10 (hv.1 ▸ h)
      · exfalso
        obtain ⟨-, h1, h2, h3⟩ := hv
        have h4 := h3.1
        obtain ⟨rfl, rfl, rfl, rfl⟩ := hP.down hR (by decide) (by decide) (by decide) (by omega)
        exact hg ⟨h1, h2, h3⟩
theorem bothIn {l : List UInt8} (hln : l.length ≤ 1099511627776) {u0 : RSt} (e0 : rdS 15 (some l) = (4, u0)) (f0 : rdS 2147483648 (some l) = (4, u0)) : (∃ c, GoodC l c) ∨ BadC l := by
  rcases e1 : rdS 64 u0 with ⟨m, u1⟩
  rcases e2 : rdT u1 with ⟨f, u2⟩
  rcases e3 : rdT u2 with ⟨t, u3⟩
  rcases f1 : rdS 2147483648 u0 with ⟨m', v1⟩
  rcases f2 : rdT v1 with ⟨f', v2⟩
  rcases f3 : rdT v2 with ⟨t', v3⟩
  rcases e4 : rdT u3 with ⟨x, u4⟩
  rcases f4 : rdT v3 with ⟨x', v4⟩
  have hP : OutR 4 15 64 l m f t u0 u1 u2 u3 := ⟨e0, e1, e2, e3⟩
  have hR : OutR 4 2147483648 2147483648 l m' f' t' u0 v1 v2 v3 := ⟨f0, f1, f2, f3⟩
  by_cases hg : l.length ≤ 65536 ∧ u4 = some [] ∧ ((1 ≤ (m : Int) ∧ (m : Int) ≤ 64) ∧ rangeOk f t = true ∧ x.size ≤ 65536)
  · obtain ⟨z, hz⟩ : ∃ z, u3 = some z := by obtain ⟨h1, h2, h3⟩ := hg; rw [h2] at e4; exact rdT_some e4
    obtain ⟨rfl, rfl, rfl, hv⟩ := hP.up hR (by decide) (by decide) hz
    have f4k := f4
    rw [hv, ← hz, e4] at f4
    cases f4
    have hv := hg.2.1
    obtain ⟨e, he, hc⟩ := checkInT102 (m := m') (f := f') (t := t') (x := x) (rdT_le e2) (rdT_le e3)
    obtain ⟨e', he', hc'⟩ := fcheckInT130 (m := m') (f := f') (t := t') (x := x) (rdT_le e2) (rdT_le e3)
    have h0 := he.2 hg.2.2
    have h0' := he'.2 hg.2.2
    subst h0 h0'
    refine .inl ⟨⟨4, 0, 0, 0, 0, 0, ⟨#[]⟩, 0, (m' : Nat), f', t', 0, ⟨#[]⟩, 0, 0, none, 0, 0, 0, 0, 0, 0, false, 0, 0, x⟩, fun hr => ?_, fun hr => ?_, hc, hc', .inr ⟨.inr rfl, hg.2.2.1.1, rfl, rfl, rfl⟩, ⟨rfl, rfl, rfl, rfl, rfl, rfl⟩⟩
    · obtain ⟨v, hv | hv, h⟩ := decInT76 hr hln e0 e1 e2 e3 e4
      · exact absurd hg hv.2
      · exact hv.1 ▸ h
    · obtain ⟨v, hv2 | hv2, h⟩ := fdecInT79 hr hln f0 f1 f2 f3 f4k
      · exact absurd ⟨hg.1, hv, hg.2.2⟩ hv2.2
      · exact hv2.1 ▸ h
  · refine .inr ⟨fun hr => ?_, fun hr => ?_⟩
    · obtain ⟨v, hv | hv, h⟩ := decInT76 hr hln e0 e1 e2 e3 e4
      · exact bp10 (hv.1 ▸ h)
      · exact absurd hv.2 hg
    · obtain ⟨v, hv | hv, h⟩ := fdecInT79 hr hln f0 f1 f2 f3 f4
      · exact br10 (hv.1 ▸ h)
      · exfalso
        obtain ⟨-, h1, h2, h3⟩ := hv
        have h4 := h3.1
        obtain ⟨rfl, rfl, rfl, rfl⟩ := hP.down hR (by decide) (by decide) (by decide) (by omega)
        rw [e4] at f4
        cases f4
        exact hg ⟨h1, h2, h3⟩
theorem both (l : List UInt8) (hln : l.length ≤ 1099511627776) : (∃ c, GoodC l c) ∨ BadC l := by
  by_cases hne : l.length = 0
  · obtain rfl := List.length_eq_zero_iff.1 hne
    exact .inr bothNil
  rcases f0 : rdS 2147483648 (some l) with ⟨k, u0⟩
  by_cases hk : k ≤ 15
  · have e0 := rdS_lim f0 hk (by decide)
    obtain rfl | rfl | rfl | rfl | rfl | h | rfl | rfl | rfl | rfl | rfl : k = 0 ∨ k = 1 ∨ k = 2 ∨ k = 3 ∨ k = 4 ∨ (5 ≤ k ∧ k ≤ 10) ∨ k = 11 ∨ k = 12 ∨ k = 13 ∨ k = 14 ∨ k = 15 := by omega
    · exact .inr (bothZero hln hne e0 f0)
    · exact bothEff hln e0 f0
    · exact .inr (bothRead hln e0 f0)
    · exact bothOut hln e0 f0
    · exact bothIn hln e0 f0
    · exact .inr (bothNone hln h e0 f0)
    · exact .inr (bothStart hln e0 f0)
    · exact .inr (bothStatus hln e0 f0)
    · exact .inr (bothCancel hln e0 f0)
    · exact .inr (bothMove hln e0 f0)
    · exact .inr (bothRes hln e0 f0)
  · exact .inr (bothOver hln hne (by omega) f0)
end Go.Proofs.YtbgnoibellfojaaGreatDoor

namespace Go.Proofs.YtbgnoibellfojaaGreatDoor
open Go Go.X
set_option maxRecDepth 100000
set_option maxHeartbeats 0
theorem checkBad28 {F T br bn sl nu : Int} {v : ByteArray} {la : Option Addr} {ln lc : Nat} {w : World} (h : KAt w) (hbad : ¬ (((0 ≤ F ∧ F ≤ 55) ∧ (0 ≤ T ∧ T ≤ 55) ∧ ¬ F = T ∧ (br = 0 ∧ bn = 0) ∧ sl = 0 ∧ (1 ≤ nu ∧ nu ≤ 2147483647) ∧ ln = 0) ∧ v.size ≤ 65536)) : Pu Tryz.prog 28 #[.agg #[.int .i64 10, .int .i64 F, .int .i64 T, .int .i64 br, .int .i64 bn, .int .i64 sl, .int .i64 nu, .string v, .slice la ln lc]] w (.int .i64 (if ((0 ≤ F ∧ F ≤ 55) ∧ (0 ≤ T ∧ T ≤ 55) ∧ ¬ F = T ∧ (br = 0 ∧ bn = 0) ∧ sl = 0 ∧ (1 ≤ nu ∧ nu ≤ 2147483647) ∧ ln = 0) then 11 else 2)) := by
  refine enter_sound TBok Tryz.func28 rfl rfl Tryz.ntmps28 [.agg [.v (.int .i64 10), .v (.int .i64 F), .v (.int .i64 T), .v (.int .i64 br), .v (.int .i64 bn), .v (.int .i64 sl), .v (.int .i64 nu), .v (.string v), .v (.slice la ln lc)]] (Kn.start w noS) rfl rfl ?_
  by_cases hb : br = 0 ∧ bn = 0
  · have hB : (decide (br = 0) && (decide (bn = 0) && true)) = true := by simp [hb]
    have hB2 : (!(decide (br = 0) && (decide (bn = 0) && true))) = false := by rw [hB]; rfl
    conv => whnf
    repeat' (first
 | with_reducible ((first | refine r_seq (fun KS hS => ?_) | (refine hS _ _ ?_; clear hS KS) | (refine hA _ ?_; clear hA KA) | (refine hB _ ?_; clear hB KB) | refine r_block ?_))
 | ((with_reducible (first | refine r_region ?_ | refine r_cond (fun KA hA KB hB => ?_) | refine r_ret ?_ | refine r_skip ?_ | refine r_exit ?_ | refine And.intro rfl ?_ | intro b)); conv => whnf)
 | ((with_reducible refine WrapK.i64 ?_ ?_); (focus omega); conv => whnf)
 | (refine if_f (by assumption) ?_; conv => whnf)
 | ((with_reducible refine CallK.id ?_); (first | apply in65 | apply in108 | apply in160 | apply in168 | apply in174 | apply in179 | apply in186); rfl; rfl; rfl; intro A; conv => whnf)
 | ((with_reducible refine CallK.at 107 ?_); refine CallK.puW (fun ms w hk => find_ask107 (h.now (fun h => h) hk)) ?_; conv => whnf)
 | (refine BitK.eq (z := 0) (by decide +kernel) ?_; conv => whnf)
 | (refine BitK.eq (z := 4) (by decide +kernel) ?_; conv => whnf)
 | (refine BitK.eq (z := 8) (by decide +kernel) ?_; conv => whnf)
 | ((with_reducible apply OpK.more); (focus refine sok); (conv => whnf); fail_if_success guard_target =ₛ False)
 | with_reducible (first | refine Rounds.step (fun KL hL => ?_) | refine r_rounds 100 ?_)
 | (refine if_decT (by omega) ?_; conv => whnf)
 | ((first | refine if_dec (fun h => ?_) (fun h => ?_) | refine if_ndec (fun h => ?_) (fun h => ?_)); all_goals (conv => whnf))
 | with_reducible apply_assumption -symm -exfalso)
    all_goals first | (refine FinK.pu ?_; first | (rw [if_pos (by omega)]; rfl) | (rw [if_neg (by omega)]; rfl) | (exfalso; omega)) | (exfalso; omega)
  · have hB : (decide (br = 0) && (decide (bn = 0) && true)) = false := by
      rw [Bool.eq_false_iff]; intro h; simp only [Bool.and_true, Bool.and_eq_true, decide_eq_true_eq] at h; exact hb h
    have hB2 : (!(decide (br = 0) && (decide (bn = 0) && true))) = true := by rw [hB]; rfl
    conv => whnf
    repeat' (first
 | with_reducible ((first | refine r_seq (fun KS hS => ?_) | (refine hS _ _ ?_; clear hS KS) | (refine hA _ ?_; clear hA KA) | (refine hB _ ?_; clear hB KB) | refine r_block ?_))
 | ((with_reducible (first | refine r_region ?_ | refine r_cond (fun KA hA KB hB => ?_) | refine r_ret ?_ | refine r_skip ?_ | refine And.intro rfl ?_ | intro b)); conv => whnf)
 | (refine if_t (by assumption) ?_; conv => whnf)
 | ((with_reducible refine CallK.id ?_); (first | apply in65 | apply in108 | apply in160); rfl; rfl; rfl; intro A; conv => whnf)
 | ((with_reducible refine CallK.at 107 ?_); refine CallK.puW (fun ms w hk => find_ask107 (h.now (fun h => h) hk)) ?_; conv => whnf)
 | (refine BitK.eq (z := 0) (by decide +kernel) ?_; conv => whnf)
 | ((with_reducible apply OpK.more); (focus refine sok); (conv => whnf); fail_if_success guard_target =ₛ False)
 | with_reducible (first | refine Rounds.step (fun KL hL => ?_) | refine r_rounds 100 ?_)
 | (refine if_dec (fun h => ?_) (fun h => ?_); all_goals (conv => whnf))
 | with_reducible apply_assumption -symm -exfalso)
    all_goals first | (refine FinK.pu ?_; first | (rw [if_pos (by omega)]; rfl) | (rw [if_neg (by omega)]; rfl) | (exfalso; omega)) | (exfalso; omega)
end Go.Proofs.YtbgnoibellfojaaGreatDoor

namespace Go.Proofs.YtbgnoibellfojaaGreatDoor
open Go Go.X
set_option maxRecDepth 100000
set_option maxHeartbeats 0
theorem qA41 {k F T br bn sl nu : Int} {v : ByteArray} {la : Option Addr} {ln lc : Nat} {s t p m g er ce : Int} {i : Bool} {w : World} {d : Nat} {n gs tk : Int} {mp : Nat} (hd : DAt w d n gs tk mp) (hka : KAt w) (hn7 : 1 ≤ n ∧ n ≤ 7) (hfrom : ∀ w, Pu Tryz.prog 75 #[.int .i64 nu] w (.tuple #[.agg #[.int .i64 s, .int .i64 t, .int .i64 p, .int .i64 m, .bool i, .int .i64 g], .int .i64 er])) (hchk : k = 10 → ∀ w, KAt w → Pu Tryz.prog 28 #[.agg #[.int .i64 k, .int .i64 F, .int .i64 T, .int .i64 br, .int .i64 bn, .int .i64 sl, .int .i64 nu, .string v, .slice la ln lc]] w (.int .i64 ce)) (hb : ¬ (er = 0 ∧ k = 10 ∧ ce = 0)) : PuE Tryz.prog 41 #[pv d, .agg #[.int .i64 k, .int .i64 F, .int .i64 T, .int .i64 br, .int .i64 bn, .int .i64 sl, .int .i64 nu, .string v, .slice la ln lc]] w (fun y => ∃ (s t p m : Int) (i : Bool) (g : Int) (c : CmdC), y = .tuple #[.agg #[.int .i64 s, .int .i64 t, .int .i64 p, .int .i64 m, .bool i, .int .i64 g], c.V, .bool false]) := by
  by_cases he : er = 0
  all_goals by_cases hk : k = 10
  all_goals by_cases hce : ce = 0
  all_goals try (exfalso; omega)
  all_goals have hne := hka.ne hd
  all_goals (refine PuE.ofFrZ (enter_ro TBok (cs := DC n gs tk mp) hd Tryz.func41 rfl rfl Tryz.ntmps41 [.loc d 10 0, .agg [.v (.int .i64 k), .v (.int .i64 F), .v (.int .i64 T), .v (.int .i64 br), .v (.int .i64 bn), .v (.int .i64 sl), .v (.int .i64 nu), .v (.string v), .v (.slice la ln lc)]] rfl rfl ?_); unfold DC; conv => whnf)
  all_goals repeat' (first
 | with_reducible ((first | refine r_seq (fun KS hS => ?_) | (refine hS _ _ ?_; clear hS KS) | (refine hA _ ?_; clear hA KA)))
 | ((with_reducible (first | refine r_region ?_ | refine r_cond (fun KA hA KB hB => ?_) | refine r_ret ?_ | refine And.intro rfl ?_ | intro b)); conv => whnf)
 | (apply in45; rfl; rfl; rfl; intro A; conv => whnf)
 | ((with_reducible refine CallK.id ?_); (first | refine CallK.pu (fun w => hfrom w) ?_ | refine CallK.puW (fun ms w hk => hchk (by omega) w (hka.now hne hk)) ?_); conv => whnf)
 | ((with_reducible apply OpK.more); (focus refine sok); (conv => whnf); fail_if_success guard_target =ₛ False)
 | ((first | refine if_ndecT (by omega) ?_ | refine if_ndecF (by omega) ?_); conv => whnf))
  all_goals exact FinK.roE ⟨0, 0, 0, 0, false, 0, CmdC.zero, rfl⟩ (HSub.pick (by repeat (first | with_reducible apply At.head | apply At.tail)))
theorem qB41 {k F T br bn sl nu : Int} {v : ByteArray} {la : Option Addr} {ln lc : Nat} {s t p m g : Int} {i : Bool} {w : World} {d : Nat} {n gs tk : Int} {mp : Nat} (hd : DAt w d n gs tk mp) (hka : KAt w) (hn7 : 1 ≤ n ∧ n ≤ 7) (hfrom : ∀ w, Pu Tryz.prog 75 #[.int .i64 nu] w (.tuple #[.agg #[.int .i64 s, .int .i64 t, .int .i64 p, .int .i64 m, .bool i, .int .i64 g], .int .i64 0])) (hchk : k = 10 → ∀ w, KAt w → Pu Tryz.prog 28 #[.agg #[.int .i64 k, .int .i64 F, .int .i64 T, .int .i64 br, .int .i64 bn, .int .i64 sl, .int .i64 nu, .string v, .slice la ln lc]] w (.int .i64 0)) (hk : k = 10) (hT : 0 ≤ T ∧ T ≤ 55) (hb : ¬ (g < gs ∧ F < n ∧ T / n = g)) : PuE Tryz.prog 41 #[pv d, .agg #[.int .i64 k, .int .i64 F, .int .i64 T, .int .i64 br, .int .i64 bn, .int .i64 sl, .int .i64 nu, .string v, .slice la ln lc]] w (fun y => ∃ (s t p m : Int) (i : Bool) (g : Int) (c : CmdC), y = .tuple #[.agg #[.int .i64 s, .int .i64 t, .int .i64 p, .int .i64 m, .bool i, .int .i64 g], c.V, .bool false]) := by
  obtain ⟨qv, hq, hqv⟩ : ∃ qv : Int, IntKind.i64.wrap (T.tdiv n) = qv ∧ T / n = qv := ⟨_, by rw [IntWalk.i64_quo _ _ (by omega)], rfl⟩
  rw [hqv] at hb
  by_cases hg : g < gs
  all_goals by_cases hF : F < n
  all_goals have hne := hka.ne hd
  all_goals (refine PuE.ofFrZ (enter_ro TBok (cs := DC n gs tk mp) hd Tryz.func41 rfl rfl Tryz.ntmps41 [.loc d 10 0, .agg [.v (.int .i64 k), .v (.int .i64 F), .v (.int .i64 T), .v (.int .i64 br), .v (.int .i64 bn), .v (.int .i64 sl), .v (.int .i64 nu), .v (.string v), .v (.slice la ln lc)]] rfl rfl ?_); unfold DC; conv => whnf)
  all_goals repeat' (first
 | with_reducible ((first | refine r_seq (fun KS hS => ?_) | (refine hS _ _ ?_; clear hS KS) | (refine hA _ ?_; clear hA KA) | (refine hB _ ?_; clear hB KB)))
 | ((with_reducible (first | refine r_region ?_ | refine r_cond (fun KA hA KB hB => ?_) | refine r_ret ?_ | refine r_skip ?_ | refine And.intro rfl ?_ | intro b)); conv => whnf)
 | (apply in45; rfl; rfl; rfl; intro A; conv => whnf)
 | ((with_reducible refine CallK.id ?_); (first | refine CallK.pu (fun w => hfrom w) ?_ | refine CallK.puW (fun ms w hk => hchk (by omega) w (hka.now hne hk)) ?_); conv => whnf)
 | ((with_reducible refine QuoK.id ?_); refine QuoK.eq (by omega) hq ?_; conv => whnf)
 | ((with_reducible apply OpK.more); (focus refine sok); (conv => whnf); fail_if_success guard_target =ₛ False)
 | (apply r_quiet; refine mixed; kernel_rfl; kernel_rfl; kernel_rfl; conv => whnf)
 | ((first | refine if_decT (by omega) ?_ | refine if_decF (by omega) ?_ | refine if_ndecT (by omega) ?_ | refine if_ndecF (by omega) ?_); conv => whnf)
 | with_reducible apply_assumption -symm -exfalso)
  all_goals exact FinK.roE ⟨0, 0, 0, 0, false, 0, CmdC.zero, rfl⟩ (HSub.pick (by repeat (first | with_reducible apply At.head | apply At.tail)))
theorem qC41 {k F T br bn sl nu : Int} {v : ByteArray} {la : Option Addr} {ln lc : Nat} {s t p m g : Int} {i : Bool} {Q : CmdC → Int → Prop} {w : World} {d : Nat} {n gs tk : Int} {mp : Nat} (hd : DAt w d n gs tk mp) (hka : KAt w) (hn7 : 1 ≤ n ∧ n ≤ 7) (hfrom : ∀ w, Pu Tryz.prog 75 #[.int .i64 nu] w (.tuple #[.agg #[.int .i64 s, .int .i64 t, .int .i64 p, .int .i64 m, .bool i, .int .i64 g], .int .i64 0])) (hchk : k = 10 → ∀ w, KAt w → Pu Tryz.prog 28 #[.agg #[.int .i64 k, .int .i64 F, .int .i64 T, .int .i64 br, .int .i64 bn, .int .i64 sl, .int .i64 nu, .string v, .slice la ln lc]] w (.int .i64 0)) (hk : k = 10) (hT : 0 ≤ T ∧ T ≤ 55) (hb : g < gs ∧ F < n ∧ T / n = g)
    (hdec : ∀ {w : World} {a : Option Addr} {q cap : Nat}, RdS w 5 1 a q cap (bcells v.data.toList) → PuE Tryz.prog 76 #[.slice a q cap] w (fun y => ∃ c e, y = .tuple #[c.V, .int .i64 e] ∧ Q c e))
    (hfit : ∀ c e, Q c e → e = 0 → ∀ w, PuE Tryz.prog 61 #[c.V, .agg #[.int .i64 s, .int .i64 t, .int .i64 p, .int .i64 m, .bool i, .int .i64 g]] w (fun y => ∃ bb : Bool, (bb = true ↔ fitP c s t p m i) ∧ y = .bool bb)) : PuE Tryz.prog 41 #[pv d, .agg #[.int .i64 k, .int .i64 F, .int .i64 T, .int .i64 br, .int .i64 bn, .int .i64 sl, .int .i64 nu, .string v, .slice la ln lc]] w (fun y => ∃ c e bb, Q c e ∧ (bb = true ↔ e = 0 ∧ fitP c s t p m i) ∧ y = .tuple #[.agg #[.int .i64 s, .int .i64 t, .int .i64 p, .int .i64 m, .bool i, .int .i64 g], c.V, .bool bb]) := by
  have hq : IntKind.i64.wrap (T.tdiv n) = g := by rw [IntWalk.i64_quo _ _ (by omega)]; exact hb.2.2
  obtain ⟨hg, hF, hTg⟩ := hb
  have hne := hka.ne hd
  refine PuE.ofFrZ (enter_ro TBok (cs := DC n gs tk mp) hd Tryz.func41 rfl rfl Tryz.ntmps41 [.loc d 10 0, .agg [.v (.int .i64 k), .v (.int .i64 F), .v (.int .i64 T), .v (.int .i64 br), .v (.int .i64 bn), .v (.int .i64 sl), .v (.int .i64 nu), .v (.string v), .v (.slice la ln lc)]] rfl rfl ?_)
  unfold DC
  conv => whnf
  repeat' (first
 | with_reducible ((first | refine r_seq (fun KS hS => ?_) | (refine hS _ _ ?_; clear hS KS) | (refine hB _ ?_; clear hB KB)))
 | ((with_reducible (first | refine r_region ?_ | refine r_cond (fun KA hA KB hB => ?_) | refine r_ret ?_ | refine r_skip ?_ | refine And.intro rfl ?_ | intro b)); conv => whnf)
 | (apply in45; rfl; rfl; rfl; intro A; conv => whnf)
 | ((with_reducible refine CallK.id ?_); (first | refine CallK.pu (fun w => hfrom w) ?_ | refine CallK.puW (fun ms w hk => hchk (by omega) w (hka.now hne hk)) ?_); conv => whnf)
 | ((with_reducible refine QuoK.id ?_); refine QuoK.eq (by omega) hq ?_; conv => whnf)
 | ((with_reducible refine OpK.id ?_); refine OpK.cvSB rfl rfl rfl rfl rfl rfl rfl rfl ?_; conv => whnf)
 | ((with_reducible refine CallK.id ?_); (first | (refine CallK.puE (fun ms w hkn => hdec (Sees.rd (Sees.ext (by repeat (first | with_reducible apply At.head | apply At.tail))) hkn)) ?_; rintro _ ⟨cc, ee, rfl, hQ⟩) | (refine CallK.puE (fun ms w _ => hfit _ _ hQ (by omega) w) ?_; rintro _ ⟨bb, hbb, rfl⟩)); conv => whnf)
 | (apply r_any (id := 7); refine mixed; kernel_rfl; kernel_rfl; conv => whnf)
 | ((with_reducible apply OpK.more); (focus refine sok); (conv => whnf); fail_if_success guard_target =ₛ False)
 | ((with_reducible ((first | refine InAt.mk (fun K' hK => ?_) | refine AnyAt.mk (fun K' hK => ?_) | (refine hK _ ?_; clear hK K') | (refine hK _ _ ?_; clear hK K')))); conv => whnf)
 | (refine And.intro ?_ ?_; all_goals (conv => whnf))
 | (apply r_quiet; refine mixed; kernel_rfl; kernel_rfl; kernel_rfl; conv => whnf)
 | ((first | refine if_decF (by omega) ?_ | refine if_ndecF (by omega) ?_); conv => whnf)
 | (refine if_dec (fun h => ?_) (fun h => ?_); all_goals (conv => whnf))
 | with_reducible apply_assumption -symm -exfalso)
  all_goals first | exact FinK.roE ⟨cc, ee, bb, hQ, ⟨fun hx => ⟨by omega, hbb.1 hx⟩, fun hx => hbb.2 hx.2⟩, rfl⟩ (HSub.pick (by repeat (first | with_reducible apply At.head | apply At.tail))) | exact FinK.roE ⟨cc, ee, false, hQ, ⟨fun hx => absurd hx (by decide), fun hx => by have := hx.1; omega⟩, rfl⟩ (HSub.pick (by repeat (first | with_reducible apply At.head | apply At.tail)))
end Go.Proofs.YtbgnoibellfojaaGreatDoor

namespace Go.Proofs.YtbgnoibellfojaaGreatDoor
open Go Go.X
set_option maxRecDepth 100000
set_option maxHeartbeats 0
def RDC (n gs : Int) : List SV := [.v (.bool true), .v (.int .i64 n), .v (.int .i64 gs), .v (.int .i64 0), .v (.slice none 0 0)]
def RAt (w : World) (d : Nat) (n gs : Int) : Prop := w.heap[d]? = some (.cells (denL (RDC n gs)).toArray 92 (0, 0))
theorem Pu.ofE {P : Program} {f : FuncId} {args : Array Value} {w : World} {v : Value} (h : PuE P f args w (fun y => y = v)) : Pu P f args w v := by
  refine CT.mono h ?_
  rintro e w' ⟨_, h1, rfl, h2⟩
  exact ⟨h1, h2⟩
theorem fqA42 {k F T br bn sl nu : Int} {v : ByteArray} {la : Option Addr} {ln lc : Nat} {ce : Int} {w : World} {d : Nat} {n gs : Int} (hd : RAt w d n gs) (hn7 : 1 ≤ n ∧ n ≤ 7) (hchk : k = 10 → ∀ w, Pu Tryz.prog 77 #[.agg #[.int .i64 k, .int .i64 F, .int .i64 T, .int .i64 br, .int .i64 bn, .int .i64 sl, .int .i64 nu, .string v, .slice la ln lc]] w (.int .i64 ce)) (hb : ¬ (k = 10 ∧ ce = 0)) : Pu Tryz.prog 42 #[pv d, .agg #[.int .i64 k, .int .i64 F, .int .i64 T, .int .i64 br, .int .i64 bn, .int .i64 sl, .int .i64 nu, .string v, .slice la ln lc]] w (.tuple #[.agg #[.int .i64 0, .int .i64 0, .int .i64 0, .int .i64 0, .bool false, .int .i64 0], .agg #[.int .i64 0, .int .i64 0, .int .i64 0, .int .i64 0, .int .i64 0, .int .i64 0, .string ⟨#[]⟩, .int .i64 0, .int .i64 0, .string ⟨#[]⟩, .string ⟨#[]⟩, .int .i64 0, .string ⟨#[]⟩, .int .i64 0, .int .i64 0, .slice none 0 0, .int .i64 0, .int .i64 0, .int .i64 0, .int .i64 0, .bool false, .int .i64 0, .int .i64 0, .string ⟨#[]⟩], .bool false]) := by
  by_cases hk : k = 10
  all_goals (refine Pu.ofFrZ (enter_ro TBok (cs := RDC n gs) hd Tryz.func42 rfl rfl Tryz.ntmps42 [.loc d 10 0, .agg [.v (.int .i64 k), .v (.int .i64 F), .v (.int .i64 T), .v (.int .i64 br), .v (.int .i64 bn), .v (.int .i64 sl), .v (.int .i64 nu), .v (.string v), .v (.slice la ln lc)]] rfl rfl ?_); unfold RDC; conv => whnf)
  all_goals repeat' (first
 | with_reducible ((first | refine r_seq (fun KS hS => ?_) | (refine hS _ _ ?_; clear hS KS) | (refine hA _ ?_; clear hA KA)))
 | ((with_reducible (first | refine r_region ?_ | refine r_cond (fun KA hA KB hB => ?_) | refine r_ret ?_ | refine And.intro rfl ?_ | intro b)); conv => whnf)
 | (apply in47; rfl; rfl; rfl; intro A; conv => whnf)
 | ((with_reducible refine CallK.id ?_); refine CallK.pu (fun w => hchk (by omega) w) ?_; conv => whnf)
 | ((with_reducible apply OpK.more); (focus refine sok); (conv => whnf); fail_if_success guard_target =ₛ False)
 | ((first | refine if_ndecT (by omega) ?_ | refine if_ndecF (by omega) ?_); conv => whnf))
  all_goals first | exact FinK.ro0 rfl (HSub.pick (by repeat (first | with_reducible apply At.head | apply At.tail))) | (exfalso; omega)
theorem fqE42 {k F T br bn sl nu : Int} {v : ByteArray} {la : Option Addr} {ln lc : Nat} {s t p m g er : Int} {i : Bool} {w : World} {d : Nat} {n gs : Int} (hd : RAt w d n gs) (hn7 : 1 ≤ n ∧ n ≤ 7) (hfrom : ∀ w, Pu Tryz.prog 78 #[.int .i64 nu] w (.tuple #[.agg #[.int .i64 s, .int .i64 t, .int .i64 p, .int .i64 m, .bool i, .int .i64 g], .int .i64 er])) (hchk : k = 10 → ∀ w, Pu Tryz.prog 77 #[.agg #[.int .i64 k, .int .i64 F, .int .i64 T, .int .i64 br, .int .i64 bn, .int .i64 sl, .int .i64 nu, .string v, .slice la ln lc]] w (.int .i64 0)) (hk : k = 10) (hb : er ≠ 0) : Pu Tryz.prog 42 #[pv d, .agg #[.int .i64 k, .int .i64 F, .int .i64 T, .int .i64 br, .int .i64 bn, .int .i64 sl, .int .i64 nu, .string v, .slice la ln lc]] w (.tuple #[.agg #[.int .i64 0, .int .i64 0, .int .i64 0, .int .i64 0, .bool false, .int .i64 0], .agg #[.int .i64 0, .int .i64 0, .int .i64 0, .int .i64 0, .int .i64 0, .int .i64 0, .string ⟨#[]⟩, .int .i64 0, .int .i64 0, .string ⟨#[]⟩, .string ⟨#[]⟩, .int .i64 0, .string ⟨#[]⟩, .int .i64 0, .int .i64 0, .slice none 0 0, .int .i64 0, .int .i64 0, .int .i64 0, .int .i64 0, .bool false, .int .i64 0, .int .i64 0, .string ⟨#[]⟩], .bool false]) := by
  refine Pu.ofFrZ (enter_ro TBok (cs := RDC n gs) hd Tryz.func42 rfl rfl Tryz.ntmps42 [.loc d 10 0, .agg [.v (.int .i64 k), .v (.int .i64 F), .v (.int .i64 T), .v (.int .i64 br), .v (.int .i64 bn), .v (.int .i64 sl), .v (.int .i64 nu), .v (.string v), .v (.slice la ln lc)]] rfl rfl ?_)
  unfold RDC
  conv => whnf
  repeat' (first
 | with_reducible ((first | refine r_seq (fun KS hS => ?_) | (refine hS _ _ ?_; clear hS KS) | (refine hA _ ?_; clear hA KA) | (refine hB _ ?_; clear hB KB)))
 | ((with_reducible (first | refine r_region ?_ | refine r_cond (fun KA hA KB hB => ?_) | refine r_ret ?_ | refine r_skip ?_ | refine And.intro rfl ?_ | intro b)); conv => whnf)
 | (apply in47; rfl; rfl; rfl; intro A; conv => whnf)
 | ((with_reducible refine CallK.id ?_); (first | refine CallK.pu (fun w => hfrom w) ?_ | refine CallK.pu (fun w => hchk (by omega) w) ?_); conv => whnf)
 | ((with_reducible apply OpK.more); (focus refine sok); (conv => whnf); fail_if_success guard_target =ₛ False)
 | (apply r_quiet; refine mixed; kernel_rfl; kernel_rfl; kernel_rfl; conv => whnf)
 | ((first | refine if_ndecT (by omega) ?_ | refine if_ndecF (by omega) ?_); conv => whnf)
 | with_reducible apply_assumption -symm -exfalso)
  all_goals first | exact FinK.ro0 rfl (HSub.pick (by repeat (first | with_reducible apply At.head | apply At.tail))) | (exfalso; omega)
theorem fqB42 {k F T br bn sl nu : Int} {v : ByteArray} {la : Option Addr} {ln lc : Nat} {s t p m g : Int} {i : Bool} {w : World} {d : Nat} {n gs : Int} (hd : RAt w d n gs) (hn7 : 1 ≤ n ∧ n ≤ 7) (hfrom : ∀ w, Pu Tryz.prog 78 #[.int .i64 nu] w (.tuple #[.agg #[.int .i64 s, .int .i64 t, .int .i64 p, .int .i64 m, .bool i, .int .i64 g], .int .i64 0])) (hchk : k = 10 → ∀ w, Pu Tryz.prog 77 #[.agg #[.int .i64 k, .int .i64 F, .int .i64 T, .int .i64 br, .int .i64 bn, .int .i64 sl, .int .i64 nu, .string v, .slice la ln lc]] w (.int .i64 0)) (hk : k = 10) (hT : 0 ≤ T ∧ T ≤ 55) (hb : ¬ (g < gs ∧ F < n ∧ T / n = g)) : Pu Tryz.prog 42 #[pv d, .agg #[.int .i64 k, .int .i64 F, .int .i64 T, .int .i64 br, .int .i64 bn, .int .i64 sl, .int .i64 nu, .string v, .slice la ln lc]] w (.tuple #[.agg #[.int .i64 0, .int .i64 0, .int .i64 0, .int .i64 0, .bool false, .int .i64 0], .agg #[.int .i64 0, .int .i64 0, .int .i64 0, .int .i64 0, .int .i64 0, .int .i64 0, .string ⟨#[]⟩, .int .i64 0, .int .i64 0, .string ⟨#[]⟩, .string ⟨#[]⟩, .int .i64 0, .string ⟨#[]⟩, .int .i64 0, .int .i64 0, .slice none 0 0, .int .i64 0, .int .i64 0, .int .i64 0, .int .i64 0, .bool false, .int .i64 0, .int .i64 0, .string ⟨#[]⟩], .bool false]) := by
  obtain ⟨qv, hq, hqv⟩ : ∃ qv : Int, IntKind.i64.wrap (T.tdiv n) = qv ∧ T / n = qv := ⟨_, by rw [IntWalk.i64_quo _ _ (by omega)], rfl⟩
  rw [hqv] at hb
  by_cases hg : g < gs
  all_goals by_cases hF : F < n
  all_goals (refine Pu.ofFrZ (enter_ro TBok (cs := RDC n gs) hd Tryz.func42 rfl rfl Tryz.ntmps42 [.loc d 10 0, .agg [.v (.int .i64 k), .v (.int .i64 F), .v (.int .i64 T), .v (.int .i64 br), .v (.int .i64 bn), .v (.int .i64 sl), .v (.int .i64 nu), .v (.string v), .v (.slice la ln lc)]] rfl rfl ?_); unfold RDC; conv => whnf)
  all_goals repeat' (first
 | with_reducible ((first | refine r_seq (fun KS hS => ?_) | (refine hS _ _ ?_; clear hS KS) | (refine hA _ ?_; clear hA KA) | (refine hB _ ?_; clear hB KB)))
 | ((with_reducible (first | refine r_region ?_ | refine r_cond (fun KA hA KB hB => ?_) | refine r_ret ?_ | refine r_skip ?_ | refine And.intro rfl ?_ | intro b)); conv => whnf)
 | (apply in47; rfl; rfl; rfl; intro A; conv => whnf)
 | ((with_reducible refine CallK.id ?_); (first | refine CallK.pu (fun w => hfrom w) ?_ | refine CallK.pu (fun w => hchk (by omega) w) ?_); conv => whnf)
 | ((with_reducible refine QuoK.id ?_); refine QuoK.eq (by omega) hq ?_; conv => whnf)
 | ((with_reducible apply OpK.more); (focus refine sok); (conv => whnf); fail_if_success guard_target =ₛ False)
 | (apply r_quiet; refine mixed; kernel_rfl; kernel_rfl; kernel_rfl; conv => whnf)
 | ((first | refine if_decT (by omega) ?_ | refine if_decF (by omega) ?_ | refine if_ndecT (by omega) ?_ | refine if_ndecF (by omega) ?_); conv => whnf)
 | with_reducible apply_assumption -symm -exfalso)
  all_goals first | exact FinK.ro0 rfl (HSub.pick (by repeat (first | with_reducible apply At.head | apply At.tail))) | (exfalso; omega)
theorem fqC42 {k F T br bn sl nu : Int} {v : ByteArray} {la : Option Addr} {ln lc : Nat} {s t p m g : Int} {i : Bool} {w : World} {d : Nat} {n gs : Int} (hd : RAt w d n gs) (hn7 : 1 ≤ n ∧ n ≤ 7) (hfrom : ∀ w, Pu Tryz.prog 78 #[.int .i64 nu] w (.tuple #[.agg #[.int .i64 s, .int .i64 t, .int .i64 p, .int .i64 m, .bool i, .int .i64 g], .int .i64 0])) (hchk : k = 10 → ∀ w, Pu Tryz.prog 77 #[.agg #[.int .i64 k, .int .i64 F, .int .i64 T, .int .i64 br, .int .i64 bn, .int .i64 sl, .int .i64 nu, .string v, .slice la ln lc]] w (.int .i64 0)) (hk : k = 10) (hT : 0 ≤ T ∧ T ≤ 55) (hb : g < gs ∧ F < n ∧ T / n = g)
    (hdec : ∀ {w : World} {a : Option Addr} {q cap : Nat}, RdS w 5 1 a q cap (bcells v.data.toList) → FrZ Tryz.prog 79 #[.slice a q cap] w emp (fun z : OffZ => .tuple #[z.c.V, .int .i64 z.e]) (fun z => SlA 144 2 z.c.sa z.c.sn z.c.sc (stC z.l)))
    (hfit : ∀ (z : OffZ) w, z.e = 0 → RdS w 144 2 z.c.sa z.c.sn z.c.sc (stC z.l) → PuE Tryz.prog 80 #[z.c.V, .agg #[.int .i64 s, .int .i64 t, .int .i64 p, .int .i64 m, .bool i, .int .i64 g]] w (fun y => y = .bool false)) : Pu Tryz.prog 42 #[pv d, .agg #[.int .i64 k, .int .i64 F, .int .i64 T, .int .i64 br, .int .i64 bn, .int .i64 sl, .int .i64 nu, .string v, .slice la ln lc]] w (.tuple #[.agg #[.int .i64 0, .int .i64 0, .int .i64 0, .int .i64 0, .bool false, .int .i64 0], .agg #[.int .i64 0, .int .i64 0, .int .i64 0, .int .i64 0, .int .i64 0, .int .i64 0, .string ⟨#[]⟩, .int .i64 0, .int .i64 0, .string ⟨#[]⟩, .string ⟨#[]⟩, .int .i64 0, .string ⟨#[]⟩, .int .i64 0, .int .i64 0, .slice none 0 0, .int .i64 0, .int .i64 0, .int .i64 0, .int .i64 0, .bool false, .int .i64 0, .int .i64 0, .string ⟨#[]⟩], .bool false]) := by
  have hq : IntKind.i64.wrap (T.tdiv n) = g := by rw [IntWalk.i64_quo _ _ (by omega)]; exact hb.2.2
  obtain ⟨hg, hF, hTg⟩ := hb
  refine Pu.ofFrZ (enter_ro TBok (cs := RDC n gs) hd Tryz.func42 rfl rfl Tryz.ntmps42 [.loc d 10 0, .agg [.v (.int .i64 k), .v (.int .i64 F), .v (.int .i64 T), .v (.int .i64 br), .v (.int .i64 bn), .v (.int .i64 sl), .v (.int .i64 nu), .v (.string v), .v (.slice la ln lc)]] rfl rfl ?_)
  unfold RDC
  conv => whnf
  repeat' (first
 | with_reducible ((first | refine r_seq (fun KS hS => ?_) | (refine hS _ _ ?_; clear hS KS) | (refine hA _ ?_; clear hA KA) | (refine hB _ ?_; clear hB KB)))
 | ((with_reducible (first | refine r_region ?_ | refine r_cond (fun KA hA KB hB => ?_) | refine r_ret ?_ | refine r_skip ?_ | refine And.intro rfl ?_ | intro b)); conv => whnf)
 | (apply in47; rfl; rfl; rfl; intro A; conv => whnf)
 | ((with_reducible refine CallK.id ?_); (first | refine CallK.pu (fun w => hfrom w) ?_ | refine CallK.pu (fun w => hchk (by omega) w) ?_); conv => whnf)
 | ((with_reducible refine QuoK.id ?_); refine QuoK.eq (by omega) hq ?_; conv => whnf)
 | ((with_reducible refine OpK.id ?_); refine OpK.cvSB rfl rfl rfl rfl rfl rfl rfl rfl ?_; conv => whnf)
 | ((with_reducible refine CallK.id ?_); refine CallK.fresh (fun ms w hkn => hdec (Sees.rd (Sees.ext (by repeat (first | with_reducible apply At.head | apply At.tail))) hkn)) ?_; conv => whnf)
 | ((with_reducible refine CallK.id ?_); refine CallK.puE (fun ms w hkn => hfit _ w (by omega) (Sees.rd (Sees.ext (by repeat (first | with_reducible apply At.head | apply At.tail))) hkn)) ?_; rintro _ rfl; conv => whnf)
 | ((with_reducible apply OpK.more); (focus refine sok); (conv => whnf); fail_if_success guard_target =ₛ False)
 | (apply r_quiet; refine mixed; kernel_rfl; kernel_rfl; kernel_rfl; conv => whnf)
 | ((first | refine if_decF (by omega) ?_ | refine if_ndecF (by omega) ?_); conv => whnf)
 | (refine if_ndec (fun h => ?_) (fun h => ?_); all_goals (conv => whnf))
 | with_reducible apply_assumption -symm -exfalso)
  all_goals first | exact FinK.ro0 rfl (HSub.pick (by repeat (first | with_reducible apply At.head | apply At.tail))) | (exfalso; omega)
theorem fqD42 {k F T br bn sl nu : Int} {v : ByteArray} {la : Option Addr} {ln lc : Nat} {s t p m g : Int} {i bb : Bool} {c : CmdC} {w : World} {d : Nat} {n gs : Int} (hd : RAt w d n gs) (hn7 : 1 ≤ n ∧ n ≤ 7) (hfrom : ∀ w, Pu Tryz.prog 78 #[.int .i64 nu] w (.tuple #[.agg #[.int .i64 s, .int .i64 t, .int .i64 p, .int .i64 m, .bool i, .int .i64 g], .int .i64 0])) (hchk : k = 10 → ∀ w, Pu Tryz.prog 77 #[.agg #[.int .i64 k, .int .i64 F, .int .i64 T, .int .i64 br, .int .i64 bn, .int .i64 sl, .int .i64 nu, .string v, .slice la ln lc]] w (.int .i64 0)) (hk : k = 10) (hT : 0 ≤ T ∧ T ≤ 55) (hb : g < gs ∧ F < n ∧ T / n = g)
    (hdec : ∀ {w : World} {a : Option Addr} {q cap : Nat}, RdS w 5 1 a q cap (bcells v.data.toList) → Pu Tryz.prog 79 #[.slice a q cap] w (.tuple #[c.V, .int .i64 0]))
    (hfit : ∀ w, Pu Tryz.prog 80 #[c.V, .agg #[.int .i64 s, .int .i64 t, .int .i64 p, .int .i64 m, .bool i, .int .i64 g]] w (.bool bb)) : Pu Tryz.prog 42 #[pv d, .agg #[.int .i64 k, .int .i64 F, .int .i64 T, .int .i64 br, .int .i64 bn, .int .i64 sl, .int .i64 nu, .string v, .slice la ln lc]] w (if bb then .tuple #[.agg #[.int .i64 s, .int .i64 t, .int .i64 p, .int .i64 m, .bool i, .int .i64 g], c.V, .bool true] else .tuple #[.agg #[.int .i64 0, .int .i64 0, .int .i64 0, .int .i64 0, .bool false, .int .i64 0], .agg #[.int .i64 0, .int .i64 0, .int .i64 0, .int .i64 0, .int .i64 0, .int .i64 0, .string ⟨#[]⟩, .int .i64 0, .int .i64 0, .string ⟨#[]⟩, .string ⟨#[]⟩, .int .i64 0, .string ⟨#[]⟩, .int .i64 0, .int .i64 0, .slice none 0 0, .int .i64 0, .int .i64 0, .int .i64 0, .int .i64 0, .bool false, .int .i64 0, .int .i64 0, .string ⟨#[]⟩], .bool false]) := by
  have hq : IntKind.i64.wrap (T.tdiv n) = g := by rw [IntWalk.i64_quo _ _ (by omega)]; exact hb.2.2
  obtain ⟨hg, hF, hTg⟩ := hb
  cases bb
  all_goals (refine Pu.ofFrZ (enter_ro TBok (cs := RDC n gs) hd Tryz.func42 rfl rfl Tryz.ntmps42 [.loc d 10 0, .agg [.v (.int .i64 k), .v (.int .i64 F), .v (.int .i64 T), .v (.int .i64 br), .v (.int .i64 bn), .v (.int .i64 sl), .v (.int .i64 nu), .v (.string v), .v (.slice la ln lc)]] rfl rfl ?_); unfold RDC; conv => whnf)
  all_goals repeat' (first
 | with_reducible ((first | refine r_seq (fun KS hS => ?_) | (refine hS _ _ ?_; clear hS KS) | (refine hA _ ?_; clear hA KA) | (refine hB _ ?_; clear hB KB)))
 | ((with_reducible (first | refine r_region ?_ | refine r_cond (fun KA hA KB hB => ?_) | refine r_ret ?_ | refine r_skip ?_ | refine And.intro rfl ?_ | intro b)); conv => whnf)
 | (apply in47; rfl; rfl; rfl; intro A; conv => whnf)
 | ((with_reducible refine CallK.id ?_); (first | refine CallK.pu (fun w => hfrom w) ?_ | refine CallK.pu (fun w => hchk (by omega) w) ?_); conv => whnf)
 | ((with_reducible refine QuoK.id ?_); refine QuoK.eq (by omega) hq ?_; conv => whnf)
 | ((with_reducible refine OpK.id ?_); refine OpK.cvSB rfl rfl rfl rfl rfl rfl rfl rfl ?_; conv => whnf)
 | ((with_reducible refine CallK.id ?_); (first | refine CallK.puW (fun ms w hkn => hdec (Sees.rd (Sees.ext (by repeat (first | with_reducible apply At.head | apply At.tail))) hkn)) ?_ | refine CallK.pu (fun w => hfit w) ?_); conv => whnf)
 | (apply r_any (id := 9); refine mixed; kernel_rfl; kernel_rfl; conv => whnf)
 | ((with_reducible apply OpK.more); (focus refine sok); (conv => whnf); fail_if_success guard_target =ₛ False)
 | ((with_reducible ((first | refine InAt.mk (fun K' hK => ?_) | refine AnyAt.mk (fun K' hK => ?_) | (refine hK _ ?_; clear hK K') | (refine hK _ _ ?_; clear hK K')))); conv => whnf)
 | (refine And.intro ?_ ?_; all_goals (conv => whnf))
 | (apply r_quiet; refine mixed; kernel_rfl; kernel_rfl; kernel_rfl; conv => whnf)
 | ((first | refine if_decF (by omega) ?_ | refine if_ndecF (by omega) ?_); conv => whnf)
 | with_reducible apply_assumption -symm -exfalso)
  all_goals first | exact FinK.ro0 rfl (HSub.pick (by repeat (first | with_reducible apply At.head | apply At.tail))) | (exfalso; omega)
end Go.Proofs.YtbgnoibellfojaaGreatDoor

namespace Go.Proofs.YtbgnoibellfojaaGreatDoor
open Go Go.X
set_option maxRecDepth 100000
set_option maxHeartbeats 0
theorem check_askS28 {f t n : Nat} {v : ByteArray} {la : Option Addr} {lc : Nat} {w : World} (h : KAt w) (hf : f ≤ 55) (ht : t ≤ 55) (hft : f < t ∨ t < f) (hn : 1 ≤ n ∧ n ≤ 2147483647) (hv : v.size ≤ 65536) : Pu Tryz.prog 28 #[.agg #[.int .i64 10, .int .i64 (f : Nat), .int .i64 (t : Nat), .int .i64 0, .int .i64 0, .int .i64 0, .int .i64 (n : Nat), .string v, .slice la 0 lc]] w (.int .i64 0) := by
  have hvl := str_len v
  have hu0 := uvar_len64 (n := 10) (by omega)
  have hu1 := uvar_len64 (n := f) (by omega)
  have hu2 := uvar_len64 (n := t) (by omega)
  have hu3 := uvar_len64 (n := n) (by omega)
  have hu4 := uvar_len64 (n := v.size) (by omega)
  have hbl : (uvar 10 ++ uvar f ++ uvar t ++ uvar n ++ uvar v.size ++ v.data.toList).length ≤ 65600 := by simp only [List.length_append]; omega
  refine enter_sound TBok Tryz.func28 rfl rfl Tryz.ntmps28 [.agg [.v (.int .i64 10), .v (.int .i64 (f : Nat)), .v (.int .i64 (t : Nat)), .v (.int .i64 0), .v (.int .i64 0), .v (.int .i64 0), .v (.int .i64 (n : Nat)), .v (.string v), .v (.slice la 0 lc)]] (Kn.start w noS) rfl rfl ?_
  conv => whnf
  repeat' (first
 | with_reducible ((first | refine r_seq (fun KS hS => ?_) | (refine hS _ _ ?_; clear hS KS) | (refine hA _ ?_; clear hA KA) | (refine hB _ ?_; clear hB KB) | refine r_block ?_))
 | ((with_reducible (first | refine r_region ?_ | refine r_cond (fun KA hA KB hB => ?_) | refine r_ret ?_ | refine r_skip ?_ | refine r_exit ?_ | refine And.intro rfl ?_ | intro b)); conv => whnf)
 | ((with_reducible refine WrapK.i64 ?_ ?_); (focus omega); conv => whnf)
 | ((with_reducible refine CallK.id ?_); (first | apply in65 | apply in108 | apply in82 | apply in160 | apply in168 | apply in174 | apply in179 | apply in186 | apply in109 | apply in190 | apply in111 | apply in176 | apply in181); rfl; rfl; rfl; intro A; conv => whnf)
 | ((with_reducible refine OpK.id ?_); refine OpK.aIx rfl rfl rfl rfl rfl rfl (by omega) (by show _ < (3 : Int); omega) ?_; conv => whnf)
 | ((with_reducible refine CallK.id ?_); refine CallK.frZE (by repeat (first | with_reducible apply At.head | apply At.tail)) (fun w => bytes135 (l := uvar 10 ++ uvar f ++ uvar t ++ uvar n ++ uvar v.size ++ v.data.toList) (by omega) w) ?_; conv => whnf)
 | ((with_reducible refine CallK.at 107 ?_); refine CallK.puW (fun ms w hk => find_ask107 (h.now (fun h => h) hk)) ?_; conv => whnf)
 | (refine BitK.eq (z := 0) (by decide +kernel) ?_; conv => whnf)
 | (refine BitK.eq (z := 4) (by decide +kernel) ?_; conv => whnf)
 | (refine BitK.eq (z := 8) (by decide +kernel) ?_; conv => whnf)
 | ((with_reducible refine WrapK.id ?_); refine WrapK.eq (IntWalk.u64_in _ (by omega)) ?_; conv => whnf)
 | ((with_reducible refine CallK.id ?_); (first | refine CallK.frB At.head (fun w => uint83n (n := 10) (by omega) w) ?_ | (refine CallK.frE (by repeat (first | with_reducible apply At.head | apply At.tail)) (fun w => text85 (by omega) (by first | omega | (simp only [List.length_append, List.length_nil]; omega)) w) ?_) | (refine CallK.frE (by repeat (first | with_reducible apply At.head | apply At.tail)) (fun w => uint83 (n := f) (by omega) (by first | omega | (simp only [List.length_append, List.length_nil]; omega)) w) ?_) | (refine CallK.frE (by repeat (first | with_reducible apply At.head | apply At.tail)) (fun w => uint83 (n := t) (by omega) (by first | omega | (simp only [List.length_append, List.length_nil]; omega)) w) ?_) | (refine CallK.frE (by repeat (first | with_reducible apply At.head | apply At.tail)) (fun w => uint83 (n := n) (by omega) (by first | omega | (simp only [List.length_append, List.length_nil]; omega)) w) ?_)); conv => whnf)
 | ((with_reducible apply OpK.more); (focus refine sok); (conv => whnf); fail_if_success guard_target =ₛ False)
 | with_reducible (first | refine Rounds.step (fun KL hL => ?_) | refine r_rounds 100 ?_)
 | ((first | refine if_decT (by omega) ?_ | refine if_decF (by omega) ?_ | refine if_ndecF (by omega) ?_); conv => whnf)
 | with_reducible apply_assumption -symm -exfalso)
  exact FinK.pu rfl
/-- a question that both sides take, for an item, with a command -/
structure QGood (m : Value) (n gs : Int) (s t p mv : Int) (i : Bool) (g : Int) (c : CmdC) : Prop where
  pr : ∀ {w : World} {d mp : Nat} {tk : Int}, DAt w d n gs tk mp → KAt w → Pu Tryz.prog 41 #[pv d, m] w (.tuple #[.agg #[.int .i64 s, .int .i64 t, .int .i64 p, .int .i64 mv, .bool i, .int .i64 g], c.V, .bool true])
  rf : ∀ {w : World} {d : Nat}, RAt w d n gs → Pu Tryz.prog 42 #[pv d, m] w (.tuple #[.agg #[.int .i64 s, .int .i64 t, .int .i64 p, .int .i64 mv, .bool i, .int .i64 g], c.V, .bool true])
  no : c.dn = ⟨#[]⟩ ∧ c.dr = 0 ∧ c.dd = 0 ∧ c.sa = none ∧ c.sn = 0 ∧ c.sc = 0
/-- what neither side takes -/
structure QBad (m : Value) (n gs : Int) : Prop where
  pr : ∀ {w : World} {d mp : Nat} {tk : Int}, DAt w d n gs tk mp → KAt w → PuE Tryz.prog 41 #[pv d, m] w (fun y => ∃ (s t p m : Int) (i : Bool) (g : Int) (c : CmdC), y = .tuple #[.agg #[.int .i64 s, .int .i64 t, .int .i64 p, .int .i64 m, .bool i, .int .i64 g], c.V, .bool false])
  rf : ∀ {w : World} {d : Nat}, RAt w d n gs → Pu Tryz.prog 42 #[pv d, m] w (.tuple #[.agg #[.int .i64 0, .int .i64 0, .int .i64 0, .int .i64 0, .bool false, .int .i64 0], .agg #[.int .i64 0, .int .i64 0, .int .i64 0, .int .i64 0, .int .i64 0, .int .i64 0, .string ⟨#[]⟩, .int .i64 0, .int .i64 0, .string ⟨#[]⟩, .string ⟨#[]⟩, .int .i64 0, .string ⟨#[]⟩, .int .i64 0, .int .i64 0, .slice none 0 0, .int .i64 0, .int .i64 0, .int .i64 0, .int .i64 0, .bool false, .int .i64 0, .int .i64 0, .string ⟨#[]⟩], .bool false])
theorem quest {k F T br bn sl nu : Int} {v : ByteArray} {la : Option Addr} {ln lc : Nat} {n gs : Int} (hn7 : 1 ≤ n ∧ n ≤ 7) : (∃ s t p mv i g c, QGood (.agg #[.int .i64 k, .int .i64 F, .int .i64 T, .int .i64 br, .int .i64 bn, .int .i64 sl, .int .i64 nu, .string v, .slice la ln lc]) n gs s t p mv i g c) ∨ QBad (.agg #[.int .i64 k, .int .i64 F, .int .i64 T, .int .i64 br, .int .i64 bn, .int .i64 sl, .int .i64 nu, .string v, .slice la ln lc]) n gs := by
  have hvl := str_len v
  by_cases hk : k = 10
  rotate_left
  · rcases fromBoth nu with ⟨s, t, p, m, i, g, hI, hp, hf⟩ | ⟨hp, hf⟩
    all_goals exact .inr ⟨fun hd hka => qA41 (ce := 0) hd hka hn7 hp (fun h => absurd h hk) (fun h => hk h.2.1), fun hd => fqA42 (ce := 0) hd hn7 (fun h => absurd h hk) (fun h => hk h.1)⟩
  subst hk
  by_cases hg : ((0 ≤ F ∧ F ≤ 55) ∧ (0 ≤ T ∧ T ≤ 55) ∧ ¬ F = T ∧ (br = 0 ∧ bn = 0) ∧ sl = 0 ∧ (1 ≤ nu ∧ nu ≤ 2147483647) ∧ ln = 0) ∧ v.size ≤ 65536
  rotate_left
  · have hce : (if ((0 ≤ F ∧ F ≤ 55) ∧ (0 ≤ T ∧ T ≤ 55) ∧ ¬ F = T ∧ (br = 0 ∧ bn = 0) ∧ sl = 0 ∧ (1 ≤ nu ∧ nu ≤ 2147483647) ∧ ln = 0) then (11 : Int) else 2) ≠ 0 := by split <;> decide
    rcases fromBoth nu with ⟨s, t, p, m, i, g, hI, hp, hf⟩ | ⟨hp, hf⟩
    all_goals exact .inr ⟨fun hd hka => qA41 hd hka hn7 hp (fun _ w h => checkBad28 h hg) (fun h => hce h.2.2), fun hd => fqA42 hd hn7 (fun _ w => fcheckBad77 hg) (fun h => hce h.2)⟩
  obtain ⟨⟨hF, hT, hFT, ⟨rfl, rfl⟩, rfl, hnu, rfl⟩, hv6⟩ := hg
  obtain ⟨F, rfl⟩ := Int.eq_ofNat_of_zero_le hF.1
  obtain ⟨T, rfl⟩ := Int.eq_ofNat_of_zero_le hT.1
  obtain ⟨nu, rfl⟩ := Int.eq_ofNat_of_zero_le (show 0 ≤ nu by omega)
  have hc1 := fun (_ : (10 : Int) = 10) (w : World) (h : KAt w) => check_askS28 (f := F) (t := T) (n := nu) (v := v) (la := la) (lc := lc) h (by omega) (by omega) (by omega) (by omega) hv6
  have hc2 := fun (_ : (10 : Int) = 10) (w : World) => fcheck77 (F := F) (T := T) (nu := nu) (v := v) (la := la) (lc := lc) (w := w) (by omega) (by omega) (by omega) (by omega) hv6
  rcases fromBoth nu with ⟨s, t, p, m, i, g, hI, hp, hf⟩ | ⟨hp, hf⟩
  rotate_left
  · exact .inr ⟨fun hd hka => qA41 hd hka hn7 hp hc1 (fun h => absurd h.1 (by decide)), fun hd => fqE42 hd hn7 hf hc2 rfl (by decide)⟩
  by_cases hb : g < gs ∧ (F : Int) < n ∧ (T : Int) / n = g
  rotate_left
  · exact .inr ⟨fun hd hka => qB41 hd hka hn7 hp hc1 rfl hT hb, fun hd => fqB42 hd hn7 hf hc2 rfl hT hb⟩
  rcases both v.data.toList (by omega) with ⟨c, hc⟩ | hc
  · have hd1 : ∀ {w : World} {a : Option Addr} {q cap : Nat}, RdS w 5 1 a q cap (bcells v.data.toList) → Pu Tryz.prog 76 #[.slice a q cap] w (.tuple #[c.V, .int .i64 0]) := fun {w a q cap} hr => by
      have hlen := hr.len
      rw [bcells_length, Nat.mul_one] at hlen
      subst hlen
      exact hc.pr hr
    have hd2 : ∀ {w : World} {a : Option Addr} {q cap : Nat}, RdS w 5 1 a q cap (bcells v.data.toList) → Pu Tryz.prog 79 #[.slice a q cap] w (.tuple #[c.V, .int .i64 0]) := fun {w a q cap} hr => by
      have hlen := hr.len
      rw [bcells_length, Nat.mul_one] at hlen
      subst hlen
      exact hc.rf hr
    obtain ⟨bb, hbb⟩ : ∃ bb : Bool, bb = true ↔ fitP c s t p m i := ⟨decide (fitP c s t p m i), decide_eq_true_iff⟩
    have hbr := hbb.trans (fit_iff hc.on hI)
    have hq1 : ∀ {w : World} {d mp : Nat} {tk : Int}, DAt w d n gs tk mp → KAt w → Pu Tryz.prog 41 #[pv d, .agg #[.int .i64 10, .int .i64 (F : Nat), .int .i64 (T : Nat), .int .i64 0, .int .i64 0, .int .i64 0, .int .i64 (nu : Nat), .string v, .slice la 0 lc]] w (.tuple #[.agg #[.int .i64 s, .int .i64 t, .int .i64 p, .int .i64 m, .bool i, .int .i64 g], c.V, .bool bb]) := fun {w d mp tk} hd hka => Pu.ofE (PuE.mono (qC41 (Q := fun c' e => c' = c ∧ e = 0) hd hka hn7 hp hc1 rfl hT hb (fun hr => PuE.of (hd1 hr) ⟨c, 0, rfl, rfl, rfl⟩) (fun c' e hq _ w => by rw [hq.1]; exact fits61 c (fun _ w => hc.cp w) w)) (by
        rintro y ⟨c', e, b', ⟨rfl, rfl⟩, hb', rfl⟩
        have : b' = bb := by rw [Bool.eq_iff_iff, hb', hbb]; simp
        rw [this]))
    have hq2 : ∀ w, Pu Tryz.prog 80 #[c.V, .agg #[.int .i64 s, .int .i64 t, .int .i64 p, .int .i64 m, .bool i, .int .i64 g]] w (.bool bb) := fun w => Pu.ofE (PuE.mono (fits80 c (L := []) (by rw [hc.no.2.2.2.1, hc.no.2.2.2.2.1, hc.no.2.2.2.2.2]; exact ⟨_, SlA.nil0 w, fun k h => h.elim⟩) (fun w _ => PuE.of (hc.cr w) ⟨0, fun h => absurd rfl h, rfl⟩)) (by
        rintro y ⟨b', hb', rfl⟩
        have : b' = bb := by rw [Bool.eq_iff_iff, hb', hbr]
        rw [this]))
    have hq3 := fun {w : World} {d : Nat} (hd : RAt w d n gs) => fqD42 (w := w) (d := d) hd hn7 hf hc2 rfl hT hb hd2 hq2
    cases bb with
    | true => exact .inl ⟨s, t, p, m, i, g, c, hq1, hq3, hc.no⟩
    | false => exact .inr ⟨fun hd hka => PuE.of (hq1 hd hka) ⟨_, _, _, _, _, _, _, rfl⟩, hq3⟩
  · refine .inr ⟨fun hd hka => PuE.mono (qC41 (Q := fun c' e => e = 0 → c'.Off) hd hka hn7 hp hc1 rfl hT hb (fun {w a q cap} hr => ?_) (fun c' e hq he w => fits61 c' (fun h => ?_) w)) ?_, fun hd => fqC42 hd hn7 hf hc2 rfl hT hb (fun {w a q cap} hr => ?_) (fun z w he hr => PuE.mono (fits80 z.c hr (fun w hr => PuE.mono (z.chk he w hr) ?_)) ?_)⟩
    · have hlen := hr.len
      rw [bcells_length, Nat.mul_one] at hlen
      subst hlen
      exact hc.pr hr
    · have := hq he
      unfold CmdC.Off at this
      omega
    · rintro y ⟨c', e, b', hq, hb', rfl⟩
      have : b' = false := by
        rw [Bool.eq_false_iff]
        intro h
        obtain ⟨h1, h2⟩ := hb'.1 h
        exact fitP_off (hq h1) h2
      rw [this]
      exact ⟨_, _, _, _, _, _, _, rfl⟩
    · have hlen := hr.len
      rw [bcells_length, Nat.mul_one] at hlen
      subst hlen
      exact hc.rf hr
    · rintro v ⟨q, rfl⟩
      exact ⟨q, fun _ => z.off he, rfl⟩
    · rintro y ⟨b', hb', rfl⟩
      have : b' = false := by
        rw [Bool.eq_false_iff]
        intro h
        exact fitR_off (z.off he) (hb'.1 h)
      rw [this]
end Go.Proofs.YtbgnoibellfojaaGreatDoor

namespace Go.Proofs.YtbgnoibellfojaaGreatDoor
open Go Go.X
set_option maxRecDepth 100000
set_option maxHeartbeats 0
theorem apG18 {k F T br bn sl nu : Int} {v : ByteArray} {la : Option Addr} {ln lc : Nat} {s t p mv g : Int} {i : Bool} {c : CmdC} {e rn er : Int} {rx : ByteArray} {rl : List UInt8} {w : World} {d : Nat} {n gs tk : Int} {mp : Nat} (hd : DAt w d n gs tk mp) (hka : KAt w) (hq : ∀ {w : World}, DAt w d n gs tk mp → KAt w → Pu Tryz.prog 41 #[pv d, .agg #[.int .i64 k, .int .i64 F, .int .i64 T, .int .i64 br, .int .i64 bn, .int .i64 sl, .int .i64 nu, .string v, .slice la ln lc]] w (.tuple #[.agg #[.int .i64 s, .int .i64 t, .int .i64 p, .int .i64 mv, .bool i, .int .i64 g], c.V, .bool true])) (hrep : ∀ w, FrZ Tryz.prog 46 #[.agg #[.int .i64 e, .int .i64 rn, .string rx]] w emp (fun z : Option Addr × Nat => .tuple #[.slice z.1 rl.length z.2, .int .i64 0]) (fun z => SlA 5 1 z.1 rl.length z.2 (bcells rl))) : Pu Tryz.prog 18 #[pv d, .agg #[.int .i64 k, .int .i64 F, .int .i64 T, .int .i64 br, .int .i64 bn, .int .i64 sl, .int .i64 nu, .string v, .slice la ln lc], .agg #[.int .i64 e, .int .i64 rn, .string rx]] w (.tuple #[.agg #[.int .i64 11, .int .i64 T, .int .i64 F, .int .i64 0, .int .i64 0, .int .i64 0, .int .i64 nu, .string ⟨rl.toArray⟩, .slice none 0 0], .int .i64 0]) := by
  have hne := hka.ne hd
  refine Pu.ofFrZ (enter_ro TBok (cs := DC n gs tk mp) hd Tryz.func18 rfl rfl Tryz.ntmps18 [.loc d 10 0, .agg [.v (.int .i64 k), .v (.int .i64 F), .v (.int .i64 T), .v (.int .i64 br), .v (.int .i64 bn), .v (.int .i64 sl), .v (.int .i64 nu), .v (.string v), .v (.slice la ln lc)], .agg [.v (.int .i64 e), .v (.int .i64 rn), .v (.string rx)]] rfl rfl ?_)
  unfold DC
  conv => whnf
  repeat' (first
 | with_reducible ((first | refine r_seq (fun KS hS => ?_) | (refine hS _ _ ?_; clear hS KS) | (refine hB _ ?_; clear hB KB)))
 | ((with_reducible (first | refine r_region ?_ | refine r_cond (fun KA hA KB hB => ?_) | refine r_ret ?_ | refine r_skip ?_ | refine And.intro rfl ?_ | intro b)); conv => whnf)
 | ((with_reducible refine CallK.at 45 ?_); refine CallK.puW (fun ms w hk => made45 (hk.got (by repeat (first | constructor | apply List.Mem.tail)))) ?_; conv => whnf)
 | ((with_reducible refine CallK.id ?_); (first | refine CallK.puW (fun ms w hkn => hq (hkn.got (by repeat (first | constructor | apply List.Mem.tail))) (hka.now hne hkn)) ?_ | refine CallK.fresh (fun ms w hk => hrep w) ?_); conv => whnf)
 | ((with_reducible refine OpK.id ?_); refine OpK.cvBS' rfl rfl rfl rfl rfl rfl rfl rfl (Sees.ext (by repeat (first | with_reducible apply At.head | apply At.tail))) rfl ?_; conv => whnf)
 | with_reducible apply_assumption -symm -exfalso)
  all_goals first | exact FinK.ro0 rfl (HSub.pick (by repeat (first | with_reducible apply At.head | apply At.tail))) | (exfalso; omega)
theorem apX18 {k F T br bn sl nu : Int} {v : ByteArray} {la : Option Addr} {ln lc : Nat} {s t p mv g : Int} {i : Bool} {c : CmdC} {e rn er : Int} {rx : ByteArray} {rl : List UInt8} {w : World} {d : Nat} {n gs tk : Int} {mp : Nat} (hd : DAt w d n gs tk mp) (hka : KAt w) (hq : ∀ {w : World}, DAt w d n gs tk mp → KAt w → Pu Tryz.prog 41 #[pv d, .agg #[.int .i64 k, .int .i64 F, .int .i64 T, .int .i64 br, .int .i64 bn, .int .i64 sl, .int .i64 nu, .string v, .slice la ln lc]] w (.tuple #[.agg #[.int .i64 s, .int .i64 t, .int .i64 p, .int .i64 mv, .bool i, .int .i64 g], c.V, .bool true])) (hrep : ∀ w, Pu Tryz.prog 46 #[.agg #[.int .i64 e, .int .i64 rn, .string rx]] w (.tuple #[.slice none 0 0, .int .i64 er])) (her : er ≠ 0) : Pu Tryz.prog 18 #[pv d, .agg #[.int .i64 k, .int .i64 F, .int .i64 T, .int .i64 br, .int .i64 bn, .int .i64 sl, .int .i64 nu, .string v, .slice la ln lc], .agg #[.int .i64 e, .int .i64 rn, .string rx]] w (.tuple #[.agg #[.int .i64 0, .int .i64 0, .int .i64 0, .int .i64 0, .int .i64 0, .int .i64 0, .int .i64 0, .string ⟨#[]⟩, .slice none 0 0], .int .i64 er]) := by
  have hne := hka.ne hd
  refine Pu.ofFrZ (enter_ro TBok (cs := DC n gs tk mp) hd Tryz.func18 rfl rfl Tryz.ntmps18 [.loc d 10 0, .agg [.v (.int .i64 k), .v (.int .i64 F), .v (.int .i64 T), .v (.int .i64 br), .v (.int .i64 bn), .v (.int .i64 sl), .v (.int .i64 nu), .v (.string v), .v (.slice la ln lc)], .agg [.v (.int .i64 e), .v (.int .i64 rn), .v (.string rx)]] rfl rfl ?_)
  unfold DC
  conv => whnf
  repeat' (first
 | with_reducible ((first | refine r_seq (fun KS hS => ?_) | (refine hS _ _ ?_; clear hS KS) | (refine hA _ ?_; clear hA KA) | (refine hB _ ?_; clear hB KB)))
 | ((with_reducible (first | refine r_region ?_ | refine r_cond (fun KA hA KB hB => ?_) | refine r_ret ?_ | refine r_skip ?_ | refine And.intro rfl ?_ | intro b)); conv => whnf)
 | ((with_reducible refine CallK.at 45 ?_); refine CallK.puW (fun ms w hk => made45 (hk.got (by repeat (first | constructor | apply List.Mem.tail)))) ?_; conv => whnf)
 | ((with_reducible refine CallK.id ?_); (first | refine CallK.puW (fun ms w hkn => hq (hkn.got (by repeat (first | constructor | apply List.Mem.tail))) (hka.now hne hkn)) ?_ | refine CallK.pu (fun w => hrep w) ?_); conv => whnf)
 | (refine if_ndecT (by omega) ?_; conv => whnf)
 | with_reducible apply_assumption -symm -exfalso)
  all_goals first | exact FinK.ro0 rfl (HSub.pick (by repeat (first | with_reducible apply At.head | apply At.tail))) | (exfalso; omega)
theorem apB18 {k F T br bn sl nu : Int} {v : ByteArray} {la : Option Addr} {ln lc : Nat} {e rn er : Int} {rx : ByteArray} {rl : List UInt8} {w : World} {d : Nat} {n gs tk : Int} {mp : Nat} (hd : DAt w d n gs tk mp) (hka : KAt w) (hq : ∀ {w : World}, DAt w d n gs tk mp → KAt w → PuE Tryz.prog 41 #[pv d, .agg #[.int .i64 k, .int .i64 F, .int .i64 T, .int .i64 br, .int .i64 bn, .int .i64 sl, .int .i64 nu, .string v, .slice la ln lc]] w (fun y => ∃ (s t p m : Int) (i : Bool) (g : Int) (c : CmdC), y = .tuple #[.agg #[.int .i64 s, .int .i64 t, .int .i64 p, .int .i64 m, .bool i, .int .i64 g], c.V, .bool false])) : Pu Tryz.prog 18 #[pv d, .agg #[.int .i64 k, .int .i64 F, .int .i64 T, .int .i64 br, .int .i64 bn, .int .i64 sl, .int .i64 nu, .string v, .slice la ln lc], .agg #[.int .i64 e, .int .i64 rn, .string rx]] w (.tuple #[.agg #[.int .i64 0, .int .i64 0, .int .i64 0, .int .i64 0, .int .i64 0, .int .i64 0, .int .i64 0, .string ⟨#[]⟩, .slice none 0 0], .int .i64 2]) := by
  have hne := hka.ne hd
  refine Pu.ofFrZ (enter_ro TBok (cs := DC n gs tk mp) hd Tryz.func18 rfl rfl Tryz.ntmps18 [.loc d 10 0, .agg [.v (.int .i64 k), .v (.int .i64 F), .v (.int .i64 T), .v (.int .i64 br), .v (.int .i64 bn), .v (.int .i64 sl), .v (.int .i64 nu), .v (.string v), .v (.slice la ln lc)], .agg [.v (.int .i64 e), .v (.int .i64 rn), .v (.string rx)]] rfl rfl ?_)
  unfold DC
  conv => whnf
  repeat' (first
 | with_reducible ((first | refine r_seq (fun KS hS => ?_) | (refine hS _ _ ?_; clear hS KS) | (refine hA _ ?_; clear hA KA) | (refine hB _ ?_; clear hB KB)))
 | ((with_reducible (first | refine r_region ?_ | refine r_cond (fun KA hA KB hB => ?_) | refine r_ret ?_ | refine r_skip ?_ | refine And.intro rfl ?_ | intro b)); conv => whnf)
 | ((with_reducible refine CallK.at 45 ?_); refine CallK.puW (fun ms w hk => made45 (hk.got (by repeat (first | constructor | apply List.Mem.tail)))) ?_; conv => whnf)
 | ((with_reducible refine CallK.id ?_); refine CallK.puE (fun ms w hkn => hq (hkn.got (by repeat (first | constructor | apply List.Mem.tail))) (hka.now hne hkn)) ?_; rintro _ ⟨qs, qt, qp, qm, qi, qg, qc, rfl⟩; conv => whnf)
 | with_reducible apply_assumption -symm -exfalso)
  all_goals first | exact FinK.ro0 rfl (HSub.pick (by repeat (first | with_reducible apply At.head | apply At.tail))) | (exfalso; omega)
theorem arG19 {k F T br bn sl nu : Int} {v : ByteArray} {la : Option Addr} {ln lc : Nat} {s t p mv g : Int} {i : Bool} {c : CmdC} {e rn er : Int} {rx : ByteArray} {rl : List UInt8} {w : World} {d : Nat} {n gs : Int} (hd : RAt w d n gs) (hq : ∀ {w : World}, RAt w d n gs → Pu Tryz.prog 42 #[pv d, .agg #[.int .i64 k, .int .i64 F, .int .i64 T, .int .i64 br, .int .i64 bn, .int .i64 sl, .int .i64 nu, .string v, .slice la ln lc]] w (.tuple #[.agg #[.int .i64 s, .int .i64 t, .int .i64 p, .int .i64 mv, .bool i, .int .i64 g], c.V, .bool true])) (hchk : ∀ w, Pu Tryz.prog 48 #[.agg #[.int .i64 e, .int .i64 rn, .string rx]] w (.int .i64 0)) (hrep : ∀ w, FrZ Tryz.prog 49 #[.agg #[.int .i64 e, .int .i64 rn, .string rx]] w emp (fun z : Option Addr × Nat => .tuple #[.slice z.1 rl.length z.2, .int .i64 0]) (fun z => SlA 5 1 z.1 rl.length z.2 (bcells rl))) : Pu Tryz.prog 19 #[pv d, .agg #[.int .i64 k, .int .i64 F, .int .i64 T, .int .i64 br, .int .i64 bn, .int .i64 sl, .int .i64 nu, .string v, .slice la ln lc], .agg #[.int .i64 e, .int .i64 rn, .string rx]] w (.tuple #[.agg #[.int .i64 11, .int .i64 T, .int .i64 F, .int .i64 0, .int .i64 0, .int .i64 0, .int .i64 nu, .string ⟨rl.toArray⟩, .slice none 0 0], .int .i64 0]) := by
  refine Pu.ofFrZ (enter_ro TBok (cs := RDC n gs) hd Tryz.func19 rfl rfl Tryz.ntmps19 [.loc d 10 0, .agg [.v (.int .i64 k), .v (.int .i64 F), .v (.int .i64 T), .v (.int .i64 br), .v (.int .i64 bn), .v (.int .i64 sl), .v (.int .i64 nu), .v (.string v), .v (.slice la ln lc)], .agg [.v (.int .i64 e), .v (.int .i64 rn), .v (.string rx)]] rfl rfl ?_)
  unfold RDC
  conv => whnf
  repeat' (first
 | with_reducible ((first | refine r_seq (fun KS hS => ?_) | (refine hS _ _ ?_; clear hS KS) | (refine hB _ ?_; clear hB KB)))
 | ((with_reducible (first | refine r_region ?_ | refine r_cond (fun KA hA KB hB => ?_) | refine r_ret ?_ | refine r_skip ?_ | refine And.intro rfl ?_ | intro b)); conv => whnf)
 | (apply in47; rfl; rfl; rfl; intro A; conv => whnf)
 | ((with_reducible refine CallK.id ?_); (first | refine CallK.puW (fun ms w hkn => hq (hkn.got (by repeat (first | constructor | apply List.Mem.tail)))) ?_ | refine CallK.pu (fun w => hchk w) ?_); conv => whnf)
 | ((with_reducible refine CallK.id ?_); refine CallK.fresh (fun ms w hk => hrep w) ?_; conv => whnf)
 | ((with_reducible refine OpK.id ?_); refine OpK.cvBS' rfl rfl rfl rfl rfl rfl rfl rfl (Sees.ext (by repeat (first | with_reducible apply At.head | apply At.tail))) rfl ?_; conv => whnf)
 | ((with_reducible apply OpK.more); (focus refine sok); (conv => whnf); fail_if_success guard_target =ₛ False)
 | with_reducible apply_assumption -symm -exfalso)
  all_goals first | exact FinK.ro0 rfl (HSub.pick (by repeat (first | with_reducible apply At.head | apply At.tail))) | (exfalso; omega)
theorem arX19 {k F T br bn sl nu : Int} {v : ByteArray} {la : Option Addr} {ln lc : Nat} {s t p mv g : Int} {i : Bool} {c : CmdC} {e rn er : Int} {rx : ByteArray} {rl : List UInt8} {w : World} {d : Nat} {n gs : Int} (hd : RAt w d n gs) (hq : ∀ {w : World}, RAt w d n gs → Pu Tryz.prog 42 #[pv d, .agg #[.int .i64 k, .int .i64 F, .int .i64 T, .int .i64 br, .int .i64 bn, .int .i64 sl, .int .i64 nu, .string v, .slice la ln lc]] w (.tuple #[.agg #[.int .i64 s, .int .i64 t, .int .i64 p, .int .i64 mv, .bool i, .int .i64 g], c.V, .bool true])) (hchk : ∀ w, Pu Tryz.prog 48 #[.agg #[.int .i64 e, .int .i64 rn, .string rx]] w (.int .i64 0)) (hrep : ∀ w, Pu Tryz.prog 49 #[.agg #[.int .i64 e, .int .i64 rn, .string rx]] w (.tuple #[.slice none 0 0, .int .i64 er])) (her : er ≠ 0) : Pu Tryz.prog 19 #[pv d, .agg #[.int .i64 k, .int .i64 F, .int .i64 T, .int .i64 br, .int .i64 bn, .int .i64 sl, .int .i64 nu, .string v, .slice la ln lc], .agg #[.int .i64 e, .int .i64 rn, .string rx]] w (.tuple #[.agg #[.int .i64 0, .int .i64 0, .int .i64 0, .int .i64 0, .int .i64 0, .int .i64 0, .int .i64 0, .string ⟨#[]⟩, .slice none 0 0], .int .i64 11]) := by
  refine Pu.ofFrZ (enter_ro TBok (cs := RDC n gs) hd Tryz.func19 rfl rfl Tryz.ntmps19 [.loc d 10 0, .agg [.v (.int .i64 k), .v (.int .i64 F), .v (.int .i64 T), .v (.int .i64 br), .v (.int .i64 bn), .v (.int .i64 sl), .v (.int .i64 nu), .v (.string v), .v (.slice la ln lc)], .agg [.v (.int .i64 e), .v (.int .i64 rn), .v (.string rx)]] rfl rfl ?_)
  unfold RDC
  conv => whnf
  repeat' (first
 | with_reducible ((first | refine r_seq (fun KS hS => ?_) | (refine hS _ _ ?_; clear hS KS) | (refine hA _ ?_; clear hA KA) | (refine hB _ ?_; clear hB KB)))
 | ((with_reducible (first | refine r_region ?_ | refine r_cond (fun KA hA KB hB => ?_) | refine r_ret ?_ | refine r_skip ?_ | refine And.intro rfl ?_ | intro b)); conv => whnf)
 | (apply in47; rfl; rfl; rfl; intro A; conv => whnf)
 | ((with_reducible refine CallK.id ?_); (first | refine CallK.puW (fun ms w hkn => hq (hkn.got (by repeat (first | constructor | apply List.Mem.tail)))) ?_ | refine CallK.pu (fun w => hchk w) ?_); conv => whnf)
 | ((with_reducible refine CallK.id ?_); refine CallK.pu (fun w => hrep w) ?_; conv => whnf)
 | ((with_reducible apply OpK.more); (focus refine sok); (conv => whnf); fail_if_success guard_target =ₛ False)
 | (refine if_ndecT (by omega) ?_; conv => whnf)
 | with_reducible apply_assumption -symm -exfalso)
  all_goals first | exact FinK.ro0 rfl (HSub.pick (by repeat (first | with_reducible apply At.head | apply At.tail))) | (exfalso; omega)
theorem arC19 {k F T br bn sl nu : Int} {v : ByteArray} {la : Option Addr} {ln lc : Nat} {s t p mv g : Int} {i : Bool} {c : CmdC} {e rn er : Int} {rx : ByteArray} {rl : List UInt8} {q : Int} {w : World} {d : Nat} {n gs : Int} (hd : RAt w d n gs) (hq : ∀ {w : World}, RAt w d n gs → Pu Tryz.prog 42 #[pv d, .agg #[.int .i64 k, .int .i64 F, .int .i64 T, .int .i64 br, .int .i64 bn, .int .i64 sl, .int .i64 nu, .string v, .slice la ln lc]] w (.tuple #[.agg #[.int .i64 s, .int .i64 t, .int .i64 p, .int .i64 mv, .bool i, .int .i64 g], c.V, .bool true])) (hchk : ∀ w, Pu Tryz.prog 48 #[.agg #[.int .i64 e, .int .i64 rn, .string rx]] w (.int .i64 q)) (hq0 : q ≠ 0) : Pu Tryz.prog 19 #[pv d, .agg #[.int .i64 k, .int .i64 F, .int .i64 T, .int .i64 br, .int .i64 bn, .int .i64 sl, .int .i64 nu, .string v, .slice la ln lc], .agg #[.int .i64 e, .int .i64 rn, .string rx]] w (.tuple #[.agg #[.int .i64 0, .int .i64 0, .int .i64 0, .int .i64 0, .int .i64 0, .int .i64 0, .int .i64 0, .string ⟨#[]⟩, .slice none 0 0], .int .i64 2]) := by
  refine Pu.ofFrZ (enter_ro TBok (cs := RDC n gs) hd Tryz.func19 rfl rfl Tryz.ntmps19 [.loc d 10 0, .agg [.v (.int .i64 k), .v (.int .i64 F), .v (.int .i64 T), .v (.int .i64 br), .v (.int .i64 bn), .v (.int .i64 sl), .v (.int .i64 nu), .v (.string v), .v (.slice la ln lc)], .agg [.v (.int .i64 e), .v (.int .i64 rn), .v (.string rx)]] rfl rfl ?_)
  unfold RDC
  conv => whnf
  repeat' (first
 | with_reducible ((first | refine r_seq (fun KS hS => ?_) | (refine hS _ _ ?_; clear hS KS) | (refine hA _ ?_; clear hA KA) | (refine hB _ ?_; clear hB KB)))
 | ((with_reducible (first | refine r_region ?_ | refine r_cond (fun KA hA KB hB => ?_) | refine r_ret ?_ | refine r_skip ?_ | refine And.intro rfl ?_ | intro b)); conv => whnf)
 | (apply in47; rfl; rfl; rfl; intro A; conv => whnf)
 | ((with_reducible refine CallK.id ?_); (first | refine CallK.puW (fun ms w hkn => hq (hkn.got (by repeat (first | constructor | apply List.Mem.tail)))) ?_ | refine CallK.pu (fun w => hchk w) ?_); conv => whnf)
 | ((with_reducible apply OpK.more); (focus refine sok); (conv => whnf); fail_if_success guard_target =ₛ False)
 | (refine if_ndecT (by omega) ?_; conv => whnf)
 | with_reducible apply_assumption -symm -exfalso)
  all_goals first | exact FinK.ro0 rfl (HSub.pick (by repeat (first | with_reducible apply At.head | apply At.tail))) | (exfalso; omega)
theorem arB19 {k F T br bn sl nu : Int} {v : ByteArray} {la : Option Addr} {ln lc : Nat} {e rn er : Int} {rx : ByteArray} {rl : List UInt8} {w : World} {d : Nat} {n gs : Int} (hd : RAt w d n gs) (hq : ∀ {w : World}, RAt w d n gs → Pu Tryz.prog 42 #[pv d, .agg #[.int .i64 k, .int .i64 F, .int .i64 T, .int .i64 br, .int .i64 bn, .int .i64 sl, .int .i64 nu, .string v, .slice la ln lc]] w (.tuple #[.agg #[.int .i64 0, .int .i64 0, .int .i64 0, .int .i64 0, .bool false, .int .i64 0], .agg #[.int .i64 0, .int .i64 0, .int .i64 0, .int .i64 0, .int .i64 0, .int .i64 0, .string ⟨#[]⟩, .int .i64 0, .int .i64 0, .string ⟨#[]⟩, .string ⟨#[]⟩, .int .i64 0, .string ⟨#[]⟩, .int .i64 0, .int .i64 0, .slice none 0 0, .int .i64 0, .int .i64 0, .int .i64 0, .int .i64 0, .bool false, .int .i64 0, .int .i64 0, .string ⟨#[]⟩], .bool false])) : Pu Tryz.prog 19 #[pv d, .agg #[.int .i64 k, .int .i64 F, .int .i64 T, .int .i64 br, .int .i64 bn, .int .i64 sl, .int .i64 nu, .string v, .slice la ln lc], .agg #[.int .i64 e, .int .i64 rn, .string rx]] w (.tuple #[.agg #[.int .i64 0, .int .i64 0, .int .i64 0, .int .i64 0, .int .i64 0, .int .i64 0, .int .i64 0, .string ⟨#[]⟩, .slice none 0 0], .int .i64 2]) := by
  refine Pu.ofFrZ (enter_ro TBok (cs := RDC n gs) hd Tryz.func19 rfl rfl Tryz.ntmps19 [.loc d 10 0, .agg [.v (.int .i64 k), .v (.int .i64 F), .v (.int .i64 T), .v (.int .i64 br), .v (.int .i64 bn), .v (.int .i64 sl), .v (.int .i64 nu), .v (.string v), .v (.slice la ln lc)], .agg [.v (.int .i64 e), .v (.int .i64 rn), .v (.string rx)]] rfl rfl ?_)
  unfold RDC
  conv => whnf
  repeat' (first
 | with_reducible ((first | refine r_seq (fun KS hS => ?_) | (refine hS _ _ ?_; clear hS KS) | (refine hA _ ?_; clear hA KA) | (refine hB _ ?_; clear hB KB)))
 | ((with_reducible (first | refine r_region ?_ | refine r_cond (fun KA hA KB hB => ?_) | refine r_ret ?_ | refine r_skip ?_ | refine And.intro rfl ?_ | intro b)); conv => whnf)
 | (apply in47; rfl; rfl; rfl; intro A; conv => whnf)
 | ((with_reducible refine CallK.id ?_); refine CallK.puW (fun ms w hkn => hq (hkn.got (by repeat (first | constructor | apply List.Mem.tail)))) ?_; conv => whnf)
 | ((with_reducible apply OpK.more); (focus refine sok); (conv => whnf); fail_if_success guard_target =ₛ False)
 | with_reducible apply_assumption -symm -exfalso)
  all_goals first | exact FinK.ro0 rfl (HSub.pick (by repeat (first | with_reducible apply At.head | apply At.tail))) | (exfalso; omega)
/-- both sides answer alike -/
structure AnsC (m r : Value) (n gs a0 a1 a2 a6 : Int) (x : ByteArray) (ae : Int) : Prop where
  pr : ∀ {w : World} {d mp : Nat} {tk : Int}, DAt w d n gs tk mp → KAt w → Pu Tryz.prog 18 #[pv d, m, r] w (.tuple #[.agg #[.int .i64 a0, .int .i64 a1, .int .i64 a2, .int .i64 0, .int .i64 0, .int .i64 0, .int .i64 a6, .string x, .slice none 0 0], .int .i64 ae])
  rf : ∀ {w : World} {d : Nat}, RAt w d n gs → Pu Tryz.prog 19 #[pv d, m, r] w (.tuple #[.agg #[.int .i64 a0, .int .i64 a1, .int .i64 a2, .int .i64 0, .int .i64 0, .int .i64 0, .int .i64 a6, .string x, .slice none 0 0], .int .i64 ae])
theorem ansBad {k F T br bn sl nu : Int} {v : ByteArray} {la : Option Addr} {ln lc : Nat} {e rn : Int} {rx : ByteArray} {n gs : Int} (h : QBad (.agg #[.int .i64 k, .int .i64 F, .int .i64 T, .int .i64 br, .int .i64 bn, .int .i64 sl, .int .i64 nu, .string v, .slice la ln lc]) n gs) : AnsC (.agg #[.int .i64 k, .int .i64 F, .int .i64 T, .int .i64 br, .int .i64 bn, .int .i64 sl, .int .i64 nu, .string v, .slice la ln lc]) (.agg #[.int .i64 e, .int .i64 rn, .string rx]) n gs 0 0 0 0 ⟨#[]⟩ 2 :=
  ⟨fun hd hka => apB18 (rl := []) (er := 0) hd hka h.pr, fun hd => arB19 (rl := []) (er := 0) hd h.rf⟩
theorem ansGood {k F T br bn sl nu : Int} {v : ByteArray} {la : Option Addr} {ln lc : Nat} {e rn : Int} {rx : ByteArray} {n gs : Int} {s t p mv g : Int} {i : Bool} {c : CmdC} (h : QGood (.agg #[.int .i64 k, .int .i64 F, .int .i64 T, .int .i64 br, .int .i64 bn, .int .i64 sl, .int .i64 nu, .string v, .slice la ln lc]) n gs s t p mv i g c) : ∃ a0 a1 a2 a6 x ae, AnsC (.agg #[.int .i64 k, .int .i64 F, .int .i64 T, .int .i64 br, .int .i64 bn, .int .i64 sl, .int .i64 nu, .string v, .slice la ln lc]) (.agg #[.int .i64 e, .int .i64 rn, .string rx]) n gs a0 a1 a2 a6 x ae := by
  by_cases hr : ((0 ≤ e ∧ e ≤ 18) ∧ NumOk rn ∧ rx.size ≤ 65536)
  · obtain ⟨q, hq, hchk⟩ := fchk48 (e := e) (d := rn) (x := rx)
    have h0 := hq.2 hr
    subst h0
    have he : ((e.toNat : Nat) : Int) = e := by omega
    by_cases hl : (uvar e.toNat ++ uvar (zigN rn) ++ uvar rx.size ++ rx.data.toList).length ≤ 65536
    · have h1 := fun w => reply46 (e := e.toNat) (d := rn) (x := rx) (by omega) hr.2.1 hr.2.2 hl w
      have h2 := fun w => freply49 (e := e.toNat) (d := rn) (x := rx) (by omega) hr.2.1 hr.2.2 hl w
      rw [he] at h1 h2
      exact ⟨_, _, _, _, _, _, fun hd hka => apG18 (er := 0) hd hka h.pr h1, fun hd => arG19 (er := 0) hd h.rf hchk h2⟩
    · have h1 := fun w => replyLong46 (e := e.toNat) (d := rn) (x := rx) (by omega) hr.2.1 hr.2.2 (by omega) w
      have h2 := fun w => freplyLong49 (e := e.toNat) (d := rn) (x := rx) (by omega) hr.2.1 hr.2.2 (by omega) w
      rw [he] at h1 h2
      exact ⟨_, _, _, _, _, _, fun hd hka => apX18 (rl := []) hd hka h.pr h1 (by decide), fun hd => arX19 (rl := []) hd h.rf hchk h2 (by decide)⟩
  · obtain ⟨q, hq, hchk⟩ := fchk48 (e := e) (d := rn) (x := rx)
    exact ⟨_, _, _, _, _, _, fun hd hka => apX18 (rl := []) hd hka h.pr (fun w => replyBad46 hr w) (by decide), fun hd => arC19 (rl := []) (er := 0) hd h.rf hchk (fun h => hr (hq.1 h))⟩
end Go.Proofs.YtbgnoibellfojaaGreatDoor

namespace Go.Proofs.YtbgnoibellfojaaGreatDoor
open Go Go.X
set_option maxRecDepth 100000
set_option maxHeartbeats 0
theorem done13 {cs ct cp e rn : Int} {rx : ByteArray} {was : Bool} {b1 b2 : Nat} {w : World} (h1 : OldC w b1 0 [.v (.int .i64 e), .v (.int .i64 rn), .v (.string rx)]) (h2 : OldC w b2 0 [.v (.bool was)]) : Pu Tryz.prog 13 #[.agg #[.int .i64 cs, .int .i64 ct, .int .i64 cp], pv b1, pv b2] w (.tuple #[.agg #[.int .i64 e, .int .i64 rn, .string rx], .bool was]) := by
  have pcA := fun n r H => OldC.pc (c := ⟨Tryz.prog, TB, n, w, noS, r, TBok⟩) (H := H) h1 (fun h => h)
  have pcB := fun n r H => OldC.pc (c := ⟨Tryz.prog, TB, n, w, noS, r, TBok⟩) (H := H) h2 (fun h => h)
  refine enter_sound TBok Tryz.func13 rfl rfl Tryz.ntmps13 [.agg [.v (.int .i64 cs), .v (.int .i64 ct), .v (.int .i64 cp)], .v (pv b1), .v (pv b2)] (Kn.start w noS) rfl rfl ?_
  unfold pv
  conv => whnf
  repeat' (first
 | with_reducible ((first | refine r_seq (fun KS hS => ?_) | (refine hS _ _ ?_; clear hS KS)))
 | ((with_reducible (first | refine r_region ?_ | refine r_ret ?_ | refine And.intro rfl ?_ | intro b)); conv => whnf)
 | ((with_reducible refine OpK.id ?_); (first | refine OpK.ldp rfl rfl (pcA _ _ _) (List.cons_ne_nil _ _) ?_ | refine OpK.ldp rfl rfl (pcB _ _ _) (List.cons_ne_nil _ _) ?_); conv => whnf)
 | (apply r_any (id := 1); refine mixed; kernel_rfl; kernel_rfl; conv => whnf)
 | ((with_reducible ((first | refine InAt.mk (fun K' hK => ?_) | refine AnyAt.mk (fun K' hK => ?_) | (refine hK _ ?_; clear hK K') | (refine hK _ _ ?_; clear hK K')))); conv => whnf)
 | (refine And.intro ?_ ?_; all_goals (conv => whnf)))
  all_goals first | exact FinK.pu rfl | skip
theorem spB14 {k F T br bn sl nu : Int} {v : ByteArray} {la : Option Addr} {ln lc : Nat} {fv : Value} {w : World} {d : Nat} {n gs tk : Int} {mp : Nat} (hd : DAt w d n gs tk mp) (hka : KAt w) (hq : ∀ {w : World}, DAt w d n gs tk mp → KAt w → PuE Tryz.prog 41 #[pv d, .agg #[.int .i64 k, .int .i64 F, .int .i64 T, .int .i64 br, .int .i64 bn, .int .i64 sl, .int .i64 nu, .string v, .slice la ln lc]] w (fun y => ∃ (s t p m : Int) (i : Bool) (g : Int) (c : CmdC), y = .tuple #[.agg #[.int .i64 s, .int .i64 t, .int .i64 p, .int .i64 m, .bool i, .int .i64 g], c.V, .bool false])) : Pu Tryz.prog 14 #[pv d, .agg #[.int .i64 k, .int .i64 F, .int .i64 T, .int .i64 br, .int .i64 bn, .int .i64 sl, .int .i64 nu, .string v, .slice la ln lc], fv] w (.tuple #[.agg #[.int .i64 0, .int .i64 0, .int .i64 0, .int .i64 0, .int .i64 0, .int .i64 0, .string ⟨#[]⟩, .int .i64 0, .int .i64 0, .string ⟨#[]⟩, .string ⟨#[]⟩, .int .i64 0, .string ⟨#[]⟩, .int .i64 0, .int .i64 0, .slice none 0 0, .int .i64 0, .int .i64 0, .int .i64 0, .int .i64 0, .bool false, .int .i64 0, .int .i64 0, .string ⟨#[]⟩], .agg #[.int .i64 0, .int .i64 0, .int .i64 0, .int .i64 0, .int .i64 0, .int .i64 0, .int .i64 0, .string ⟨#[]⟩, .slice none 0 0], .bool false, .bool false]) := by
  have hne := hka.ne hd
  refine Pu.ofFrZ (enter_ro TBok (cs := DC n gs tk mp) hd Tryz.func14 rfl rfl Tryz.ntmps14 [.loc d 10 0, .agg [.v (.int .i64 k), .v (.int .i64 F), .v (.int .i64 T), .v (.int .i64 br), .v (.int .i64 bn), .v (.int .i64 sl), .v (.int .i64 nu), .v (.string v), .v (.slice la ln lc)], .v fv] rfl rfl ?_)
  unfold DC
  conv => whnf
  repeat' (first
 | with_reducible ((first | refine r_seq (fun KS hS => ?_) | (refine hS _ _ ?_; clear hS KS) | (refine hA _ ?_; clear hA KA)))
 | ((with_reducible (first | refine r_region ?_ | refine r_cond (fun KA hA KB hB => ?_) | refine r_ret ?_ | refine And.intro rfl ?_ | intro b)); conv => whnf)
 | ((with_reducible refine CallK.id ?_); refine CallK.puE (fun ms w hkn => hq (hkn.got (by repeat (first | constructor | apply List.Mem.tail))) (hka.now hne hkn)) ?_; rintro _ ⟨qs, qt, qp, qm, qi, qg, qc, rfl⟩; conv => whnf))
  all_goals first | exact FinK.ro0 rfl (HSub.pick (by repeat (first | with_reducible apply At.head | apply At.tail))) | (exfalso; omega)
theorem spN14 {k F T br bn sl nu : Int} {v : ByteArray} {la : Option Addr} {ln lc : Nat} {s t p mv g : Int} {i : Bool} {c : CmdC} {w : World} {d : Nat} {n gs tk : Int} {mp : Nat} (hd : DAt w d n gs tk mp) (hka : KAt w) (hq : ∀ {w : World}, DAt w d n gs tk mp → KAt w → Pu Tryz.prog 41 #[pv d, .agg #[.int .i64 k, .int .i64 F, .int .i64 T, .int .i64 br, .int .i64 bn, .int .i64 sl, .int .i64 nu, .string v, .slice la ln lc]] w (.tuple #[.agg #[.int .i64 s, .int .i64 t, .int .i64 p, .int .i64 mv, .bool i, .int .i64 g], c.V, .bool true])) : Pu Tryz.prog 14 #[pv d, .agg #[.int .i64 k, .int .i64 F, .int .i64 T, .int .i64 br, .int .i64 bn, .int .i64 sl, .int .i64 nu, .string v, .slice la ln lc], .nilFunc] w (.tuple #[c.V, .agg #[.int .i64 0, .int .i64 0, .int .i64 0, .int .i64 0, .int .i64 0, .int .i64 0, .int .i64 0, .string ⟨#[]⟩, .slice none 0 0], .bool true, .bool false]) := by
  have hne := hka.ne hd
  refine Pu.ofFrZ (enter_ro TBok (cs := DC n gs tk mp) hd Tryz.func14 rfl rfl Tryz.ntmps14 [.loc d 10 0, .agg [.v (.int .i64 k), .v (.int .i64 F), .v (.int .i64 T), .v (.int .i64 br), .v (.int .i64 bn), .v (.int .i64 sl), .v (.int .i64 nu), .v (.string v), .v (.slice la ln lc)], .v .nilFunc] rfl rfl ?_)
  unfold DC
  conv => whnf
  repeat' (first
 | with_reducible ((first | refine r_seq (fun KS hS => ?_) | (refine hS _ _ ?_; clear hS KS) | (refine hB _ ?_; clear hB KB)))
 | ((with_reducible (first | refine r_region ?_ | refine r_cond (fun KA hA KB hB => ?_) | refine r_ret ?_ | refine r_skip ?_ | refine And.intro rfl ?_ | intro b)); conv => whnf)
 | ((with_reducible refine CallK.id ?_); refine CallK.puW (fun ms w hkn => hq (hkn.got (by repeat (first | constructor | apply List.Mem.tail))) (hka.now hne hkn)) ?_; conv => whnf)
 | ((with_reducible apply OpK.more); (focus refine sok); (conv => whnf); fail_if_success guard_target =ₛ False)
 | (refine if_dec (fun h => ?_) (fun h => ?_); all_goals (conv => whnf))
 | with_reducible apply_assumption -symm -exfalso)
  all_goals first | exact FinK.ro0 rfl (HSub.pick (by repeat (first | with_reducible apply At.head | apply At.tail))) | (exfalso; omega)
theorem spF14 {k F T br bn sl nu : Int} {v : ByteArray} {la : Option Addr} {ln lc : Nat} {s t p mv g : Int} {i : Bool} {c : CmdC} {a0 a1 a2 a6 ae : Int} {ax : ByteArray} {e rn : Int} {rx : ByteArray} {was : Bool} {b1 b2 : Nat} {w : World} {d : Nat} {n gs tk : Int} {mp : Nat} (hd : DAt w d n gs tk mp) (hka : KAt w) (hq : ∀ {w : World}, DAt w d n gs tk mp → KAt w → Pu Tryz.prog 41 #[pv d, .agg #[.int .i64 k, .int .i64 F, .int .i64 T, .int .i64 br, .int .i64 bn, .int .i64 sl, .int .i64 nu, .string v, .slice la ln lc]] w (.tuple #[.agg #[.int .i64 s, .int .i64 t, .int .i64 p, .int .i64 mv, .bool i, .int .i64 g], c.V, .bool true])) (ho1 : OldC w b1 0 [.v (.int .i64 e), .v (.int .i64 rn), .v (.string rx)]) (ho2 : OldC w b2 0 [.v (.bool was)]) (hb1 : b1 ≠ d) (hb2 : b2 ≠ d) (ha : ∀ {w : World}, DAt w d n gs tk mp → KAt w → Pu Tryz.prog 18 #[pv d, .agg #[.int .i64 k, .int .i64 F, .int .i64 T, .int .i64 br, .int .i64 bn, .int .i64 sl, .int .i64 nu, .string v, .slice la ln lc], .agg #[.int .i64 e, .int .i64 rn, .string rx]] w (.tuple #[.agg #[.int .i64 a0, .int .i64 a1, .int .i64 a2, .int .i64 0, .int .i64 0, .int .i64 0, .int .i64 a6, .string ax, .slice none 0 0], .int .i64 ae])) : Pu Tryz.prog 14 #[pv d, .agg #[.int .i64 k, .int .i64 F, .int .i64 T, .int .i64 br, .int .i64 bn, .int .i64 sl, .int .i64 nu, .string v, .slice la ln lc], .func (.func 13) #[] #[pv b1, pv b2]] w (if (mv = 0 ∧ was = true ∧ ae = 0) then .tuple #[.agg #[.int .i64 0, .int .i64 0, .int .i64 0, .int .i64 0, .int .i64 0, .int .i64 0, .string ⟨#[]⟩, .int .i64 0, .int .i64 0, .string ⟨#[]⟩, .string ⟨#[]⟩, .int .i64 0, .string ⟨#[]⟩, .int .i64 0, .int .i64 0, .slice none 0 0, .int .i64 0, .int .i64 0, .int .i64 0, .int .i64 0, .bool false, .int .i64 0, .int .i64 0, .string ⟨#[]⟩], .agg #[.int .i64 a0, .int .i64 a1, .int .i64 a2, .int .i64 0, .int .i64 0, .int .i64 0, .int .i64 a6, .string ax, .slice none 0 0], .bool false, .bool true] else .tuple #[c.V, .agg #[.int .i64 0, .int .i64 0, .int .i64 0, .int .i64 0, .int .i64 0, .int .i64 0, .int .i64 0, .string ⟨#[]⟩, .slice none 0 0], .bool true, .bool false]) := by
  have pcA := fun n' r H => OldC.pc (c := ⟨Tryz.prog, TB, n', w, fun k => k = d, r, TBok⟩) (H := H) ho1 hb1
  have pcB := fun n' r H => OldC.pc (c := ⟨Tryz.prog, TB, n', w, fun k => k = d, r, TBok⟩) (H := H) ho2 hb2
  by_cases hC : (mv = 0 ∧ was = true ∧ ae = 0)
  rw [if_pos hC]
  obtain ⟨hm0, hw, hae⟩ := hC
  rotate_left
  rw [if_neg hC]
  by_cases hm0 : mv = 0
  all_goals by_cases hae2 : ae = 0
  all_goals cases was
  all_goals try (exact absurd hae hae2)
  all_goals try (exact absurd hw (by decide))
  all_goals try (exfalso; apply hC; refine ⟨?_, ?_, ?_⟩ <;> first | assumption | rfl)
  all_goals have hne := hka.ne hd
  all_goals (refine Pu.ofFrZ (enter_ro TBok (cs := DC n gs tk mp) hd Tryz.func14 rfl rfl Tryz.ntmps14 [.loc d 10 0, .agg [.v (.int .i64 k), .v (.int .i64 F), .v (.int .i64 T), .v (.int .i64 br), .v (.int .i64 bn), .v (.int .i64 sl), .v (.int .i64 nu), .v (.string v), .v (.slice la ln lc)], .fn 13 [.v (pv b1), .v (pv b2)]] rfl rfl ?_); unfold DC; conv => whnf)
  all_goals repeat' (first
 | with_reducible ((first | refine r_seq (fun KS hS => ?_) | (refine hS _ _ ?_; clear hS KS) | (refine hA _ ?_; clear hA KA) | (refine hB _ ?_; clear hB KB)))
 | ((with_reducible (first | refine r_region ?_ | refine r_cond (fun KA hA KB hB => ?_) | refine r_ret ?_ | refine r_skip ?_ | refine And.intro rfl ?_ | intro b)); conv => whnf)
 | ((with_reducible refine CallK.id ?_); refine CallK.puW (fun ms w hkn => hq (hkn.got (by repeat (first | constructor | apply List.Mem.tail))) (hka.now hne hkn)) ?_; conv => whnf)
 | ((with_reducible refine IK.id ?_); (refine IK.bld rfl ?_); conv => whnf)
 | ((with_reducible refine CallK.at 13 ?_); refine CallK.puW (fun ms w hk => done13 ((pcA _ _ _).oldC hk) ((pcB _ _ _).oldC hk)) ?_; conv => whnf)
 | ((with_reducible refine CallK.id ?_); refine CallK.puW (fun ms w hkn => ha (hkn.got (by repeat (first | constructor | apply List.Mem.tail))) (hka.now hne hkn)) ?_; conv => whnf)
 | (apply r_any (id := 9); refine mixed; kernel_rfl; kernel_rfl; conv => whnf)
 | ((with_reducible apply OpK.more); (focus refine sok); (conv => whnf); fail_if_success guard_target =ₛ False)
 | ((with_reducible ((first | refine InAt.mk (fun K' hK => ?_) | refine AnyAt.mk (fun K' hK => ?_) | (refine hK _ ?_; clear hK K') | (refine hK _ _ ?_; clear hK K')))); conv => whnf)
 | (refine And.intro ?_ ?_; all_goals (conv => whnf))
 | ((first | refine if_decT (by omega) ?_ | refine if_decF (by omega) ?_); conv => whnf)
 | with_reducible apply_assumption -symm -exfalso)
  all_goals first | exact FinK.ro0 rfl (HSub.pick (by repeat (first | with_reducible apply At.head | apply At.tail))) | (exfalso; omega) | skip
theorem srB15 {k F T br bn sl nu : Int} {v : ByteArray} {la : Option Addr} {ln lc : Nat} {e rn : Int} {rx : ByteArray} {was : Bool} {w : World} {d : Nat} {n gs : Int} (hd : RAt w d n gs) (hq : ∀ {w : World}, RAt w d n gs → Pu Tryz.prog 42 #[pv d, .agg #[.int .i64 k, .int .i64 F, .int .i64 T, .int .i64 br, .int .i64 bn, .int .i64 sl, .int .i64 nu, .string v, .slice la ln lc]] w (.tuple #[.agg #[.int .i64 0, .int .i64 0, .int .i64 0, .int .i64 0, .bool false, .int .i64 0], .agg #[.int .i64 0, .int .i64 0, .int .i64 0, .int .i64 0, .int .i64 0, .int .i64 0, .string ⟨#[]⟩, .int .i64 0, .int .i64 0, .string ⟨#[]⟩, .string ⟨#[]⟩, .int .i64 0, .string ⟨#[]⟩, .int .i64 0, .int .i64 0, .slice none 0 0, .int .i64 0, .int .i64 0, .int .i64 0, .int .i64 0, .bool false, .int .i64 0, .int .i64 0, .string ⟨#[]⟩], .bool false])) : Pu Tryz.prog 15 #[pv d, .agg #[.int .i64 k, .int .i64 F, .int .i64 T, .int .i64 br, .int .i64 bn, .int .i64 sl, .int .i64 nu, .string v, .slice la ln lc], .agg #[.int .i64 e, .int .i64 rn, .string rx], .bool was] w (.tuple #[.agg #[.int .i64 0, .int .i64 0, .int .i64 0, .int .i64 0, .int .i64 0, .int .i64 0, .string ⟨#[]⟩, .int .i64 0, .int .i64 0, .string ⟨#[]⟩, .string ⟨#[]⟩, .int .i64 0, .string ⟨#[]⟩, .int .i64 0, .int .i64 0, .slice none 0 0, .int .i64 0, .int .i64 0, .int .i64 0, .int .i64 0, .bool false, .int .i64 0, .int .i64 0, .string ⟨#[]⟩], .agg #[.int .i64 0, .int .i64 0, .int .i64 0, .int .i64 0, .int .i64 0, .int .i64 0, .int .i64 0, .string ⟨#[]⟩, .slice none 0 0], .bool false, .bool false]) := by
  refine Pu.ofFrZ (enter_ro TBok (cs := RDC n gs) hd Tryz.func15 rfl rfl Tryz.ntmps15 [.loc d 10 0, .agg [.v (.int .i64 k), .v (.int .i64 F), .v (.int .i64 T), .v (.int .i64 br), .v (.int .i64 bn), .v (.int .i64 sl), .v (.int .i64 nu), .v (.string v), .v (.slice la ln lc)], .agg [.v (.int .i64 e), .v (.int .i64 rn), .v (.string rx)], .v (.bool was)] rfl rfl ?_)
  unfold RDC
  conv => whnf
  repeat' (first
 | with_reducible ((first | refine r_seq (fun KS hS => ?_) | (refine hS _ _ ?_; clear hS KS) | (refine hA _ ?_; clear hA KA)))
 | ((with_reducible (first | refine r_region ?_ | refine r_cond (fun KA hA KB hB => ?_) | refine r_ret ?_ | refine And.intro rfl ?_ | intro b)); conv => whnf)
 | ((with_reducible refine CallK.id ?_); refine CallK.puW (fun ms w hkn => hq (hkn.got (by repeat (first | constructor | apply List.Mem.tail)))) ?_; conv => whnf))
  all_goals first | exact FinK.ro0 rfl (HSub.pick (by repeat (first | with_reducible apply At.head | apply At.tail))) | (exfalso; omega)
theorem srF15 {k F T br bn sl nu : Int} {v : ByteArray} {la : Option Addr} {ln lc : Nat} {s t p mv g : Int} {i : Bool} {c : CmdC} {a0 a1 a2 a6 ae : Int} {ax : ByteArray} {e rn : Int} {rx : ByteArray} {was : Bool} {w : World} {d : Nat} {n gs : Int} (hd : RAt w d n gs) (hq : ∀ {w : World}, RAt w d n gs → Pu Tryz.prog 42 #[pv d, .agg #[.int .i64 k, .int .i64 F, .int .i64 T, .int .i64 br, .int .i64 bn, .int .i64 sl, .int .i64 nu, .string v, .slice la ln lc]] w (.tuple #[.agg #[.int .i64 s, .int .i64 t, .int .i64 p, .int .i64 mv, .bool i, .int .i64 g], c.V, .bool true])) (ha : ∀ {w : World}, RAt w d n gs → Pu Tryz.prog 19 #[pv d, .agg #[.int .i64 k, .int .i64 F, .int .i64 T, .int .i64 br, .int .i64 bn, .int .i64 sl, .int .i64 nu, .string v, .slice la ln lc], .agg #[.int .i64 e, .int .i64 rn, .string rx]] w (.tuple #[.agg #[.int .i64 a0, .int .i64 a1, .int .i64 a2, .int .i64 0, .int .i64 0, .int .i64 0, .int .i64 a6, .string ax, .slice none 0 0], .int .i64 ae])) : Pu Tryz.prog 15 #[pv d, .agg #[.int .i64 k, .int .i64 F, .int .i64 T, .int .i64 br, .int .i64 bn, .int .i64 sl, .int .i64 nu, .string v, .slice la ln lc], .agg #[.int .i64 e, .int .i64 rn, .string rx], .bool was] w (if (mv = 0 ∧ was = true ∧ ae = 0) then .tuple #[.agg #[.int .i64 0, .int .i64 0, .int .i64 0, .int .i64 0, .int .i64 0, .int .i64 0, .string ⟨#[]⟩, .int .i64 0, .int .i64 0, .string ⟨#[]⟩, .string ⟨#[]⟩, .int .i64 0, .string ⟨#[]⟩, .int .i64 0, .int .i64 0, .slice none 0 0, .int .i64 0, .int .i64 0, .int .i64 0, .int .i64 0, .bool false, .int .i64 0, .int .i64 0, .string ⟨#[]⟩], .agg #[.int .i64 a0, .int .i64 a1, .int .i64 a2, .int .i64 0, .int .i64 0, .int .i64 0, .int .i64 a6, .string ax, .slice none 0 0], .bool false, .bool true] else .tuple #[c.V, .agg #[.int .i64 0, .int .i64 0, .int .i64 0, .int .i64 0, .int .i64 0, .int .i64 0, .int .i64 0, .string ⟨#[]⟩, .slice none 0 0], .bool true, .bool false]) := by
  by_cases hC : (mv = 0 ∧ was = true ∧ ae = 0)
  rw [if_pos hC]
  obtain ⟨hm0, hw, hae⟩ := hC
  rotate_left
  rw [if_neg hC]
  by_cases hm0 : mv = 0
  all_goals by_cases hae2 : ae = 0
  all_goals cases was
  all_goals try (exact absurd hae hae2)
  all_goals try (exact absurd hw (by decide))
  all_goals try (exfalso; apply hC; refine ⟨?_, ?_, ?_⟩ <;> first | assumption | rfl)
  all_goals (refine Pu.ofFrZ (enter_ro TBok (cs := RDC n gs) hd Tryz.func15 rfl rfl Tryz.ntmps15 [.loc d 10 0, .agg [.v (.int .i64 k), .v (.int .i64 F), .v (.int .i64 T), .v (.int .i64 br), .v (.int .i64 bn), .v (.int .i64 sl), .v (.int .i64 nu), .v (.string v), .v (.slice la ln lc)], .agg [.v (.int .i64 e), .v (.int .i64 rn), .v (.string rx)], .v (.bool _)] rfl rfl ?_); unfold RDC; conv => whnf)
  all_goals repeat' (first
 | with_reducible ((first | refine r_seq (fun KS hS => ?_) | (refine hS _ _ ?_; clear hS KS) | (refine hA _ ?_; clear hA KA) | (refine hB _ ?_; clear hB KB)))
 | ((with_reducible (first | refine r_region ?_ | refine r_cond (fun KA hA KB hB => ?_) | refine r_ret ?_ | refine r_skip ?_ | refine And.intro rfl ?_ | intro b)); conv => whnf)
 | ((with_reducible refine CallK.id ?_); (first | refine CallK.puW (fun ms w hkn => hq (hkn.got (by repeat (first | constructor | apply List.Mem.tail)))) ?_ | refine CallK.puW (fun ms w hkn => ha (hkn.got (by repeat (first | constructor | apply List.Mem.tail)))) ?_); conv => whnf)
 | ((with_reducible refine IK.id ?_); (refine IK.bld rfl ?_); conv => whnf)
 | (apply r_any (id := 7); refine mixed; kernel_rfl; kernel_rfl; conv => whnf)
 | ((with_reducible ((first | refine InAt.mk (fun K' hK => ?_) | refine AnyAt.mk (fun K' hK => ?_) | (refine hK _ ?_; clear hK K') | (refine hK _ _ ?_; clear hK K')))); conv => whnf)
 | (refine And.intro ?_ ?_; all_goals (conv => whnf))
 | ((first | refine if_decT (by omega) ?_ | refine if_decF (by omega) ?_); conv => whnf)
 | with_reducible apply_assumption -symm -exfalso)
  all_goals first | exact FinK.ro0 rfl (HSub.pick (by repeat (first | with_reducible apply At.head | apply At.tail))) | (exfalso; omega) | skip
end Go.Proofs.YtbgnoibellfojaaGreatDoor

namespace Go.Proofs.YtbgnoibellfojaaGreatDoor
open Go Go.X
set_option maxRecDepth 100000
set_option maxHeartbeats 0
theorem feqMsg17 {a b c d : Int} {x : ByteArray} (w : World) : Pu Tryz.prog 17 #[.agg #[.int .i64 a, .int .i64 b, .int .i64 c, .int .i64 0, .int .i64 0, .int .i64 0, .int .i64 d, .string x, .slice none 0 0], .agg #[.int .i64 a, .int .i64 b, .int .i64 c, .int .i64 0, .int .i64 0, .int .i64 0, .int .i64 d, .string x, .slice none 0 0]] w (.bool true) := by
  refine enter_sound TBok Tryz.func17 rfl rfl Tryz.ntmps17 [.agg [.v (.int .i64 a), .v (.int .i64 b), .v (.int .i64 c), .v (.int .i64 0), .v (.int .i64 0), .v (.int .i64 0), .v (.int .i64 d), .v (.string x), .v (.slice none 0 0)], .agg [.v (.int .i64 a), .v (.int .i64 b), .v (.int .i64 c), .v (.int .i64 0), .v (.int .i64 0), .v (.int .i64 0), .v (.int .i64 d), .v (.string x), .v (.slice none 0 0)]] (Kn.start w noS) rfl rfl ?_
  conv => whnf
  repeat' (first
 | with_reducible ((first | refine r_seq (fun KS hS => ?_) | (refine hS _ _ ?_; clear hS KS) | (refine hB _ ?_; clear hB KB) | refine r_block ?_))
 | ((with_reducible (first | refine r_region ?_ | refine r_cond (fun KA hA KB hB => ?_) | refine r_ret ?_ | refine r_skip ?_ | refine r_exit ?_ | refine And.intro rfl ?_ | intro b)); conv => whnf)
 | (apply in44; rfl; rfl; rfl; intro A; conv => whnf)
 | (refine if_f (by first | rfl | (simp; done) | (simp; omega)) ?_; conv => whnf)
 | ((with_reducible apply OpK.more); (focus refine sok); (conv => whnf); fail_if_success guard_target =ₛ False)
 | with_reducible (first | refine Rounds.step (fun KL hL => ?_) | refine r_rounds 100 ?_)
 | with_reducible apply_assumption -symm -exfalso)
  all_goals exact FinK.pu rfl
theorem fnew12 {n gs : Int} (hn : 1 ≤ n ∧ n ≤ 7) (hg : 2 ≤ gs ∧ gs ≤ 8) (w : World) : FrZ Tryz.prog 12 #[.int .i64 n, .int .i64 gs] w emp (fun z : Nat => .tuple #[pv z, .int .i64 0]) (fun z => AssL [.blk 3 z (RDC n gs) 92]) := by
  refine enter_frZ TBok (H := []) emp_foot Tryz.func12 rfl rfl Tryz.ntmps12 [.v (.int .i64 n), .v (.int .i64 gs)] rfl rfl ?_
  intro S _ _
  conv => whnf
  repeat' (first
 | with_reducible ((first | refine r_seq (fun KS hS => ?_) | (refine hS _ _ ?_; clear hS KS) | (refine hB _ ?_; clear hB KB)))
 | ((with_reducible (first | refine r_region ?_ | refine r_cond (fun KA hA KB hB => ?_) | refine r_ret ?_ | refine r_skip ?_ | intro b)); conv => whnf)
 | (refine if_decF (by omega) ?_; conv => whnf)
 | with_reducible apply_assumption -symm -exfalso)
  all_goals first | exact FinK.frZL _ rfl (by (try dsimp only [List.cons_append, List.nil_append, den, denL]); refine SelI.spec ?_; (repeat (first | refine SelI.blk (by repeat (first | with_reducible apply Rm.head | apply Rm.tail)) ?_ | refine SelI.ext (by repeat (first | with_reducible apply Rm.head | apply Rm.tail)) ?_ | (refine SelI.blk' (by repeat (first | with_reducible apply Rm.head | apply Rm.tail)) ?_ ?_; focus rfl) | (refine SelI.ext' (by repeat (first | with_reducible apply Rm.head | apply Rm.tail)) ?_ ?_; focus rfl))); exact SelI.nil) | (exfalso; omega)
theorem EntAt.nowS {W w : World} {a : Option Addr} {n : Nat} {ms : List Nat} {H : List Blk} (h : EntAt W a n) (hk : Kn W noS ms H w) : EntAt w a n := by
  rcases h with rfl | ⟨b, off, C, t, f, rfl, h1, h2⟩
  · exact .inl rfl
  · exact .inr ⟨b, off, C, t, f, rfl, by rw [Kn0.old hk b (Array.getElem?_eq_some_iff.1 h1).1 (fun h => h)]; exact h1, h2⟩
theorem ne_ty {w : World} {b d t t' : Nat} {C C' : Array Value} {f f' : Nat × Nat} (h : w.heap[b]? = some (.cells C t f)) (h' : w.heap[d]? = some (.cells C' t' f')) (ht : t ≠ t') : b ≠ d := by
  rintro rfl
  rw [h] at h'
  injection h' with h'
  injection h' with _ h2 _
  exact ht h2
/-- both sides serve alike -/
structure SrvC (m r : Value) (n gs e rn : Int) (rx : ByteArray) (was : Bool) (c1 c2 : CmdC) (a b c d : Int) (x : ByteArray) (p1 q1 p2 q2 : Bool) : Prop where
  g1 : ∀ {w : World} {dr mp : Nat} {tk : Int}, DAt w dr n gs tk mp → KAt w → Pu Tryz.prog 14 #[pv dr, m, .nilFunc] w (.tuple #[c1.V, .agg #[.int .i64 0, .int .i64 0, .int .i64 0, .int .i64 0, .int .i64 0, .int .i64 0, .int .i64 0, .string ⟨#[]⟩, .slice none 0 0], .bool p1, .bool q1])
  g2 : ∀ {b1 b2 : Nat}, ∀ {w : World} {dr mp : Nat} {tk : Int}, DAt w dr n gs tk mp → KAt w → OldC w b1 0 [.v (.int .i64 e), .v (.int .i64 rn), .v (.string rx)] → OldC w b2 0 [.v (.bool was)] → b1 ≠ dr → b2 ≠ dr → Pu Tryz.prog 14 #[pv dr, m, .func (.func 13) #[] #[pv b1, pv b2]] w (.tuple #[c2.V, .agg #[.int .i64 a, .int .i64 b, .int .i64 c, .int .i64 0, .int .i64 0, .int .i64 0, .int .i64 d, .string x, .slice none 0 0], .bool p2, .bool q2])
  h1 : ∀ {w : World} {dr : Nat}, RAt w dr n gs → Pu Tryz.prog 15 #[pv dr, m, r, .bool false] w (.tuple #[c1.V, .agg #[.int .i64 0, .int .i64 0, .int .i64 0, .int .i64 0, .int .i64 0, .int .i64 0, .int .i64 0, .string ⟨#[]⟩, .slice none 0 0], .bool p1, .bool q1])
  h2 : ∀ {w : World} {dr : Nat}, RAt w dr n gs → Pu Tryz.prog 15 #[pv dr, m, r, .bool was] w (.tuple #[c2.V, .agg #[.int .i64 a, .int .i64 b, .int .i64 c, .int .i64 0, .int .i64 0, .int .i64 0, .int .i64 d, .string x, .slice none 0 0], .bool p2, .bool q2])
  n1 : (c1.dn = ⟨#[]⟩ ∧ c1.dr = 0 ∧ c1.dd = 0 ∧ c1.sa = none ∧ c1.sn = 0 ∧ c1.sc = 0)
  n2 : (c2.dn = ⟨#[]⟩ ∧ c2.dr = 0 ∧ c2.dd = 0 ∧ c2.sa = none ∧ c2.sn = 0 ∧ c2.sc = 0)
  sm : was = false → c2 = c1 ∧ a = 0 ∧ b = 0 ∧ c = 0 ∧ d = 0 ∧ x = ⟨#[]⟩ ∧ p2 = p1 ∧ q2 = q1
theorem serveBad {k F T br bn sl nu : Int} {v : ByteArray} {la : Option Addr} {ln lc : Nat} {e rn : Int} {rx : ByteArray} {was : Bool} {n gs : Int} (h : QBad (.agg #[.int .i64 k, .int .i64 F, .int .i64 T, .int .i64 br, .int .i64 bn, .int .i64 sl, .int .i64 nu, .string v, .slice la ln lc]) n gs) : SrvC (.agg #[.int .i64 k, .int .i64 F, .int .i64 T, .int .i64 br, .int .i64 bn, .int .i64 sl, .int .i64 nu, .string v, .slice la ln lc]) (.agg #[.int .i64 e, .int .i64 rn, .string rx]) n gs e rn rx was CmdC.zero CmdC.zero 0 0 0 0 ⟨#[]⟩ false false false false :=
  ⟨fun hd hka => spB14 hd hka h.pr, fun hd hka _ _ _ _ => spB14 hd hka h.pr, fun hd => srB15 hd h.rf, fun hd => srB15 hd h.rf, ⟨rfl, rfl, rfl, rfl, rfl, rfl⟩, ⟨rfl, rfl, rfl, rfl, rfl, rfl⟩, fun _ => ⟨rfl, rfl, rfl, rfl, rfl, rfl, rfl, rfl⟩⟩
theorem serveGood {k F T br bn sl nu : Int} {v : ByteArray} {la : Option Addr} {ln lc : Nat} {e rn : Int} {rx : ByteArray} {was : Bool} {n gs : Int} {s t p mv g : Int} {i : Bool} {c : CmdC} {a0 a1 a2 a6 ae : Int} {ax : ByteArray} (h : QGood (.agg #[.int .i64 k, .int .i64 F, .int .i64 T, .int .i64 br, .int .i64 bn, .int .i64 sl, .int .i64 nu, .string v, .slice la ln lc]) n gs s t p mv i g c) (ha : AnsC (.agg #[.int .i64 k, .int .i64 F, .int .i64 T, .int .i64 br, .int .i64 bn, .int .i64 sl, .int .i64 nu, .string v, .slice la ln lc]) (.agg #[.int .i64 e, .int .i64 rn, .string rx]) n gs a0 a1 a2 a6 ax ae) : ∃ c2 b0 b1 b2 b6 bx p2 q2, SrvC (.agg #[.int .i64 k, .int .i64 F, .int .i64 T, .int .i64 br, .int .i64 bn, .int .i64 sl, .int .i64 nu, .string v, .slice la ln lc]) (.agg #[.int .i64 e, .int .i64 rn, .string rx]) n gs e rn rx was c c2 b0 b1 b2 b6 bx true false p2 q2 := by
  have hf : ¬ (mv = 0 ∧ false = true ∧ ae = 0) := fun h => absurd h.2.1 (by decide)
  by_cases hC : (mv = 0 ∧ was = true ∧ ae = 0)
  · exact ⟨CmdC.zero, a0, a1, a2, a6, ax, false, true, fun hd hka => spN14 hd hka h.pr, fun hd hka o1 o2 hb1 hb2 => by have := spF14 hd hka h.pr o1 o2 hb1 hb2 ha.pr; rw [if_pos hC] at this; exact this, fun hd => by have := srF15 (was := false) hd h.rf ha.rf; rw [if_neg hf] at this; exact this, fun hd => by have := srF15 (was := was) hd h.rf ha.rf; rw [if_pos hC] at this; exact this, h.no, ⟨rfl, rfl, rfl, rfl, rfl, rfl⟩, fun hw => absurd (hC.2.1.symm.trans hw) (by decide)⟩
  · exact ⟨c, 0, 0, 0, 0, ⟨#[]⟩, true, false, fun hd hka => spN14 hd hka h.pr, fun hd hka o1 o2 hb1 hb2 => by have := spF14 hd hka h.pr o1 o2 hb1 hb2 ha.pr; rw [if_neg hC] at this; exact this, fun hd => by have := srF15 (was := false) hd h.rf ha.rf; rw [if_neg hf] at this; exact this, fun hd => by have := srF15 (was := was) hd h.rf ha.rf; rw [if_neg hC] at this; exact this, h.no, h.no, fun _ => ⟨rfl, rfl, rfl, rfl, rfl, rfl, rfl, rfl⟩⟩
theorem newCallR {nn : Nat} {W : World} {S : Nat → Prop} {r : Option Nat} {H : List Blk} {nx : K1} {n gs : Int} (hn : 1 ≤ n ∧ n ≤ 7) (hg : 2 ≤ gs ∧ gs ≤ 8) (hx : ∀ z : Nat, nx (.v (.tuple #[pv z, .int .i64 0])) (.blk 30 z (RDC n gs) 92 :: H)) : CallK ⟨Tryz.prog, TB, nn, W, S, r, TBok⟩ 12 [.v (.int .i64 n), .v (.int .i64 gs)] H nx :=
  CallK.frL (v := fun z : Nat => .tuple #[pv z, .int .i64 0]) (L0 := []) (L := []) (R := H) Sel.nil HSub.nil (fun _ w _ => FrZ.pre (fnew12 (n := n) (gs := gs) hn hg w) (fun S h => by cases h; exact fun _ h => h))
    (M' := fun z => [.blk 30 z (RDC n gs) 92]) (fun z => HSub.keep rfl HSub.nil) hx
end Go.Proofs.YtbgnoibellfojaaGreatDoor
