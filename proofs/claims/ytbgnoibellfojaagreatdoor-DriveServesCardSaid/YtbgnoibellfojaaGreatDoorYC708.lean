/- Contracts and lemmas for the claim (part 8); no condition of its own. -/
import Derived.Test.YtbgnoibellfojaaGreatDoorYC707
import Derived.Test.YtbgnoibellfojaaGreatDoorYC705
import Derived.Test.YtbgnoibellfojaaGreatDoorYC704
import Derived.Test.YtbgnoibellfojaaGreatDoorYC706
set_option linter.all false
set_option linter.unusedVariables false
set_option linter.unusedSimpArgs false
set_option linter.unnecessarySimpa false
namespace Go.Proofs.YtbgnoibellfojaaGreatDoor
open Go Go.X
set_option maxRecDepth 100000
set_option maxHeartbeats 0
/-- a command that is none of the three, as it was read by the reference -/
structure OffZ where
  c : CmdC
  e : Int
  l : List (ByteArray × Int)
  off : e = 0 → c.Off
  chk : e = 0 → ∀ w, RdS w 144 2 c.sa c.sn c.sc (stC l) → PuE Tryz.prog 130 #[c.V] w (fun v => ∃ q, v = .int .i64 q)
theorem FrZ.ofPu {α : Type} {P : Program} {f : FuncId} {args : Array Value} {w : World} {v : α → Value} {A' : α → Ass} (z : α) (h : Pu P f args w (v z)) (hA : ∀ w, (A' z).holds w (fun _ => False)) : FrZ P f args w emp v A' := by
  intro S hS _
  refine CT.mono h ?_
  rintro e w' ⟨h1, h2⟩
  obtain ⟨h3, h4, h5, h6, h7⟩ := h2
  exact ⟨z, h1, ⟨h3, h4, h5, h6, fun k hk _ => h7 k hk⟩, _, hA w', fun k hk => hk.elim⟩
theorem SlA.nil0 {e k : Nat} (w : World) : (SlA e k none 0 0 []).holds w (fun _ => False) := .inl ⟨rfl, rfl, rfl, rfl⟩
theorem fdecStart79 {l : List UInt8} {a : Option Addr} {n cap : Nat} {w : World} (hr : RdS w 5 1 a n cap (bcells l)) (hln : l.length ≤ 1099511627776) {q s : Nat} {x : ByteArray} {u0 u1 u2 u3 : RSt} (e0 : rdS 2147483648 (some l) = (11, u0)) (e1 : rdS 2147483648 u0 = (q, u1)) (e2 : rdS 2147483648 u1 = (s, u2)) (e3 : rdT u2 = (x, u3)) : FrZ Tryz.prog 79 #[.slice a n cap] w emp (fun z : OffZ => .tuple #[z.c.V, .int .i64 z.e]) (fun z => SlA 144 2 z.c.sa z.c.sn z.c.sc (stC z.l)) := by
  have hlen := hr.len
  rw [bcells_length, Nat.mul_one] at hlen
  subst hlen
  have rb : RB (some l) := RB.len hln
  have hne : l.length ≠ 0 := by
    intro h
    obtain rfl := List.length_eq_zero_iff.1 h
    have h1 : (rdS 2147483648 (some [])).1 = 11 := by rw [e0]
    exact absurd h1 (by decide)
  have rb0 : RB u0 := by have := RB.S (most := 2147483648) rb; rw [e0] at this; exact this
  have rb1 : RB u1 := by have := RB.S (most := 2147483648) rb0; rw [e1] at this; exact this
  have rb2 : RB u2 := by have := RB.S (most := 2147483648) rb1; rw [e2] at this; exact this
  have rb3 : RB u3 := by have := RB.T rb2; rw [e3] at this; exact this
  have hk3 : x.size ≤ 1099511627776 := by have := rdT_size u2; rw [e3] at this; dsimp only at this; omega
  have hnone : ¬ (none : RSt) = some [] := by simp
  have hxl : x.data.toList.length ≤ 1099511627776 := by have := str_len x; omega
  by_cases hl : l.length ≤ 65536
  by_cases hend : u3 = some []
  all_goals (refine enter_frZ TBok (H := []) emp_foot Tryz.func79 rfl rfl Tryz.ntmps79 [.v (.slice a l.length cap)] rfl rfl ?_; intro S hSe _; have hs := fun n' H => Sees.old (c := ⟨Tryz.prog, TB, n', w, S, none, TBok⟩) (H := H) (hr.oldE hSe); conv => whnf)
  repeat' (first
 | with_reducible ((first | refine r_seq (fun KS hS => ?_) | (refine hS _ _ ?_; clear hS KS) | (refine hA _ ?_; clear hA KA) | (refine hB _ ?_; clear hB KB) | refine r_block ?_))
 | ((with_reducible (first | refine r_region ?_ | refine r_cond (fun KA hA KB hB => ?_) | refine r_ret ?_ | refine r_skip ?_ | refine And.intro rfl ?_ | intro b)); conv => whnf)
 | ((with_reducible refine CallK.id ?_); refine CallK.fresh (fun ms w hk => fread122 (l := l) (Sees.rd (hs _ _) hk) (by omega)) ?_; conv => whnf)
 | ((with_reducible refine CallK.id ?_); (first | refine CallK.frE (by repeat (first | with_reducible apply At.head | apply At.tail)) (fun w => fsmall123e rb e0 w) ?_ | refine CallK.frE (by repeat (first | with_reducible apply At.head | apply At.tail)) (fun w => fsmall123e rb0 e1 w) ?_ | refine CallK.frE (by repeat (first | with_reducible apply At.head | apply At.tail)) (fun w => fsmall123e rb1 e2 w) ?_ | refine CallK.frE (by repeat (first | with_reducible apply At.head | apply At.tail)) (fun w => ftext125e rb2 e3 w) ?_); conv => whnf)
 | ((with_reducible refine OpK.id ?_); refine OpK.cvSB rfl rfl rfl rfl rfl rfl rfl rfl ?_; conv => whnf)
 | ((with_reducible refine CallK.id ?_); (first | refine CallK.fresh (fun ms w hk => fddec128 (Sees.rd (Sees.ext (by repeat (first | with_reducible apply At.head | apply At.tail))) hk) hxl) ?_ | refine CallK.frE (by repeat (first | with_reducible apply At.head | apply At.tail)) (fun w => ffail124 w) ?_ | (refine CallK.frE (by repeat (first | with_reducible apply At.head | apply At.tail)) (fun w => fend129 w) ?_; rw [if_pos hend]) | (refine CallK.frE (by repeat (first | with_reducible apply At.head | apply At.tail)) (fun w => fend129 w) ?_; rw [if_neg hend]) | (refine CallK.frE (by repeat (first | with_reducible apply At.head | apply At.tail)) (fun w => fend129 w) ?_; rw [if_neg hnone]) | (refine CallK.puE (fun ms w hk => fcheckStart130 (Sees.rd (Sees.ext (by repeat (first | with_reducible apply At.head | apply At.tail))) hk) (DefZ.hx _) (DefZ.hS _) (DefZ.hl _)) ?_; rintro _ ⟨qe, rfl⟩)); conv => whnf)
 | ((first | refine if_decT (by omega) ?_ | refine if_decF (by omega) ?_); conv => whnf)
 | (refine if_ndec (fun h => ?_) (fun h => ?_); all_goals (conv => whnf))
 | with_reducible apply_assumption -symm -exfalso)
  all_goals first | exact FinK.frZ (i := 0) ⟨CmdC.zero, 10, [], fun h => absurd h (by decide), fun h => absurd h (by decide)⟩ rfl (HSub.addNil (HSub.none _)) | (rename DefZ => zz; exact FinK.frZ (i := 0) ⟨⟨11, q, s, 0, 0, 0, ⟨#[]⟩, 0, 0, ⟨#[]⟩, ⟨#[]⟩, 0, zz.x, zz.r, zz.d, zz.a, zz.l.length, zz.cap, 0, 0, 0, 0, false, 0, 0, ⟨#[]⟩⟩, 0, zz.l, fun _ => by simp [CmdC.Off], fun _ w h => fcheckStart130 h (zz.hx) (zz.hS) (zz.hl)⟩ rfl (by (try dsimp only [List.cons_append, List.nil_append, den, denL]); refine SelI.spec ?_; (repeat (first | refine SelI.blk (by repeat (first | with_reducible apply Rm.head | apply Rm.tail)) ?_ | refine SelI.ext (by repeat (first | with_reducible apply Rm.head | apply Rm.tail)) ?_ | (refine SelI.blk' (by repeat (first | with_reducible apply Rm.head | apply Rm.tail)) ?_ ?_; focus rfl) | (refine SelI.ext' (by repeat (first | with_reducible apply Rm.head | apply Rm.tail)) ?_ ?_; focus rfl))); exact SelI.nil)) | (exfalso; omega)
end Go.Proofs.YtbgnoibellfojaaGreatDoor

namespace Go.Proofs.YtbgnoibellfojaaGreatDoor
open Go Go.X
set_option maxRecDepth 100000
set_option maxHeartbeats 0
theorem checkReadX102 {q : Int} {k : ByteArray} (hks : k.size ≤ 1099511627776) : ∃ e : Int, ∀ w, Pu Tryz.prog 102 #[.agg #[.int .i64 2, .int .i64 q, .int .i64 0, .int .i64 0, .int .i64 0, .int .i64 0, .string k, .int .i64 0, .int .i64 0, .string ⟨#[]⟩, .string ⟨#[]⟩, .int .i64 0, .string ⟨#[]⟩, .int .i64 0, .int .i64 0, .slice none 0 0, .int .i64 0, .int .i64 0, .int .i64 0, .int .i64 0, .bool false, .int .i64 0, .int .i64 0, .string ⟨#[]⟩]] w (.int .i64 e) := by
  by_cases h0 : (0 : Int) ≤ q ∧ q ≤ 2147483648
  rcases Bool.eq_false_or_eq_true (nameOk k) with h1 | h1
  refine ⟨0, fun w => ?_⟩
  rotate_left
  refine ⟨2, fun w => ?_⟩
  rotate_left
  refine ⟨2, fun w => ?_⟩
  all_goals (refine enter_sound TBok Tryz.func102 rfl rfl Tryz.ntmps102 [.agg [.v (.int .i64 2), .v (.int .i64 q), .v (.int .i64 0), .v (.int .i64 0), .v (.int .i64 0), .v (.int .i64 0), .v (.string k), .v (.int .i64 0), .v (.int .i64 0), .v (.string ⟨#[]⟩), .v (.string ⟨#[]⟩), .v (.int .i64 0), .v (.string ⟨#[]⟩), .v (.int .i64 0), .v (.int .i64 0), .v (.slice none 0 0), .v (.int .i64 0), .v (.int .i64 0), .v (.int .i64 0), .v (.int .i64 0), .v (.bool false), .v (.int .i64 0), .v (.int .i64 0), .v (.string ⟨#[]⟩)]] (Kn.start w noS) rfl rfl ?_; conv => whnf)
  repeat' (first
 | with_reducible ((first | refine r_seq (fun KS hS => ?_) | (refine hS _ _ ?_; clear hS KS) | (refine hA _ ?_; clear hA KA) | (refine hB _ ?_; clear hB KB) | refine r_block ?_))
 | ((with_reducible (first | refine r_region ?_ | refine r_cond (fun KA hA KB hB => ?_) | refine r_ret ?_ | refine r_skip ?_ | refine r_exit ?_ | refine And.intro rfl ?_ | intro b)); conv => whnf)
 | ((with_reducible refine WrapK.i64 ?_ ?_); (focus omega); conv => whnf)
 | ((with_reducible refine CallK.id ?_); apply in146; rfl; rfl; rfl; intro A; conv => whnf)
 | (refine aq227 ?_; conv => whnf)
 | (refine ak227 ?_; conv => whnf)
 | ((with_reducible refine CallK.id ?_); (first | apply in103 | apply in144 | apply in216 | apply in226 | apply in288 | apply in297 | apply in292 | apply in302 | apply in29 | apply in66 | apply in112); rfl; rfl; rfl; intro A; conv => whnf)
 | (refine aq217 ?_; conv => whnf)
 | (refine ak217 ?_; conv => whnf)
 | ((with_reducible refine CallQ.at 298 ?_); refine CallQ.pu (fun w => within298 h0 w) ?_; conv => whnf)
 | ((with_reducible refine CallQ.at 298 ?_); refine CallQ.pu (fun w => withinBad298 h0 w) ?_; conv => whnf)
 | ((with_reducible refine CallQ.at 218 ?_); refine CallQ.pu (fun w => name218 hks w) ?_; rw [h1]; conv => whnf)
 | ((with_reducible apply OpK.more); (focus refine sok); (conv => whnf); fail_if_success guard_target =ₛ False)
 | with_reducible (first | refine Rounds.step (fun KL hL => ?_) | refine r_rounds 100 ?_)
 | (apply r_quiet; refine mixed; kernel_rfl; kernel_rfl; kernel_rfl; conv => whnf)
 | with_reducible apply_assumption -symm -exfalso)
  all_goals first | exact FinK.pu rfl | (exfalso; omega)
theorem checkStatusX102 {q s : Int} : ∃ e : Int, ∀ w, Pu Tryz.prog 102 #[.agg #[.int .i64 12, .int .i64 q, .int .i64 s, .int .i64 0, .int .i64 0, .int .i64 0, .string ⟨#[]⟩, .int .i64 0, .int .i64 0, .string ⟨#[]⟩, .string ⟨#[]⟩, .int .i64 0, .string ⟨#[]⟩, .int .i64 0, .int .i64 0, .slice none 0 0, .int .i64 0, .int .i64 0, .int .i64 0, .int .i64 0, .bool false, .int .i64 0, .int .i64 0, .string ⟨#[]⟩]] w (.int .i64 e) := by
  by_cases h0 : (0 : Int) ≤ q ∧ q ≤ 2147483648
  by_cases h1 : (1 : Int) ≤ s ∧ s ≤ 9999
  refine ⟨0, fun w => ?_⟩
  rotate_left
  refine ⟨2, fun w => ?_⟩
  rotate_left
  refine ⟨2, fun w => ?_⟩
  all_goals (refine enter_sound TBok Tryz.func102 rfl rfl Tryz.ntmps102 [.agg [.v (.int .i64 12), .v (.int .i64 q), .v (.int .i64 s), .v (.int .i64 0), .v (.int .i64 0), .v (.int .i64 0), .v (.string ⟨#[]⟩), .v (.int .i64 0), .v (.int .i64 0), .v (.string ⟨#[]⟩), .v (.string ⟨#[]⟩), .v (.int .i64 0), .v (.string ⟨#[]⟩), .v (.int .i64 0), .v (.int .i64 0), .v (.slice none 0 0), .v (.int .i64 0), .v (.int .i64 0), .v (.int .i64 0), .v (.int .i64 0), .v (.bool false), .v (.int .i64 0), .v (.int .i64 0), .v (.string ⟨#[]⟩)]] (Kn.start w noS) rfl rfl ?_; conv => whnf)
  repeat' (first
 | with_reducible ((first | refine r_seq (fun KS hS => ?_) | (refine hS _ _ ?_; clear hS KS) | (refine hA _ ?_; clear hA KA) | (refine hB _ ?_; clear hB KB) | refine r_block ?_))
 | ((with_reducible (first | refine r_region ?_ | refine r_cond (fun KA hA KB hB => ?_) | refine r_ret ?_ | refine r_skip ?_ | refine r_exit ?_ | refine And.intro rfl ?_ | intro b)); conv => whnf)
 | ((with_reducible refine WrapK.i64 ?_ ?_); (focus omega); conv => whnf)
 | ((with_reducible refine CallK.id ?_); (first | apply in146 | apply in150); rfl; rfl; rfl; intro A; conv => whnf)
 | (refine aq227 ?_; conv => whnf)
 | (refine ak227 ?_; conv => whnf)
 | (refine aq239 ?_; conv => whnf)
 | (refine ak239 ?_; conv => whnf)
 | ((with_reducible refine CallK.id ?_); (first | apply in103 | apply in226 | apply in297 | apply in302 | apply in29 | apply in66 | apply in112); rfl; rfl; rfl; intro A; conv => whnf)
 | ((with_reducible refine CallQ.at 298 ?_); refine CallQ.pu (fun w => within298 h0 w) ?_; conv => whnf)
 | ((with_reducible refine CallQ.at 298 ?_); refine CallQ.pu (fun w => withinBad298 h0 w) ?_; conv => whnf)
 | ((with_reducible refine CallQ.at 298 ?_); refine CallQ.pu (fun w => within298 h1 w) ?_; conv => whnf)
 | ((with_reducible refine CallQ.at 298 ?_); refine CallQ.pu (fun w => withinBad298 h1 w) ?_; conv => whnf)
 | ((with_reducible apply OpK.more); (focus refine sok); (conv => whnf); fail_if_success guard_target =ₛ False)
 | with_reducible (first | refine Rounds.step (fun KL hL => ?_) | refine r_rounds 100 ?_)
 | (apply r_quiet; refine mixed; kernel_rfl; kernel_rfl; kernel_rfl; conv => whnf)
 | with_reducible apply_assumption -symm -exfalso)
  all_goals first | exact FinK.pu rfl | (exfalso; omega)
theorem checkCancelX102 {q s : Int} : ∃ e : Int, ∀ w, Pu Tryz.prog 102 #[.agg #[.int .i64 13, .int .i64 q, .int .i64 s, .int .i64 0, .int .i64 0, .int .i64 0, .string ⟨#[]⟩, .int .i64 0, .int .i64 0, .string ⟨#[]⟩, .string ⟨#[]⟩, .int .i64 0, .string ⟨#[]⟩, .int .i64 0, .int .i64 0, .slice none 0 0, .int .i64 0, .int .i64 0, .int .i64 0, .int .i64 0, .bool false, .int .i64 0, .int .i64 0, .string ⟨#[]⟩]] w (.int .i64 e) := by
  by_cases h0 : (0 : Int) ≤ q ∧ q ≤ 2147483648
  by_cases h1 : (1 : Int) ≤ s ∧ s ≤ 9999
  refine ⟨0, fun w => ?_⟩
  rotate_left
  refine ⟨2, fun w => ?_⟩
  rotate_left
  refine ⟨2, fun w => ?_⟩
  all_goals (refine enter_sound TBok Tryz.func102 rfl rfl Tryz.ntmps102 [.agg [.v (.int .i64 13), .v (.int .i64 q), .v (.int .i64 s), .v (.int .i64 0), .v (.int .i64 0), .v (.int .i64 0), .v (.string ⟨#[]⟩), .v (.int .i64 0), .v (.int .i64 0), .v (.string ⟨#[]⟩), .v (.string ⟨#[]⟩), .v (.int .i64 0), .v (.string ⟨#[]⟩), .v (.int .i64 0), .v (.int .i64 0), .v (.slice none 0 0), .v (.int .i64 0), .v (.int .i64 0), .v (.int .i64 0), .v (.int .i64 0), .v (.bool false), .v (.int .i64 0), .v (.int .i64 0), .v (.string ⟨#[]⟩)]] (Kn.start w noS) rfl rfl ?_; conv => whnf)
  repeat' (first
 | with_reducible ((first | refine r_seq (fun KS hS => ?_) | (refine hS _ _ ?_; clear hS KS) | (refine hA _ ?_; clear hA KA) | (refine hB _ ?_; clear hB KB) | refine r_block ?_))
 | ((with_reducible (first | refine r_region ?_ | refine r_cond (fun KA hA KB hB => ?_) | refine r_ret ?_ | refine r_skip ?_ | refine r_exit ?_ | refine And.intro rfl ?_ | intro b)); conv => whnf)
 | ((with_reducible refine WrapK.i64 ?_ ?_); (focus omega); conv => whnf)
 | ((with_reducible refine CallK.id ?_); (first | apply in146 | apply in150); rfl; rfl; rfl; intro A; conv => whnf)
 | (refine aq227 ?_; conv => whnf)
 | (refine ak227 ?_; conv => whnf)
 | (refine aq239 ?_; conv => whnf)
 | (refine ak239 ?_; conv => whnf)
 | ((with_reducible refine CallK.id ?_); (first | apply in103 | apply in226 | apply in297 | apply in302 | apply in29 | apply in66 | apply in112); rfl; rfl; rfl; intro A; conv => whnf)
 | ((with_reducible refine CallQ.at 298 ?_); refine CallQ.pu (fun w => within298 h0 w) ?_; conv => whnf)
 | ((with_reducible refine CallQ.at 298 ?_); refine CallQ.pu (fun w => withinBad298 h0 w) ?_; conv => whnf)
 | ((with_reducible refine CallQ.at 298 ?_); refine CallQ.pu (fun w => within298 h1 w) ?_; conv => whnf)
 | ((with_reducible refine CallQ.at 298 ?_); refine CallQ.pu (fun w => withinBad298 h1 w) ?_; conv => whnf)
 | ((with_reducible apply OpK.more); (focus refine sok); (conv => whnf); fail_if_success guard_target =ₛ False)
 | with_reducible (first | refine Rounds.step (fun KL hL => ?_) | refine r_rounds 100 ?_)
 | (apply r_quiet; refine mixed; kernel_rfl; kernel_rfl; kernel_rfl; conv => whnf)
 | with_reducible apply_assumption -symm -exfalso)
  all_goals first | exact FinK.pu rfl | (exfalso; omega)
theorem checkMoveX102 {q g : Int} {f t : ByteArray} (hf : f.size ≤ 1099511627776) (ht : t.size ≤ 1099511627776) : ∃ e : Int, ∀ w, Pu Tryz.prog 102 #[.agg #[.int .i64 14, .int .i64 q, .int .i64 0, .int .i64 0, .int .i64 0, .int .i64 0, .string ⟨#[]⟩, .int .i64 0, .int .i64 0, .string f, .string t, .int .i64 g, .string ⟨#[]⟩, .int .i64 0, .int .i64 0, .slice none 0 0, .int .i64 0, .int .i64 0, .int .i64 0, .int .i64 0, .bool false, .int .i64 0, .int .i64 0, .string ⟨#[]⟩]] w (.int .i64 e) := by
  by_cases h0 : (0 : Int) ≤ q ∧ q ≤ 2147483648
  rcases Bool.eq_false_or_eq_true (rangeOk f t) with h1 | h1
  by_cases h2 : (1 : Int) ≤ g ∧ g ≤ 7
  refine ⟨0, fun w => ?_⟩
  rotate_left
  refine ⟨2, fun w => ?_⟩
  rotate_left
  refine ⟨2, fun w => ?_⟩
  rotate_left
  refine ⟨2, fun w => ?_⟩
  all_goals (refine enter_sound TBok Tryz.func102 rfl rfl Tryz.ntmps102 [.agg [.v (.int .i64 14), .v (.int .i64 q), .v (.int .i64 0), .v (.int .i64 0), .v (.int .i64 0), .v (.int .i64 0), .v (.string ⟨#[]⟩), .v (.int .i64 0), .v (.int .i64 0), .v (.string f), .v (.string t), .v (.int .i64 g), .v (.string ⟨#[]⟩), .v (.int .i64 0), .v (.int .i64 0), .v (.slice none 0 0), .v (.int .i64 0), .v (.int .i64 0), .v (.int .i64 0), .v (.int .i64 0), .v (.bool false), .v (.int .i64 0), .v (.int .i64 0), .v (.string ⟨#[]⟩)]] (Kn.start w noS) rfl rfl ?_; conv => whnf)
  repeat' (first
 | with_reducible ((first | refine r_seq (fun KS hS => ?_) | (refine hS _ _ ?_; clear hS KS) | (refine hA _ ?_; clear hA KA) | (refine hB _ ?_; clear hB KB) | refine r_block ?_))
 | ((with_reducible (first | refine r_region ?_ | refine r_cond (fun KA hA KB hB => ?_) | refine r_ret ?_ | refine r_skip ?_ | refine r_exit ?_ | refine And.intro rfl ?_ | intro b)); conv => whnf)
 | ((with_reducible refine WrapK.i64 ?_ ?_); (focus omega); conv => whnf)
 | ((with_reducible refine CallK.id ?_); (first | apply in146 | apply in152); rfl; rfl; rfl; intro A; conv => whnf)
 | (refine aq227 ?_; conv => whnf)
 | (refine ak227 ?_; conv => whnf)
 | (refine aq249 ?_; conv => whnf)
 | (refine ak249 ?_; conv => whnf)
 | ((with_reducible refine CallK.id ?_); (first | apply in103 | apply in148 | apply in226 | apply in297 | apply in229 | apply in302 | apply in235 | apply in29 | apply in66 | apply in112); rfl; rfl; rfl; intro A; conv => whnf)
 | ((with_reducible refine CallQ.at 298 ?_); refine CallQ.pu (fun w => within298 h0 w) ?_; conv => whnf)
 | ((with_reducible refine CallQ.at 298 ?_); refine CallQ.pu (fun w => withinBad298 h0 w) ?_; conv => whnf)
 | ((with_reducible refine CallK.at 230 ?_); refine CallK.pu (fun w => rangeT230 hf ht w) ?_; rw [h1]; conv => whnf)
 | ((with_reducible refine CallQ.at 298 ?_); refine CallQ.pu (fun w => within298 h2 w) ?_; conv => whnf)
 | ((with_reducible refine CallQ.at 298 ?_); refine CallQ.pu (fun w => withinBad298 h2 w) ?_; conv => whnf)
 | ((with_reducible apply OpK.more); (focus refine sok); (conv => whnf); fail_if_success guard_target =ₛ False)
 | with_reducible (first | refine Rounds.step (fun KL hL => ?_) | refine r_rounds 100 ?_)
 | (apply r_quiet; refine mixed; kernel_rfl; kernel_rfl; kernel_rfl; conv => whnf)
 | with_reducible apply_assumption -symm -exfalso)
  all_goals first | exact FinK.pu rfl | (exfalso; omega)
theorem checkResultX102 {a b c m g r : Int} {i : Bool} {x : ByteArray} : ∃ e : Int, ∀ w, Pu Tryz.prog 102 #[.agg #[.int .i64 15, .int .i64 0, .int .i64 0, .int .i64 0, .int .i64 0, .int .i64 0, .string ⟨#[]⟩, .int .i64 0, .int .i64 0, .string ⟨#[]⟩, .string ⟨#[]⟩, .int .i64 0, .string ⟨#[]⟩, .int .i64 0, .int .i64 0, .slice none 0 0, .int .i64 a, .int .i64 b, .int .i64 c, .int .i64 m, .bool i, .int .i64 g, .int .i64 r, .string x]] w (.int .i64 e) := by
  by_cases h0 : ItemOk a b c m i g
  by_cases h1 : (0 ≤ r ∧ r ≤ 18)
  by_cases h2 : x.size ≤ 65536
  refine ⟨0, fun w => ?_⟩
  rotate_left
  refine ⟨2, fun w => ?_⟩
  rotate_left
  refine ⟨2, fun w => ?_⟩
  rotate_left
  refine ⟨2, fun w => ?_⟩
  all_goals (refine enter_sound TBok Tryz.func102 rfl rfl Tryz.ntmps102 [.agg [.v (.int .i64 15), .v (.int .i64 0), .v (.int .i64 0), .v (.int .i64 0), .v (.int .i64 0), .v (.int .i64 0), .v (.string ⟨#[]⟩), .v (.int .i64 0), .v (.int .i64 0), .v (.string ⟨#[]⟩), .v (.string ⟨#[]⟩), .v (.int .i64 0), .v (.string ⟨#[]⟩), .v (.int .i64 0), .v (.int .i64 0), .v (.slice none 0 0), .v (.int .i64 a), .v (.int .i64 b), .v (.int .i64 c), .v (.int .i64 m), .v (.bool i), .v (.int .i64 g), .v (.int .i64 r), .v (.string x)]] (Kn.start w noS) rfl rfl ?_; conv => whnf)
  repeat' (first
 | with_reducible ((first | refine r_seq (fun KS hS => ?_) | (refine hS _ _ ?_; clear hS KS) | (refine hA _ ?_; clear hA KA) | (refine hB _ ?_; clear hB KB) | refine r_block ?_))
 | ((with_reducible (first | refine r_region ?_ | refine r_cond (fun KA hA KB hB => ?_) | refine r_ret ?_ | refine r_skip ?_ | refine r_exit ?_ | refine And.intro rfl ?_ | intro b)); conv => whnf)
 | ((with_reducible refine WrapK.i64 ?_ ?_); (focus omega); conv => whnf)
 | ((with_reducible refine CallK.id ?_); (first | apply in255 | apply in260 | apply in256 | apply in153 | apply in154); rfl; rfl; rfl; intro A; conv => whnf)
 | ((with_reducible refine CallK.id ?_); (first | apply in103 | apply in149 | apply in216 | apply in288 | apply in292 | apply in29 | apply in66 | apply in112 | apply in250); rfl; rfl; rfl; intro A; conv => whnf)
 | (refine aq236 ?_; conv => whnf)
 | (refine ak236 ?_; conv => whnf)
 | ((with_reducible refine CallK.at 50 ?_); refine CallK.pu (fun w => itemOk50 h0 w) ?_; conv => whnf)
 | ((with_reducible refine CallK.at 50 ?_); refine CallK.pu (fun w => itemBad50 h0 w) ?_; conv => whnf)
 | ((with_reducible refine CallQ.at 237 ?_); refine CallQ.pu (fun w => data237 h2 w) ?_; conv => whnf)
 | ((with_reducible refine CallQ.at 237 ?_); refine CallQ.pu (fun w => dataBad237 h2 w) ?_; conv => whnf)
 | ((with_reducible apply OpK.more); (focus refine sok); (conv => whnf); fail_if_success guard_target =ₛ False)
 | with_reducible (first | refine Rounds.step (fun KL hL => ?_) | refine r_rounds 100 ?_)
 | (apply r_quiet; refine mixed; kernel_rfl; kernel_rfl; kernel_rfl; conv => whnf)
 | ((first | refine if_decT (by omega) ?_ | refine if_decF (by omega) ?_); conv => whnf)
 | (refine if_dec (fun h => ?_) (fun h => ?_); all_goals (conv => whnf))
 | with_reducible apply_assumption -symm -exfalso)
  all_goals first | exact FinK.pu rfl | (exfalso; omega)
end Go.Proofs.YtbgnoibellfojaaGreatDoor

namespace Go.Proofs.YtbgnoibellfojaaGreatDoor
open Go Go.X
set_option maxRecDepth 100000
set_option maxHeartbeats 0
theorem checkStart102 {q s r d : Int} {x : ByteArray} {l : List (ByteArray × Int)} {a : Option Addr} {n cap : Nat} {w : World} (hr : RdS w 144 2 a n cap (stC l)) (hx : x.size ≤ 1099511627776) (hSt : StS l) (hl : l.length ≤ 8) : PuE Tryz.prog 102 #[.agg #[.int .i64 11, .int .i64 q, .int .i64 s, .int .i64 0, .int .i64 0, .int .i64 0, .string ⟨#[]⟩, .int .i64 0, .int .i64 0, .string ⟨#[]⟩, .string ⟨#[]⟩, .int .i64 0, .string x, .int .i64 r, .int .i64 d, .slice a n cap, .int .i64 0, .int .i64 0, .int .i64 0, .int .i64 0, .bool false, .int .i64 0, .int .i64 0, .string ⟨#[]⟩]] w (fun v => ∃ e, v = .int .i64 e) := by
  have hlen := hr.len
  rw [stC_length] at hlen
  obtain rfl : n = l.length := by omega
  have hs := fun n' r H => Sees.old (c := ⟨Tryz.prog, TB, n', w, noS, r, TBok⟩) (H := H) hr.old
  by_cases h0 : (0 : Int) ≤ q ∧ q ≤ 2147483648
  all_goals by_cases h1 : (1 : Int) ≤ s ∧ s ≤ 9999
  all_goals (refine enter_sound TBok Tryz.func102 rfl rfl Tryz.ntmps102 [.agg [.v (.int .i64 11), .v (.int .i64 q), .v (.int .i64 s), .v (.int .i64 0), .v (.int .i64 0), .v (.int .i64 0), .v (.string ⟨#[]⟩), .v (.int .i64 0), .v (.int .i64 0), .v (.string ⟨#[]⟩), .v (.string ⟨#[]⟩), .v (.int .i64 0), .v (.string x), .v (.int .i64 r), .v (.int .i64 d), .v (.slice a l.length cap), .v (.int .i64 0), .v (.int .i64 0), .v (.int .i64 0), .v (.int .i64 0), .v (.bool false), .v (.int .i64 0), .v (.int .i64 0), .v (.string ⟨#[]⟩)]] (Kn.start w noS) rfl rfl ?_; conv => whnf)
  repeat' (first
 | with_reducible ((first | refine r_seq (fun KS hS => ?_) | (refine hS _ _ ?_; clear hS KS) | (refine hA _ ?_; clear hA KA) | (refine hB _ ?_; clear hB KB) | refine r_block ?_))
 | ((with_reducible (first | refine r_region ?_ | refine r_cond (fun KA hA KB hB => ?_) | refine r_ret ?_ | refine r_skip ?_ | refine r_exit ?_ | refine And.intro rfl ?_ | intro b)); conv => whnf)
 | ((with_reducible refine WrapK.i64 ?_ ?_); (focus omega); conv => whnf)
 | ((with_reducible refine CallK.id ?_); (first | apply in240 | apply in248 | apply in146 | apply in150 | apply in151); rfl; rfl; rfl; intro A; conv => whnf)
 | (refine aq227 ?_; conv => whnf)
 | (refine ak227 ?_; conv => whnf)
 | (refine aq239 ?_; conv => whnf)
 | (refine ak239 ?_; conv => whnf)
 | ((with_reducible refine CallK.id ?_); (first | apply in103 | apply in226 | apply in297 | apply in302 | apply in29 | apply in66 | apply in112); rfl; rfl; rfl; intro A; conv => whnf)
 | ((with_reducible refine CallQ.at 298 ?_); refine CallQ.pu (fun w => within298 h0 w) ?_; conv => whnf)
 | ((with_reducible refine CallQ.at 298 ?_); refine CallQ.pu (fun w => withinBad298 h0 w) ?_; conv => whnf)
 | ((with_reducible refine CallQ.at 298 ?_); refine CallQ.pu (fun w => within298 h1 w) ?_; conv => whnf)
 | ((with_reducible refine CallQ.at 298 ?_); refine CallQ.pu (fun w => withinBad298 h1 w) ?_; conv => whnf)
 | ((with_reducible refine CallK.id ?_); refine CallK.puE (fun ms w hk => defn241 (Sees.rd (hs _ _ _) hk) hx hSt hl) ?_; rintro _ ⟨qe, rfl⟩; conv => whnf)
 | ((with_reducible apply OpK.more); (focus refine sok); (conv => whnf); fail_if_success guard_target =ₛ False)
 | with_reducible (first | refine Rounds.step (fun KL hL => ?_) | refine r_rounds 100 ?_)
 | (apply r_quiet; refine mixed; kernel_rfl; kernel_rfl; kernel_rfl; conv => whnf)
 | (refine if_ndec (fun h => ?_) (fun h => ?_); all_goals (conv => whnf))
 | with_reducible apply_assumption -symm -exfalso)
  all_goals first | exact FinK.puE ⟨_, rfl⟩ | (exfalso; omega)
theorem decStart76 {l : List UInt8} {a : Option Addr} {n cap : Nat} {w : World} (hr : RdS w 5 1 a n cap (bcells l)) (hln : l.length ≤ 1099511627776) {q s : Nat} {x : ByteArray} {u0 u1 u2 u3 : RSt} (e0 : rdS 15 (some l) = (11, u0)) (e1 : rdS 2147483648 u0 = (q, u1)) (e2 : rdS 9999 u1 = (s, u2)) (e3 : rdT u2 = (x, u3)) : PuE Tryz.prog 76 #[.slice a n cap] w (fun y => ∃ (c : CmdC) (e : Int), y = .tuple #[c.V, .int .i64 e] ∧ (e = 0 → c.Off)) := by
  have hlen := hr.len
  rw [bcells_length, Nat.mul_one] at hlen
  subst hlen
  have hs := fun n' r H => Sees.old (c := ⟨Tryz.prog, TB, n', w, noS, r, TBok⟩) (H := H) hr.old
  have rb : RB (some l) := RB.len hln
  have hne : l.length ≠ 0 := by
    intro h
    obtain rfl := List.length_eq_zero_iff.1 h
    have h1 : (rdS 15 (some [])).1 = 11 := by rw [e0]
    exact absurd h1 (by decide)
  have rb0 : RB u0 := by have := RB.S (most := 15) rb; rw [e0] at this; exact this
  have rb1 : RB u1 := by have := RB.S (most := 2147483648) rb0; rw [e1] at this; exact this
  have rb2 : RB u2 := by have := RB.S (most := 9999) rb1; rw [e2] at this; exact this
  have rb3 : RB u3 := by have := RB.T rb2; rw [e3] at this; exact this
  have hk3 : x.size ≤ 1099511627776 := by have := rdT_size u2; rw [e3] at this; dsimp only at this; omega
  have hnone : (none : RSt) ≠ some [] := by simp
  have hxl : x.data.toList.length ≤ 1099511627776 := by have := str_len x; omega
  by_cases hl : l.length ≤ 65536
  by_cases hend : u3 = some []
  subst hend
  all_goals (refine enter_sound TBok Tryz.func76 rfl rfl Tryz.ntmps76 [.v (.slice a l.length cap)] (Kn.start w noS) rfl rfl ?_; conv => whnf)
  repeat' (first
 | with_reducible ((first | refine r_seq (fun KS hS => ?_) | (refine hS _ _ ?_; clear hS KS) | (refine hA _ ?_; clear hA KA) | (refine hB _ ?_; clear hB KB) | refine r_block ?_))
 | ((with_reducible (first | refine r_region ?_ | refine r_cond (fun KA hA KB hB => ?_) | refine r_ret ?_ | refine r_skip ?_ | refine r_exit ?_ | refine And.intro rfl ?_ | intro b)); conv => whnf)
 | ((with_reducible refine WrapK.i64 ?_ ?_); (focus omega); conv => whnf)
 | ((with_reducible refine CallK.id ?_); (first | apply in103 | apply in146 | apply in150 | apply in151 | apply in226 | apply in113 | apply in244); rfl; rfl; rfl; intro A; conv => whnf)
 | (apply in300; rfl; rfl; rfl; intro A; (conv => whnf); apply r_anyM; refine mixed; kernel_rfl; kernel_rfl; intro KM hM; (conv => whnf))
 | ((with_reducible refine hM _ _ ?_); first | exact HSub.refl _ | exact (by (try dsimp only [List.cons_append, List.nil_append, den, denL]); refine SelI.spec ?_; (repeat (first | refine SelI.blk (by repeat (first | with_reducible apply Rm.head | apply Rm.tail)) ?_ | refine SelI.ext (by repeat (first | with_reducible apply Rm.head | apply Rm.tail)) ?_ | (refine SelI.blk' (by repeat (first | with_reducible apply Rm.head | apply Rm.tail)) ?_ ?_; focus rfl) | (refine SelI.ext' (by repeat (first | with_reducible apply Rm.head | apply Rm.tail)) ?_ ?_; focus rfl))); exact SelI.nil))
 | (refine ak227 ?_; conv => whnf)
 | (refine ak239 ?_; conv => whnf)
 | ((with_reducible refine CallK.id ?_); refine CallK.fresh (fun ms w hk => clone191 (l := l) (Sees.rd (hs _ _ _) hk) (by omega)) ?_; conv => whnf)
 | ((with_reducible refine CallK.id ?_); (first | refine CallK.weak (RdA.closeT (j := 0)) (CallK.frE At.head (fun w => small114e rb (by omega) e0 w) ?_) | refine CallK.frE (by repeat (first | with_reducible apply At.head | apply At.tail)) (fun w => small114e rb0 (by omega) e1 w) ?_ | refine CallK.frE (by repeat (first | with_reducible apply At.head | apply At.tail)) (fun w => small114e rb1 (by omega) e2 w) ?_ | refine CallK.frE (by repeat (first | with_reducible apply At.head | apply At.tail)) (fun w => text116e rb2 e3 w) ?_); conv => whnf)
 | ((with_reducible refine OpK.id ?_); refine OpK.cvSB rfl rfl rfl rfl rfl rfl rfl rfl ?_; conv => whnf)
 | ((with_reducible refine CallK.id ?_); (first | refine CallK.fresh (fun ms w hk => ddec245 (Sees.rd (Sees.ext (by repeat (first | with_reducible apply At.head | apply At.tail))) hk) hxl) ?_ | refine CallK.frE (by repeat (first | with_reducible apply At.head | apply At.tail)) (fun w => fail193 w) ?_ | refine CallK.frE (by repeat (first | with_reducible apply At.head | apply At.tail)) (fun w => end117bad hnone w) ?_ | refine CallK.frE (by repeat (first | with_reducible apply At.head | apply At.tail)) (fun w => end117ok w) ?_ | refine CallK.frE (by repeat (first | with_reducible apply At.head | apply At.tail)) (fun w => end117bad hend w) ?_ | (refine CallK.puE (fun ms w hk => checkStart102 (Sees.rd (Sees.ext (by repeat (first | with_reducible apply At.head | apply At.tail))) hk) (DefZ.hx _) (DefZ.hS _) (DefZ.hl _)) ?_; rintro _ ⟨qe, rfl⟩)); conv => whnf)
 | ((with_reducible apply OpK.more); (focus refine sok); (conv => whnf); fail_if_success guard_target =ₛ False)
 | with_reducible (first | refine Rounds.step (fun KL hL => ?_) | refine r_rounds 100 ?_)
 | ((with_reducible ((first | refine InAt.mk (fun K' hK => ?_) | refine AnyAt.mk (fun K' hK => ?_) | (refine hK _ ?_; clear hK K') | (refine hK _ _ ?_; clear hK K')))); conv => whnf)
 | (refine And.intro ?_ ?_; all_goals (conv => whnf))
 | ((first | refine if_decT (by omega) ?_ | refine if_decF (by omega) ?_); conv => whnf)
 | (refine if_ndec (fun h => ?_) (fun h => ?_); all_goals (conv => whnf))
 | with_reducible apply_assumption -symm -exfalso)
  all_goals first | exact FinK.puE ⟨CmdC.zero, 10, rfl, by simp⟩ | exact FinK.puE ⟨⟨11, q, s, 0, 0, 0, ⟨#[]⟩, 0, 0, ⟨#[]⟩, ⟨#[]⟩, 0, _, _, _, _, _, _, 0, 0, 0, 0, false, 0, 0, ⟨#[]⟩⟩, 0, rfl, fun _ => by simp [CmdC.Off]⟩ | (exfalso; omega)
end Go.Proofs.YtbgnoibellfojaaGreatDoor

namespace Go.Proofs.YtbgnoibellfojaaGreatDoor
open Go Go.X
set_option maxRecDepth 100000
set_option maxHeartbeats 0
theorem decMoveX76 {l : List UInt8} {a : Option Addr} {n cap : Nat} {w : World} (hr : RdS w 5 1 a n cap (bcells l)) (hln : l.length ≤ 1099511627776) {q g : Nat} {f t : ByteArray} {u0 u1 u2 u3 u4 : RSt} (e0 : rdS 15 (some l) = (14, u0)) (e1 : rdS 2147483648 u0 = (q, u1)) (e2 : rdT u1 = (f, u2)) (e3 : rdT u2 = (t, u3)) (e4 : rdS 7 u3 = (g, u4))  : ∃ v : Value, (v = .tuple #[.agg #[.int .i64 0, .int .i64 0, .int .i64 0, .int .i64 0, .int .i64 0, .int .i64 0, .string ⟨#[]⟩, .int .i64 0, .int .i64 0, .string ⟨#[]⟩, .string ⟨#[]⟩, .int .i64 0, .string ⟨#[]⟩, .int .i64 0, .int .i64 0, .slice none 0 0, .int .i64 0, .int .i64 0, .int .i64 0, .int .i64 0, .bool false, .int .i64 0, .int .i64 0, .string ⟨#[]⟩], .int .i64 10] ∨ v = .tuple #[.agg #[.int .i64 14, .int .i64 (q : Nat), .int .i64 0, .int .i64 0, .int .i64 0, .int .i64 0, .string ⟨#[]⟩, .int .i64 0, .int .i64 0, .string f, .string t, .int .i64 (g : Nat), .string ⟨#[]⟩, .int .i64 0, .int .i64 0, .slice none 0 0, .int .i64 0, .int .i64 0, .int .i64 0, .int .i64 0, .bool false, .int .i64 0, .int .i64 0, .string ⟨#[]⟩], .int .i64 0]) ∧ Pu Tryz.prog 76 #[.slice a n cap] w v := by
  have hlen := hr.len
  rw [bcells_length, Nat.mul_one] at hlen
  subst hlen
  have hs := fun n' r H => Sees.old (c := ⟨Tryz.prog, TB, n', w, noS, r, TBok⟩) (H := H) hr.old
  have rb : RB (some l) := RB.len hln
  have hne : l.length ≠ 0 := by
    intro h
    obtain rfl := List.length_eq_zero_iff.1 h
    have h1 : (rdS 15 (some [])).1 = 14 := by rw [e0]
    exact absurd h1 (by decide)
  have rb0 : RB u0 := by have := RB.S (most := 15) rb; rw [e0] at this; exact this
  have rb1 : RB u1 := by have := RB.S (most := 2147483648) rb0; rw [e1] at this; exact this
  have rb2 : RB u2 := by have := RB.T rb1; rw [e2] at this; exact this
  have hk2 : f.size ≤ 1099511627776 := by have := rdT_size u1; rw [e2] at this; dsimp only at this; omega
  have rb3 : RB u3 := by have := RB.T rb2; rw [e3] at this; exact this
  have hk3 : t.size ≤ 1099511627776 := by have := rdT_size u2; rw [e3] at this; dsimp only at this; omega
  have rb4 : RB u4 := by have := RB.S (most := 7) rb3; rw [e4] at this; exact this
  obtain ⟨e, hchk⟩ := checkMoveX102 (q := q) (g := g) (f := f) (t := t) hk2 hk3
  by_cases hl : l.length ≤ 65536
  by_cases hend : u4 = some []
  subst hend
  by_cases he0 : e = 0
  subst he0
  refine ⟨_, .inr rfl, ?_⟩
  rotate_left
  refine ⟨_, .inl rfl, ?_⟩
  rotate_left
  refine ⟨_, .inl rfl, ?_⟩
  rotate_left
  refine ⟨_, .inl rfl, ?_⟩
  all_goals (refine enter_sound TBok Tryz.func76 rfl rfl Tryz.ntmps76 [.v (.slice a l.length cap)] (Kn.start w noS) rfl rfl ?_; conv => whnf)
  repeat' (first
 | with_reducible ((first | refine r_seq (fun KS hS => ?_) | (refine hS _ _ ?_; clear hS KS) | (refine hA _ ?_; clear hA KA) | (refine hB _ ?_; clear hB KB) | refine r_block ?_))
 | ((with_reducible (first | refine r_region ?_ | refine r_cond (fun KA hA KB hB => ?_) | refine r_ret ?_ | refine r_skip ?_ | refine r_exit ?_ | refine And.intro rfl ?_ | intro b)); conv => whnf)
 | ((with_reducible refine WrapK.i64 ?_ ?_); (focus omega); conv => whnf)
 | ((with_reducible refine CallK.id ?_); (first | apply in103 | apply in148 | apply in146 | apply in152 | apply in226 | apply in113 | apply in232); rfl; rfl; rfl; intro A; conv => whnf)
 | (apply in300; rfl; rfl; rfl; intro A; (conv => whnf); apply r_anyM; refine mixed; kernel_rfl; kernel_rfl; intro KM hM; (conv => whnf))
 | ((with_reducible refine hM _ _ ?_); first | exact HSub.refl _ | exact (by (try dsimp only [List.cons_append, List.nil_append, den, denL]); refine SelI.spec ?_; (repeat (first | refine SelI.blk (by repeat (first | with_reducible apply Rm.head | apply Rm.tail)) ?_ | refine SelI.ext (by repeat (first | with_reducible apply Rm.head | apply Rm.tail)) ?_ | (refine SelI.blk' (by repeat (first | with_reducible apply Rm.head | apply Rm.tail)) ?_ ?_; focus rfl) | (refine SelI.ext' (by repeat (first | with_reducible apply Rm.head | apply Rm.tail)) ?_ ?_; focus rfl))); exact SelI.nil))
 | (refine ak227 ?_; conv => whnf)
 | (refine ak249 ?_; conv => whnf)
 | ((with_reducible refine CallK.id ?_); refine CallK.fresh (fun ms w hk => clone191 (l := l) (Sees.rd (hs _ _ _) hk) (by omega)) ?_; conv => whnf)
 | ((with_reducible refine CallK.id ?_); (first | refine CallK.weak (RdA.closeT (j := 0)) (CallK.frE At.head (fun w => small114e rb (by omega) e0 w) ?_) | refine CallK.frE (by repeat (first | with_reducible apply At.head | apply At.tail)) (fun w => small114e rb0 (by omega) e1 w) ?_ | refine CallK.frE (by repeat (first | with_reducible apply At.head | apply At.tail)) (fun w => text116e rb1 e2 w) ?_ | refine CallK.frE (by repeat (first | with_reducible apply At.head | apply At.tail)) (fun w => text116e rb2 e3 w) ?_ | refine CallK.frE (by repeat (first | with_reducible apply At.head | apply At.tail)) (fun w => small114e rb3 (by omega) e4 w) ?_ | refine CallK.frE (by repeat (first | with_reducible apply At.head | apply At.tail)) (fun w => end117ok w) ?_ | refine CallK.frE (by repeat (first | with_reducible apply At.head | apply At.tail)) (fun w => end117bad hend w) ?_ | refine CallK.pu (fun w => hchk w) ?_); conv => whnf)
 | ((with_reducible apply OpK.more); (focus refine sok); (conv => whnf); fail_if_success guard_target =ₛ False)
 | with_reducible (first | refine Rounds.step (fun KL hL => ?_) | refine r_rounds 100 ?_)
 | ((with_reducible ((first | refine InAt.mk (fun K' hK => ?_) | refine AnyAt.mk (fun K' hK => ?_) | (refine hK _ ?_; clear hK K') | (refine hK _ _ ?_; clear hK K')))); conv => whnf)
 | (refine And.intro ?_ ?_; all_goals (conv => whnf))
 | ((first | refine if_decT (by omega) ?_ | refine if_decF (by omega) ?_ | refine if_ndecT (by omega) ?_); conv => whnf)
 | with_reducible apply_assumption -symm -exfalso)
  all_goals first | exact FinK.pu rfl | (exfalso; omega)
theorem decResAX76 {l : List UInt8} {a : Option Addr} {n cap : Nat} {w : World} (hr : RdS w 5 1 a n cap (bcells l)) (hln : l.length ≤ 1099511627776) {nn : Nat} {a0 b0 c0 m0 g0 : Int} {i0 : Bool} {r : Nat} {x : ByteArray} {u0 u1 u2 u3 : RSt} (e0 : rdS 15 (some l) = (15, u0)) (e1 : rdS 2147483648 u0 = (nn, u1)) (e2 : rdS 18 u1 = (r, u2)) (e3 : rdT u2 = (x, u3)) (hfrom : ∀ w, Pu Tryz.prog 75 #[.int .i64 (nn : Nat)] w (.tuple #[.agg #[.int .i64 a0, .int .i64 b0, .int .i64 c0, .int .i64 m0, .bool i0, .int .i64 g0], .int .i64 0])) : ∃ v : Value, (v = .tuple #[.agg #[.int .i64 0, .int .i64 0, .int .i64 0, .int .i64 0, .int .i64 0, .int .i64 0, .string ⟨#[]⟩, .int .i64 0, .int .i64 0, .string ⟨#[]⟩, .string ⟨#[]⟩, .int .i64 0, .string ⟨#[]⟩, .int .i64 0, .int .i64 0, .slice none 0 0, .int .i64 0, .int .i64 0, .int .i64 0, .int .i64 0, .bool false, .int .i64 0, .int .i64 0, .string ⟨#[]⟩], .int .i64 10] ∨ v = .tuple #[.agg #[.int .i64 15, .int .i64 0, .int .i64 0, .int .i64 0, .int .i64 0, .int .i64 0, .string ⟨#[]⟩, .int .i64 0, .int .i64 0, .string ⟨#[]⟩, .string ⟨#[]⟩, .int .i64 0, .string ⟨#[]⟩, .int .i64 0, .int .i64 0, .slice none 0 0, .int .i64 a0, .int .i64 b0, .int .i64 c0, .int .i64 m0, .bool i0, .int .i64 g0, .int .i64 (r : Nat), .string x], .int .i64 0]) ∧ Pu Tryz.prog 76 #[.slice a n cap] w v := by
  have hlen := hr.len
  rw [bcells_length, Nat.mul_one] at hlen
  subst hlen
  have hs := fun n' r H => Sees.old (c := ⟨Tryz.prog, TB, n', w, noS, r, TBok⟩) (H := H) hr.old
  have rb : RB (some l) := RB.len hln
  have hne : l.length ≠ 0 := by
    intro h
    obtain rfl := List.length_eq_zero_iff.1 h
    have h1 : (rdS 15 (some [])).1 = 15 := by rw [e0]
    exact absurd h1 (by decide)
  have rb0 : RB u0 := by have := RB.S (most := 15) rb; rw [e0] at this; exact this
  have rb1 : RB u1 := by have := RB.S (most := 2147483648) rb0; rw [e1] at this; exact this
  have rb2 : RB u2 := by have := RB.S (most := 18) rb1; rw [e2] at this; exact this
  have rb3 : RB u3 := by have := RB.T rb2; rw [e3] at this; exact this
  have hk3 : x.size ≤ 1099511627776 := by have := rdT_size u2; rw [e3] at this; dsimp only at this; omega
  obtain ⟨e, hchk⟩ := checkResultX102 (a := a0) (b := b0) (c := c0) (m := m0) (i := i0) (g := g0) (r := r) (x := x)
  by_cases hl : l.length ≤ 65536
  by_cases hend : u3 = some []
  subst hend
  by_cases he0 : e = 0
  subst he0
  refine ⟨_, .inr rfl, ?_⟩
  rotate_left
  refine ⟨_, .inl rfl, ?_⟩
  rotate_left
  refine ⟨_, .inl rfl, ?_⟩
  rotate_left
  refine ⟨_, .inl rfl, ?_⟩
  all_goals (refine enter_sound TBok Tryz.func76 rfl rfl Tryz.ntmps76 [.v (.slice a l.length cap)] (Kn.start w noS) rfl rfl ?_; conv => whnf)
  repeat' (first
 | with_reducible ((first | refine r_seq (fun KS hS => ?_) | (refine hS _ _ ?_; clear hS KS) | (refine hA _ ?_; clear hA KA) | (refine hB _ ?_; clear hB KB) | refine r_block ?_))
 | ((with_reducible (first | refine r_region ?_ | refine r_cond (fun KA hA KB hB => ?_) | refine r_ret ?_ | refine r_skip ?_ | refine r_exit ?_ | refine And.intro rfl ?_ | intro b)); conv => whnf)
 | ((with_reducible refine WrapK.i64 ?_ ?_); (focus omega); conv => whnf)
 | ((with_reducible refine CallK.id ?_); (first | apply in103 | apply in149 | apply in153 | apply in154 | apply in216 | apply in113 | apply in252 | apply in258 | apply in290); rfl; rfl; rfl; intro A; conv => whnf)
 | (refine ak236 ?_; conv => whnf)
 | ((with_reducible refine CallK.id ?_); refine CallK.fresh (fun ms w hk => clone191 (l := l) (Sees.rd (hs _ _ _) hk) (by omega)) ?_; conv => whnf)
 | ((with_reducible refine CallK.id ?_); (first | refine CallK.weak (RdA.closeT (j := 0)) (CallK.frE At.head (fun w => small114e rb (by omega) e0 w) ?_) | refine CallK.frE (by repeat (first | with_reducible apply At.head | apply At.tail)) (fun w => small114e rb0 (by omega) e1 w) ?_ | refine CallK.frE (by repeat (first | with_reducible apply At.head | apply At.tail)) (fun w => small114e rb1 (by omega) e2 w) ?_ | refine CallK.frE (by repeat (first | with_reducible apply At.head | apply At.tail)) (fun w => text116e rb2 e3 w) ?_ | refine CallK.pu (fun w => hfrom w) ?_ | refine CallK.frE (by repeat (first | with_reducible apply At.head | apply At.tail)) (fun w => end117ok w) ?_ | refine CallK.frE (by repeat (first | with_reducible apply At.head | apply At.tail)) (fun w => end117bad hend w) ?_ | refine CallK.pu (fun w => hchk w) ?_); conv => whnf)
 | ((with_reducible apply OpK.more); (focus refine sok); (conv => whnf); fail_if_success guard_target =ₛ False)
 | with_reducible (first | refine Rounds.step (fun KL hL => ?_) | refine r_rounds 100 ?_)
 | ((first | refine if_decT (by omega) ?_ | refine if_decF (by omega) ?_ | refine if_ndecT (by omega) ?_); conv => whnf)
 | with_reducible apply_assumption -symm -exfalso)
  all_goals first | exact FinK.pu rfl | (exfalso; omega)
theorem decResBX76 {l : List UInt8} {a : Option Addr} {n cap : Nat} {w : World} (hr : RdS w 5 1 a n cap (bcells l)) (hln : l.length ≤ 1099511627776) {nn : Nat} {a0 b0 c0 m0 g0 er : Int} {i0 : Bool} {r : Nat} {x : ByteArray} {u0 u1 u2 u3 u4 : RSt} (e0 : rdS 15 (some l) = (15, u0)) (e1 : rdS 2147483648 u0 = (nn, u1)) (e2 : u2 = none) (e3 : rdS 18 u2 = (r, u3)) (e4 : rdT u3 = (x, u4)) (her : er ≠ 0) (hfrom : ∀ w, Pu Tryz.prog 75 #[.int .i64 (nn : Nat)] w (.tuple #[.agg #[.int .i64 a0, .int .i64 b0, .int .i64 c0, .int .i64 m0, .bool i0, .int .i64 g0], .int .i64 er])) : ∃ v : Value, (v = .tuple #[.agg #[.int .i64 0, .int .i64 0, .int .i64 0, .int .i64 0, .int .i64 0, .int .i64 0, .string ⟨#[]⟩, .int .i64 0, .int .i64 0, .string ⟨#[]⟩, .string ⟨#[]⟩, .int .i64 0, .string ⟨#[]⟩, .int .i64 0, .int .i64 0, .slice none 0 0, .int .i64 0, .int .i64 0, .int .i64 0, .int .i64 0, .bool false, .int .i64 0, .int .i64 0, .string ⟨#[]⟩], .int .i64 10] ∨ v = .tuple #[.agg #[.int .i64 15, .int .i64 0, .int .i64 0, .int .i64 0, .int .i64 0, .int .i64 0, .string ⟨#[]⟩, .int .i64 0, .int .i64 0, .string ⟨#[]⟩, .string ⟨#[]⟩, .int .i64 0, .string ⟨#[]⟩, .int .i64 0, .int .i64 0, .slice none 0 0, .int .i64 a0, .int .i64 b0, .int .i64 c0, .int .i64 m0, .bool i0, .int .i64 g0, .int .i64 (r : Nat), .string x], .int .i64 0]) ∧ Pu Tryz.prog 76 #[.slice a n cap] w v := by
  have hlen := hr.len
  rw [bcells_length, Nat.mul_one] at hlen
  subst hlen
  have hs := fun n' r H => Sees.old (c := ⟨Tryz.prog, TB, n', w, noS, r, TBok⟩) (H := H) hr.old
  have rb : RB (some l) := RB.len hln
  have hne : l.length ≠ 0 := by
    intro h
    obtain rfl := List.length_eq_zero_iff.1 h
    have h1 : (rdS 15 (some [])).1 = 15 := by rw [e0]
    exact absurd h1 (by decide)
  have rb0 : RB u0 := by have := RB.S (most := 15) rb; rw [e0] at this; exact this
  have rb1 : RB u1 := by have := RB.S (most := 2147483648) rb0; rw [e1] at this; exact this
  have rb2 : RB u2 := by rw [e2]; exact RB.none
  have rb3 : RB u3 := by have := RB.S (most := 18) rb2; rw [e3] at this; exact this
  have rb4 : RB u4 := by have := RB.T rb3; rw [e4] at this; exact this
  have hk4 : x.size ≤ 1099511627776 := by have := rdT_size u3; rw [e4] at this; dsimp only at this; omega
  obtain ⟨e, hchk⟩ := checkResultX102 (a := a0) (b := b0) (c := c0) (m := m0) (i := i0) (g := g0) (r := r) (x := x)
  by_cases hl : l.length ≤ 65536
  by_cases hend : u4 = some []
  subst hend
  by_cases he0 : e = 0
  subst he0
  refine ⟨_, .inr rfl, ?_⟩
  rotate_left
  refine ⟨_, .inl rfl, ?_⟩
  rotate_left
  refine ⟨_, .inl rfl, ?_⟩
  rotate_left
  refine ⟨_, .inl rfl, ?_⟩
  all_goals (refine enter_sound TBok Tryz.func76 rfl rfl Tryz.ntmps76 [.v (.slice a l.length cap)] (Kn.start w noS) rfl rfl ?_; conv => whnf)
  repeat' (first
 | with_reducible ((first | refine r_seq (fun KS hS => ?_) | (refine hS _ _ ?_; clear hS KS) | (refine hA _ ?_; clear hA KA) | (refine hB _ ?_; clear hB KB) | refine r_block ?_))
 | ((with_reducible (first | refine r_region ?_ | refine r_cond (fun KA hA KB hB => ?_) | refine r_ret ?_ | refine r_skip ?_ | refine r_exit ?_ | refine And.intro rfl ?_ | intro b)); conv => whnf)
 | ((with_reducible refine WrapK.i64 ?_ ?_); (focus omega); conv => whnf)
 | ((with_reducible refine CallK.id ?_); (first | apply in103 | apply in149 | apply in153 | apply in154 | apply in216 | apply in113 | apply in252 | apply in258 | apply in290); rfl; rfl; rfl; intro A; conv => whnf)
 | (refine ak236 ?_; conv => whnf)
 | ((with_reducible refine CallK.id ?_); refine CallK.fresh (fun ms w hk => clone191 (l := l) (Sees.rd (hs _ _ _) hk) (by omega)) ?_; conv => whnf)
 | ((with_reducible refine CallK.id ?_); (first | refine CallK.weak (RdA.closeT (j := 0)) (CallK.frE At.head (fun w => small114e rb (by omega) e0 w) ?_) | refine CallK.frE (by repeat (first | with_reducible apply At.head | apply At.tail)) (fun w => small114e rb0 (by omega) e1 w) ?_ | (refine CallK.frE (by repeat (first | with_reducible apply At.head | apply At.tail)) (fun w => fail193 w) ?_; rw [← e2]) | refine CallK.frE (by repeat (first | with_reducible apply At.head | apply At.tail)) (fun w => small114e rb2 (by omega) e3 w) ?_ | refine CallK.frE (by repeat (first | with_reducible apply At.head | apply At.tail)) (fun w => text116e rb3 e4 w) ?_ | refine CallK.pu (fun w => hfrom w) ?_ | refine CallK.frE (by repeat (first | with_reducible apply At.head | apply At.tail)) (fun w => end117ok w) ?_ | refine CallK.frE (by repeat (first | with_reducible apply At.head | apply At.tail)) (fun w => end117bad hend w) ?_ | refine CallK.pu (fun w => hchk w) ?_); conv => whnf)
 | ((with_reducible apply OpK.more); (focus refine sok); (conv => whnf); fail_if_success guard_target =ₛ False)
 | with_reducible (first | refine Rounds.step (fun KL hL => ?_) | refine r_rounds 100 ?_)
 | ((first | refine if_decT (by omega) ?_ | refine if_decF (by omega) ?_ | refine if_ndecT (by omega) ?_); conv => whnf)
 | with_reducible apply_assumption -symm -exfalso)
  all_goals first | exact FinK.pu rfl | (exfalso; omega)
end Go.Proofs.YtbgnoibellfojaaGreatDoor

namespace Go.Proofs.YtbgnoibellfojaaGreatDoor
open Go Go.X
set_option maxRecDepth 100000
set_option maxHeartbeats 0
theorem checkNone102 {kk : Nat} (hk : 5 ≤ kk ∧ kk ≤ 10) (w : World) : Pu Tryz.prog 102 #[.agg #[.int .i64 (kk : Nat), .int .i64 0, .int .i64 0, .int .i64 0, .int .i64 0, .int .i64 0, .string ⟨#[]⟩, .int .i64 0, .int .i64 0, .string ⟨#[]⟩, .string ⟨#[]⟩, .int .i64 0, .string ⟨#[]⟩, .int .i64 0, .int .i64 0, .slice none 0 0, .int .i64 0, .int .i64 0, .int .i64 0, .int .i64 0, .bool false, .int .i64 0, .int .i64 0, .string ⟨#[]⟩]] w (.int .i64 2) := by
  refine enter_sound TBok Tryz.func102 rfl rfl Tryz.ntmps102 [.agg [.v (.int .i64 (kk : Nat)), .v (.int .i64 0), .v (.int .i64 0), .v (.int .i64 0), .v (.int .i64 0), .v (.int .i64 0), .v (.string ⟨#[]⟩), .v (.int .i64 0), .v (.int .i64 0), .v (.string ⟨#[]⟩), .v (.string ⟨#[]⟩), .v (.int .i64 0), .v (.string ⟨#[]⟩), .v (.int .i64 0), .v (.int .i64 0), .v (.slice none 0 0), .v (.int .i64 0), .v (.int .i64 0), .v (.int .i64 0), .v (.int .i64 0), .v (.bool false), .v (.int .i64 0), .v (.int .i64 0), .v (.string ⟨#[]⟩)]] (Kn.start w noS) rfl rfl ?_
  conv => whnf
  repeat' (first
 | with_reducible ((first | refine r_seq (fun KS hS => ?_) | (refine hS _ _ ?_; clear hS KS) | (refine hA _ ?_; clear hA KA) | (refine hB _ ?_; clear hB KB) | refine r_block ?_))
 | ((with_reducible (first | refine r_region ?_ | refine r_cond (fun KA hA KB hB => ?_) | refine r_ret ?_ | refine r_skip ?_ | refine r_exit ?_ | refine And.intro rfl ?_ | intro b)); conv => whnf)
 | ((with_reducible refine CallK.id ?_); apply in103; rfl; rfl; rfl; intro A; conv => whnf)
 | with_reducible (first | refine Rounds.step (fun KL hL => ?_) | refine r_rounds 100 ?_)
 | (refine if_decF (by omega) ?_; conv => whnf)
 | with_reducible apply_assumption -symm -exfalso)
  all_goals first | exact FinK.pu rfl | (exfalso; omega)
theorem decNone76 {l : List UInt8} {a : Option Addr} {n cap : Nat} {w : World} (hr : RdS w 5 1 a n cap (bcells l)) (hln : l.length ≤ 1099511627776) {kk : Nat} {u0 : RSt} (e0 : rdS 15 (some l) = (kk, u0)) (hk : 5 ≤ kk ∧ kk ≤ 10) : Pu Tryz.prog 76 #[.slice a n cap] w (.tuple #[.agg #[.int .i64 0, .int .i64 0, .int .i64 0, .int .i64 0, .int .i64 0, .int .i64 0, .string ⟨#[]⟩, .int .i64 0, .int .i64 0, .string ⟨#[]⟩, .string ⟨#[]⟩, .int .i64 0, .string ⟨#[]⟩, .int .i64 0, .int .i64 0, .slice none 0 0, .int .i64 0, .int .i64 0, .int .i64 0, .int .i64 0, .bool false, .int .i64 0, .int .i64 0, .string ⟨#[]⟩], .int .i64 10]) := by
  have hne0 : ¬ kk = (rdS 15 (some [])).1 := by
    intro h
    have : (rdS 15 (some [])).1 = 0 := by decide
    omega
  have hlen := hr.len
  rw [bcells_length, Nat.mul_one] at hlen
  subst hlen
  have hs := fun n' r H => Sees.old (c := ⟨Tryz.prog, TB, n', w, noS, r, TBok⟩) (H := H) hr.old
  have rb : RB (some l) := RB.len hln
  have hne : l.length ≠ 0 := by
    intro h
    obtain rfl := List.length_eq_zero_iff.1 h
    have h1 : (rdS 15 (some [])).1 = kk := by rw [e0]
    exact hne0 h1.symm
  have rb0 : RB u0 := by have := RB.S (most := 15) rb; rw [e0] at this; exact this
  have hchk := fun w => checkNone102 (kk := kk) hk w
  by_cases hl : l.length ≤ 65536
  by_cases hend : u0 = some []
  subst hend
  all_goals (refine enter_sound TBok Tryz.func76 rfl rfl Tryz.ntmps76 [.v (.slice a l.length cap)] (Kn.start w noS) rfl rfl ?_; conv => whnf)
  repeat' (first
 | with_reducible ((first | refine r_seq (fun KS hS => ?_) | (refine hS _ _ ?_; clear hS KS) | (refine hA _ ?_; clear hA KA) | (refine hB _ ?_; clear hB KB) | refine r_block ?_))
 | ((with_reducible (first | refine r_region ?_ | refine r_cond (fun KA hA KB hB => ?_) | refine r_ret ?_ | refine r_skip ?_ | refine r_exit ?_ | refine And.intro rfl ?_ | intro b)); conv => whnf)
 | ((with_reducible refine CallK.id ?_); (first | apply in103 | apply in113); rfl; rfl; rfl; intro A; conv => whnf)
 | ((with_reducible refine CallK.id ?_); refine CallK.fresh (fun ms w hk => clone191 (l := l) (Sees.rd (hs _ _ _) hk) (by omega)) ?_; conv => whnf)
 | ((with_reducible refine CallK.id ?_); (first | refine CallK.weak (RdA.closeT (j := 0)) (CallK.frE At.head (fun w => small114e rb (by omega) e0 w) ?_) | refine CallK.frE (by repeat (first | with_reducible apply At.head | apply At.tail)) (fun w => end117ok w) ?_ | refine CallK.frE (by repeat (first | with_reducible apply At.head | apply At.tail)) (fun w => end117bad hend w) ?_ | refine CallK.pu (fun w => hchk w) ?_); conv => whnf)
 | with_reducible (first | refine Rounds.step (fun KL hL => ?_) | refine r_rounds 100 ?_)
 | ((first | refine if_decT (by omega) ?_ | refine if_decF (by omega) ?_); conv => whnf)
 | with_reducible apply_assumption -symm -exfalso)
  all_goals first | exact FinK.pu rfl | (exfalso; omega)
theorem decZero76 {l : List UInt8} {a : Option Addr} {n cap : Nat} {w : World} (hr : RdS w 5 1 a n cap (bcells l)) (hln : l.length ≤ 1099511627776) {u0 : RSt} (e0 : rdS 15 (some l) = (0, u0)) (hne : l.length ≠ 0) : Pu Tryz.prog 76 #[.slice a n cap] w (.tuple #[.agg #[.int .i64 0, .int .i64 0, .int .i64 0, .int .i64 0, .int .i64 0, .int .i64 0, .string ⟨#[]⟩, .int .i64 0, .int .i64 0, .string ⟨#[]⟩, .string ⟨#[]⟩, .int .i64 0, .string ⟨#[]⟩, .int .i64 0, .int .i64 0, .slice none 0 0, .int .i64 0, .int .i64 0, .int .i64 0, .int .i64 0, .bool false, .int .i64 0, .int .i64 0, .string ⟨#[]⟩], .int .i64 10]) := by
  have hlen := hr.len
  rw [bcells_length, Nat.mul_one] at hlen
  subst hlen
  have hs := fun n' r H => Sees.old (c := ⟨Tryz.prog, TB, n', w, noS, r, TBok⟩) (H := H) hr.old
  have rb : RB (some l) := RB.len hln
  all_goals (refine enter_sound TBok Tryz.func76 rfl rfl Tryz.ntmps76 [.v (.slice a l.length cap)] (Kn.start w noS) rfl rfl ?_; conv => whnf)
  repeat' (first
 | with_reducible ((first | refine r_seq (fun KS hS => ?_) | (refine hS _ _ ?_; clear hS KS) | (refine hA _ ?_; clear hA KA) | (refine hB _ ?_; clear hB KB) | refine r_block ?_))
 | ((with_reducible (first | refine r_region ?_ | refine r_cond (fun KA hA KB hB => ?_) | refine r_ret ?_ | refine r_skip ?_ | refine r_exit ?_ | refine And.intro rfl ?_ | intro b)); conv => whnf)
 | ((with_reducible refine CallK.id ?_); (first | apply in103 | apply in113); rfl; rfl; rfl; intro A; conv => whnf)
 | ((with_reducible refine CallK.id ?_); refine CallK.fresh (fun ms w hk => clone191 (l := l) (Sees.rd (hs _ _ _) hk) (by omega)) ?_; conv => whnf)
 | ((with_reducible refine CallK.id ?_); refine CallK.weak (RdA.closeT (j := 0)) (CallK.frE At.head (fun w => small114e rb (by omega) e0 w) ?_); conv => whnf)
 | with_reducible (first | refine Rounds.step (fun KL hL => ?_) | refine r_rounds 100 ?_)
 | (refine if_decF (by omega) ?_; conv => whnf)
 | (refine if_dec (fun h => ?_) (fun h => ?_); all_goals (conv => whnf))
 | with_reducible apply_assumption -symm -exfalso)
  all_goals first | exact FinK.pu rfl | (exfalso; omega)
theorem decNil76 {a : Option Addr} {cap : Nat} {w : World} : Pu Tryz.prog 76 #[.slice a 0 cap] w (.tuple #[.agg #[.int .i64 0, .int .i64 0, .int .i64 0, .int .i64 0, .int .i64 0, .int .i64 0, .string ⟨#[]⟩, .int .i64 0, .int .i64 0, .string ⟨#[]⟩, .string ⟨#[]⟩, .int .i64 0, .string ⟨#[]⟩, .int .i64 0, .int .i64 0, .slice none 0 0, .int .i64 0, .int .i64 0, .int .i64 0, .int .i64 0, .bool false, .int .i64 0, .int .i64 0, .string ⟨#[]⟩], .int .i64 0]) := by
  refine enter_sound TBok Tryz.func76 rfl rfl Tryz.ntmps76 [.v (.slice a 0 cap)] (Kn.start w noS) rfl rfl ?_
  conv => whnf
  repeat' (first
 | with_reducible ((first | refine r_seq (fun KS hS => ?_) | (refine hS _ _ ?_; clear hS KS) | (refine hA _ ?_; clear hA KA)))
 | ((with_reducible (first | refine r_region ?_ | refine r_cond (fun KA hA KB hB => ?_) | refine r_ret ?_ | refine And.intro rfl ?_ | intro b)); conv => whnf))
  all_goals exact FinK.pu rfl
end Go.Proofs.YtbgnoibellfojaaGreatDoor

namespace Go.Proofs.YtbgnoibellfojaaGreatDoor
open Go Go.X
set_option maxRecDepth 100000
set_option maxHeartbeats 0
theorem decReadX76 {l : List UInt8} {a : Option Addr} {n cap : Nat} {w : World} (hr : RdS w 5 1 a n cap (bcells l)) (hln : l.length ≤ 1099511627776) {q : Nat} {k : ByteArray} {u0 u1 u2 : RSt} (e0 : rdS 15 (some l) = (2, u0)) (e1 : rdS 2147483648 u0 = (q, u1)) (e2 : rdT u1 = (k, u2))  : ∃ v : Value, (v = .tuple #[.agg #[.int .i64 0, .int .i64 0, .int .i64 0, .int .i64 0, .int .i64 0, .int .i64 0, .string ⟨#[]⟩, .int .i64 0, .int .i64 0, .string ⟨#[]⟩, .string ⟨#[]⟩, .int .i64 0, .string ⟨#[]⟩, .int .i64 0, .int .i64 0, .slice none 0 0, .int .i64 0, .int .i64 0, .int .i64 0, .int .i64 0, .bool false, .int .i64 0, .int .i64 0, .string ⟨#[]⟩], .int .i64 10] ∨ v = .tuple #[.agg #[.int .i64 2, .int .i64 (q : Nat), .int .i64 0, .int .i64 0, .int .i64 0, .int .i64 0, .string k, .int .i64 0, .int .i64 0, .string ⟨#[]⟩, .string ⟨#[]⟩, .int .i64 0, .string ⟨#[]⟩, .int .i64 0, .int .i64 0, .slice none 0 0, .int .i64 0, .int .i64 0, .int .i64 0, .int .i64 0, .bool false, .int .i64 0, .int .i64 0, .string ⟨#[]⟩], .int .i64 0]) ∧ Pu Tryz.prog 76 #[.slice a n cap] w v := by
  have hlen := hr.len
  rw [bcells_length, Nat.mul_one] at hlen
  subst hlen
  have hs := fun n' r H => Sees.old (c := ⟨Tryz.prog, TB, n', w, noS, r, TBok⟩) (H := H) hr.old
  have rb : RB (some l) := RB.len hln
  have hne : l.length ≠ 0 := by
    intro h
    obtain rfl := List.length_eq_zero_iff.1 h
    have h1 : (rdS 15 (some [])).1 = 2 := by rw [e0]
    exact absurd h1 (by decide)
  have rb0 : RB u0 := by have := RB.S (most := 15) rb; rw [e0] at this; exact this
  have rb1 : RB u1 := by have := RB.S (most := 2147483648) rb0; rw [e1] at this; exact this
  have rb2 : RB u2 := by have := RB.T rb1; rw [e2] at this; exact this
  have hk2 : k.size ≤ 1099511627776 := by have := rdT_size u1; rw [e2] at this; dsimp only at this; omega
  obtain ⟨e, hchk⟩ := checkReadX102 (q := q) (k := k) hk2
  by_cases hl : l.length ≤ 65536
  by_cases hend : u2 = some []
  subst hend
  by_cases he0 : e = 0
  subst he0
  refine ⟨_, .inr rfl, ?_⟩
  rotate_left
  refine ⟨_, .inl rfl, ?_⟩
  rotate_left
  refine ⟨_, .inl rfl, ?_⟩
  rotate_left
  refine ⟨_, .inl rfl, ?_⟩
  all_goals (refine enter_sound TBok Tryz.func76 rfl rfl Tryz.ntmps76 [.v (.slice a l.length cap)] (Kn.start w noS) rfl rfl ?_; conv => whnf)
  repeat' (first
 | with_reducible ((first | refine r_seq (fun KS hS => ?_) | (refine hS _ _ ?_; clear hS KS) | (refine hA _ ?_; clear hA KA) | (refine hB _ ?_; clear hB KB) | refine r_block ?_))
 | ((with_reducible (first | refine r_region ?_ | refine r_cond (fun KA hA KB hB => ?_) | refine r_ret ?_ | refine r_skip ?_ | refine r_exit ?_ | refine And.intro rfl ?_ | intro b)); conv => whnf)
 | ((with_reducible refine WrapK.i64 ?_ ?_); (focus omega); conv => whnf)
 | ((with_reducible refine CallK.id ?_); (first | apply in103 | apply in144 | apply in146 | apply in216 | apply in226 | apply in113 | apply in290); rfl; rfl; rfl; intro A; conv => whnf)
 | (apply in300; rfl; rfl; rfl; intro A; (conv => whnf); apply r_anyM; refine mixed; kernel_rfl; kernel_rfl; intro KM hM; (conv => whnf))
 | ((with_reducible refine hM _ _ ?_); first | exact HSub.refl _ | exact (by (try dsimp only [List.cons_append, List.nil_append, den, denL]); refine SelI.spec ?_; (repeat (first | refine SelI.blk (by repeat (first | with_reducible apply Rm.head | apply Rm.tail)) ?_ | refine SelI.ext (by repeat (first | with_reducible apply Rm.head | apply Rm.tail)) ?_ | (refine SelI.blk' (by repeat (first | with_reducible apply Rm.head | apply Rm.tail)) ?_ ?_; focus rfl) | (refine SelI.ext' (by repeat (first | with_reducible apply Rm.head | apply Rm.tail)) ?_ ?_; focus rfl))); exact SelI.nil))
 | (refine ak217 ?_; conv => whnf)
 | (refine ak227 ?_; conv => whnf)
 | ((with_reducible refine CallK.id ?_); refine CallK.fresh (fun ms w hk => clone191 (l := l) (Sees.rd (hs _ _ _) hk) (by omega)) ?_; conv => whnf)
 | ((with_reducible refine CallK.id ?_); (first | refine CallK.weak (RdA.closeT (j := 0)) (CallK.frE At.head (fun w => small114e rb (by omega) e0 w) ?_) | refine CallK.frE (by repeat (first | with_reducible apply At.head | apply At.tail)) (fun w => small114e rb0 (by omega) e1 w) ?_ | refine CallK.frE (by repeat (first | with_reducible apply At.head | apply At.tail)) (fun w => text116e rb1 e2 w) ?_ | refine CallK.frE (by repeat (first | with_reducible apply At.head | apply At.tail)) (fun w => end117ok w) ?_ | refine CallK.frE (by repeat (first | with_reducible apply At.head | apply At.tail)) (fun w => end117bad hend w) ?_ | refine CallK.pu (fun w => hchk w) ?_); conv => whnf)
 | ((with_reducible apply OpK.more); (focus refine sok); (conv => whnf); fail_if_success guard_target =ₛ False)
 | with_reducible (first | refine Rounds.step (fun KL hL => ?_) | refine r_rounds 100 ?_)
 | ((with_reducible ((first | refine InAt.mk (fun K' hK => ?_) | refine AnyAt.mk (fun K' hK => ?_) | (refine hK _ ?_; clear hK K') | (refine hK _ _ ?_; clear hK K')))); conv => whnf)
 | (refine And.intro ?_ ?_; all_goals (conv => whnf))
 | ((first | refine if_decT (by omega) ?_ | refine if_decF (by omega) ?_ | refine if_ndecT (by omega) ?_); conv => whnf)
 | with_reducible apply_assumption -symm -exfalso)
  all_goals first | exact FinK.pu rfl | (exfalso; omega)
theorem decStatusX76 {l : List UInt8} {a : Option Addr} {n cap : Nat} {w : World} (hr : RdS w 5 1 a n cap (bcells l)) (hln : l.length ≤ 1099511627776) {q s : Nat} {u0 u1 u2 : RSt} (e0 : rdS 15 (some l) = (12, u0)) (e1 : rdS 2147483648 u0 = (q, u1)) (e2 : rdS 9999 u1 = (s, u2))  : ∃ v : Value, (v = .tuple #[.agg #[.int .i64 0, .int .i64 0, .int .i64 0, .int .i64 0, .int .i64 0, .int .i64 0, .string ⟨#[]⟩, .int .i64 0, .int .i64 0, .string ⟨#[]⟩, .string ⟨#[]⟩, .int .i64 0, .string ⟨#[]⟩, .int .i64 0, .int .i64 0, .slice none 0 0, .int .i64 0, .int .i64 0, .int .i64 0, .int .i64 0, .bool false, .int .i64 0, .int .i64 0, .string ⟨#[]⟩], .int .i64 10] ∨ v = .tuple #[.agg #[.int .i64 12, .int .i64 (q : Nat), .int .i64 (s : Nat), .int .i64 0, .int .i64 0, .int .i64 0, .string ⟨#[]⟩, .int .i64 0, .int .i64 0, .string ⟨#[]⟩, .string ⟨#[]⟩, .int .i64 0, .string ⟨#[]⟩, .int .i64 0, .int .i64 0, .slice none 0 0, .int .i64 0, .int .i64 0, .int .i64 0, .int .i64 0, .bool false, .int .i64 0, .int .i64 0, .string ⟨#[]⟩], .int .i64 0]) ∧ Pu Tryz.prog 76 #[.slice a n cap] w v := by
  have hlen := hr.len
  rw [bcells_length, Nat.mul_one] at hlen
  subst hlen
  have hs := fun n' r H => Sees.old (c := ⟨Tryz.prog, TB, n', w, noS, r, TBok⟩) (H := H) hr.old
  have rb : RB (some l) := RB.len hln
  have hne : l.length ≠ 0 := by
    intro h
    obtain rfl := List.length_eq_zero_iff.1 h
    have h1 : (rdS 15 (some [])).1 = 12 := by rw [e0]
    exact absurd h1 (by decide)
  have rb0 : RB u0 := by have := RB.S (most := 15) rb; rw [e0] at this; exact this
  have rb1 : RB u1 := by have := RB.S (most := 2147483648) rb0; rw [e1] at this; exact this
  have rb2 : RB u2 := by have := RB.S (most := 9999) rb1; rw [e2] at this; exact this
  obtain ⟨e, hchk⟩ := checkStatusX102 (q := q) (s := s)
  by_cases hl : l.length ≤ 65536
  by_cases hend : u2 = some []
  subst hend
  by_cases he0 : e = 0
  subst he0
  refine ⟨_, .inr rfl, ?_⟩
  rotate_left
  refine ⟨_, .inl rfl, ?_⟩
  rotate_left
  refine ⟨_, .inl rfl, ?_⟩
  rotate_left
  refine ⟨_, .inl rfl, ?_⟩
  all_goals (refine enter_sound TBok Tryz.func76 rfl rfl Tryz.ntmps76 [.v (.slice a l.length cap)] (Kn.start w noS) rfl rfl ?_; conv => whnf)
  repeat' (first
 | with_reducible ((first | refine r_seq (fun KS hS => ?_) | (refine hS _ _ ?_; clear hS KS) | (refine hA _ ?_; clear hA KA) | (refine hB _ ?_; clear hB KB) | refine r_block ?_))
 | ((with_reducible (first | refine r_region ?_ | refine r_cond (fun KA hA KB hB => ?_) | refine r_ret ?_ | refine r_skip ?_ | refine r_exit ?_ | refine And.intro rfl ?_ | intro b)); conv => whnf)
 | ((with_reducible refine WrapK.i64 ?_ ?_); (focus omega); conv => whnf)
 | ((with_reducible refine CallK.id ?_); (first | apply in103 | apply in146 | apply in150 | apply in226 | apply in113); rfl; rfl; rfl; intro A; conv => whnf)
 | (apply in300; rfl; rfl; rfl; intro A; (conv => whnf); apply r_anyM; refine mixed; kernel_rfl; kernel_rfl; intro KM hM; (conv => whnf))
 | ((with_reducible refine hM _ _ ?_); first | exact HSub.refl _ | exact (by (try dsimp only [List.cons_append, List.nil_append, den, denL]); refine SelI.spec ?_; (repeat (first | refine SelI.blk (by repeat (first | with_reducible apply Rm.head | apply Rm.tail)) ?_ | refine SelI.ext (by repeat (first | with_reducible apply Rm.head | apply Rm.tail)) ?_ | (refine SelI.blk' (by repeat (first | with_reducible apply Rm.head | apply Rm.tail)) ?_ ?_; focus rfl) | (refine SelI.ext' (by repeat (first | with_reducible apply Rm.head | apply Rm.tail)) ?_ ?_; focus rfl))); exact SelI.nil))
 | (refine ak227 ?_; conv => whnf)
 | (refine ak239 ?_; conv => whnf)
 | ((with_reducible refine CallK.id ?_); refine CallK.fresh (fun ms w hk => clone191 (l := l) (Sees.rd (hs _ _ _) hk) (by omega)) ?_; conv => whnf)
 | ((with_reducible refine CallK.id ?_); (first | refine CallK.weak (RdA.closeT (j := 0)) (CallK.frE At.head (fun w => small114e rb (by omega) e0 w) ?_) | refine CallK.frE (by repeat (first | with_reducible apply At.head | apply At.tail)) (fun w => small114e rb0 (by omega) e1 w) ?_ | refine CallK.frE (by repeat (first | with_reducible apply At.head | apply At.tail)) (fun w => small114e rb1 (by omega) e2 w) ?_ | refine CallK.frE (by repeat (first | with_reducible apply At.head | apply At.tail)) (fun w => end117ok w) ?_ | refine CallK.frE (by repeat (first | with_reducible apply At.head | apply At.tail)) (fun w => end117bad hend w) ?_ | refine CallK.pu (fun w => hchk w) ?_); conv => whnf)
 | ((with_reducible apply OpK.more); (focus refine sok); (conv => whnf); fail_if_success guard_target =ₛ False)
 | with_reducible (first | refine Rounds.step (fun KL hL => ?_) | refine r_rounds 100 ?_)
 | ((with_reducible ((first | refine InAt.mk (fun K' hK => ?_) | refine AnyAt.mk (fun K' hK => ?_) | (refine hK _ ?_; clear hK K') | (refine hK _ _ ?_; clear hK K')))); conv => whnf)
 | (refine And.intro ?_ ?_; all_goals (conv => whnf))
 | ((first | refine if_decT (by omega) ?_ | refine if_decF (by omega) ?_ | refine if_ndecT (by omega) ?_); conv => whnf)
 | with_reducible apply_assumption -symm -exfalso)
  all_goals first | exact FinK.pu rfl | (exfalso; omega)
theorem decCancelX76 {l : List UInt8} {a : Option Addr} {n cap : Nat} {w : World} (hr : RdS w 5 1 a n cap (bcells l)) (hln : l.length ≤ 1099511627776) {q s : Nat} {u0 u1 u2 : RSt} (e0 : rdS 15 (some l) = (13, u0)) (e1 : rdS 2147483648 u0 = (q, u1)) (e2 : rdS 9999 u1 = (s, u2))  : ∃ v : Value, (v = .tuple #[.agg #[.int .i64 0, .int .i64 0, .int .i64 0, .int .i64 0, .int .i64 0, .int .i64 0, .string ⟨#[]⟩, .int .i64 0, .int .i64 0, .string ⟨#[]⟩, .string ⟨#[]⟩, .int .i64 0, .string ⟨#[]⟩, .int .i64 0, .int .i64 0, .slice none 0 0, .int .i64 0, .int .i64 0, .int .i64 0, .int .i64 0, .bool false, .int .i64 0, .int .i64 0, .string ⟨#[]⟩], .int .i64 10] ∨ v = .tuple #[.agg #[.int .i64 13, .int .i64 (q : Nat), .int .i64 (s : Nat), .int .i64 0, .int .i64 0, .int .i64 0, .string ⟨#[]⟩, .int .i64 0, .int .i64 0, .string ⟨#[]⟩, .string ⟨#[]⟩, .int .i64 0, .string ⟨#[]⟩, .int .i64 0, .int .i64 0, .slice none 0 0, .int .i64 0, .int .i64 0, .int .i64 0, .int .i64 0, .bool false, .int .i64 0, .int .i64 0, .string ⟨#[]⟩], .int .i64 0]) ∧ Pu Tryz.prog 76 #[.slice a n cap] w v := by
  have hlen := hr.len
  rw [bcells_length, Nat.mul_one] at hlen
  subst hlen
  have hs := fun n' r H => Sees.old (c := ⟨Tryz.prog, TB, n', w, noS, r, TBok⟩) (H := H) hr.old
  have rb : RB (some l) := RB.len hln
  have hne : l.length ≠ 0 := by
    intro h
    obtain rfl := List.length_eq_zero_iff.1 h
    have h1 : (rdS 15 (some [])).1 = 13 := by rw [e0]
    exact absurd h1 (by decide)
  have rb0 : RB u0 := by have := RB.S (most := 15) rb; rw [e0] at this; exact this
  have rb1 : RB u1 := by have := RB.S (most := 2147483648) rb0; rw [e1] at this; exact this
  have rb2 : RB u2 := by have := RB.S (most := 9999) rb1; rw [e2] at this; exact this
  obtain ⟨e, hchk⟩ := checkCancelX102 (q := q) (s := s)
  by_cases hl : l.length ≤ 65536
  by_cases hend : u2 = some []
  subst hend
  by_cases he0 : e = 0
  subst he0
  refine ⟨_, .inr rfl, ?_⟩
  rotate_left
  refine ⟨_, .inl rfl, ?_⟩
  rotate_left
  refine ⟨_, .inl rfl, ?_⟩
  rotate_left
  refine ⟨_, .inl rfl, ?_⟩
  all_goals (refine enter_sound TBok Tryz.func76 rfl rfl Tryz.ntmps76 [.v (.slice a l.length cap)] (Kn.start w noS) rfl rfl ?_; conv => whnf)
  repeat' (first
 | with_reducible ((first | refine r_seq (fun KS hS => ?_) | (refine hS _ _ ?_; clear hS KS) | (refine hA _ ?_; clear hA KA) | (refine hB _ ?_; clear hB KB) | refine r_block ?_))
 | ((with_reducible (first | refine r_region ?_ | refine r_cond (fun KA hA KB hB => ?_) | refine r_ret ?_ | refine r_skip ?_ | refine r_exit ?_ | refine And.intro rfl ?_ | intro b)); conv => whnf)
 | ((with_reducible refine WrapK.i64 ?_ ?_); (focus omega); conv => whnf)
 | ((with_reducible refine CallK.id ?_); (first | apply in103 | apply in146 | apply in150 | apply in226 | apply in113); rfl; rfl; rfl; intro A; conv => whnf)
 | (apply in300; rfl; rfl; rfl; intro A; (conv => whnf); apply r_anyM; refine mixed; kernel_rfl; kernel_rfl; intro KM hM; (conv => whnf))
 | ((with_reducible refine hM _ _ ?_); first | exact HSub.refl _ | exact (by (try dsimp only [List.cons_append, List.nil_append, den, denL]); refine SelI.spec ?_; (repeat (first | refine SelI.blk (by repeat (first | with_reducible apply Rm.head | apply Rm.tail)) ?_ | refine SelI.ext (by repeat (first | with_reducible apply Rm.head | apply Rm.tail)) ?_ | (refine SelI.blk' (by repeat (first | with_reducible apply Rm.head | apply Rm.tail)) ?_ ?_; focus rfl) | (refine SelI.ext' (by repeat (first | with_reducible apply Rm.head | apply Rm.tail)) ?_ ?_; focus rfl))); exact SelI.nil))
 | (refine ak227 ?_; conv => whnf)
 | (refine ak239 ?_; conv => whnf)
 | ((with_reducible refine CallK.id ?_); refine CallK.fresh (fun ms w hk => clone191 (l := l) (Sees.rd (hs _ _ _) hk) (by omega)) ?_; conv => whnf)
 | ((with_reducible refine CallK.id ?_); (first | refine CallK.weak (RdA.closeT (j := 0)) (CallK.frE At.head (fun w => small114e rb (by omega) e0 w) ?_) | refine CallK.frE (by repeat (first | with_reducible apply At.head | apply At.tail)) (fun w => small114e rb0 (by omega) e1 w) ?_ | refine CallK.frE (by repeat (first | with_reducible apply At.head | apply At.tail)) (fun w => small114e rb1 (by omega) e2 w) ?_ | refine CallK.frE (by repeat (first | with_reducible apply At.head | apply At.tail)) (fun w => end117ok w) ?_ | refine CallK.frE (by repeat (first | with_reducible apply At.head | apply At.tail)) (fun w => end117bad hend w) ?_ | refine CallK.pu (fun w => hchk w) ?_); conv => whnf)
 | ((with_reducible apply OpK.more); (focus refine sok); (conv => whnf); fail_if_success guard_target =ₛ False)
 | with_reducible (first | refine Rounds.step (fun KL hL => ?_) | refine r_rounds 100 ?_)
 | ((with_reducible ((first | refine InAt.mk (fun K' hK => ?_) | refine AnyAt.mk (fun K' hK => ?_) | (refine hK _ ?_; clear hK K') | (refine hK _ _ ?_; clear hK K')))); conv => whnf)
 | (refine And.intro ?_ ?_; all_goals (conv => whnf))
 | ((first | refine if_decT (by omega) ?_ | refine if_decF (by omega) ?_ | refine if_ndecT (by omega) ?_); conv => whnf)
 | with_reducible apply_assumption -symm -exfalso)
  all_goals first | exact FinK.pu rfl | (exfalso; omega)
end Go.Proofs.YtbgnoibellfojaaGreatDoor

namespace Go.Proofs.YtbgnoibellfojaaGreatDoor
open Go Go.X
set_option maxRecDepth 100000
set_option maxHeartbeats 0
theorem decOutT76 {l : List UInt8} {a : Option Addr} {n cap : Nat} {w : World} (hr : RdS w 5 1 a n cap (bcells l)) (hln : l.length ≤ 1099511627776) {m : Nat} {f t : ByteArray} {u0 u1 u2 u3 : RSt} (e0 : rdS 15 (some l) = (3, u0)) (e1 : rdS 64 u0 = (m, u1)) (e2 : rdT u1 = (f, u2)) (e3 : rdT u2 = (t, u3)) : ∃ v : Value, ((v = .tuple #[.agg #[.int .i64 0, .int .i64 0, .int .i64 0, .int .i64 0, .int .i64 0, .int .i64 0, .string ⟨#[]⟩, .int .i64 0, .int .i64 0, .string ⟨#[]⟩, .string ⟨#[]⟩, .int .i64 0, .string ⟨#[]⟩, .int .i64 0, .int .i64 0, .slice none 0 0, .int .i64 0, .int .i64 0, .int .i64 0, .int .i64 0, .bool false, .int .i64 0, .int .i64 0, .string ⟨#[]⟩], .int .i64 10] ∧ ¬ (l.length ≤ 65536 ∧ u3 = some [] ∧ ((1 ≤ (m : Int) ∧ (m : Int) ≤ 64) ∧ rangeOk f t = true))) ∨ (v = .tuple #[.agg #[.int .i64 3, .int .i64 0, .int .i64 0, .int .i64 0, .int .i64 0, .int .i64 0, .string ⟨#[]⟩, .int .i64 0, .int .i64 (m : Nat), .string f, .string t, .int .i64 0, .string ⟨#[]⟩, .int .i64 0, .int .i64 0, .slice none 0 0, .int .i64 0, .int .i64 0, .int .i64 0, .int .i64 0, .bool false, .int .i64 0, .int .i64 0, .string ⟨#[]⟩], .int .i64 0] ∧ l.length ≤ 65536 ∧ u3 = some [] ∧ ((1 ≤ (m : Int) ∧ (m : Int) ≤ 64) ∧ rangeOk f t = true))) ∧ Pu Tryz.prog 76 #[.slice a n cap] w v := by
  have hlen := hr.len
  rw [bcells_length, Nat.mul_one] at hlen
  subst hlen
  have hs := fun n' r H => Sees.old (c := ⟨Tryz.prog, TB, n', w, noS, r, TBok⟩) (H := H) hr.old
  have rb : RB (some l) := RB.len hln
  have hne : l.length ≠ 0 := by
    intro h
    obtain rfl := List.length_eq_zero_iff.1 h
    have h1 : (rdS 15 (some [])).1 = 3 := by rw [e0]
    exact absurd h1 (by decide)
  have rb0 : RB u0 := by have := RB.S (most := 15) rb; rw [e0] at this; exact this
  have rb1 : RB u1 := by have := RB.S (most := 64) rb0; rw [e1] at this; exact this
  have rb2 : RB u2 := by have := RB.T rb1; rw [e2] at this; exact this
  have hk2 : f.size ≤ 1099511627776 := by have := rdT_size u1; rw [e2] at this; dsimp only at this; omega
  have rb3 : RB u3 := by have := RB.T rb2; rw [e3] at this; exact this
  have hk3 : t.size ≤ 1099511627776 := by have := rdT_size u2; rw [e3] at this; dsimp only at this; omega
  obtain ⟨e, he, hchk⟩ := checkOutT102 (m := m) (f := f) (t := t) hk2 hk3
  by_cases hl : l.length ≤ 65536
  by_cases hend : u3 = some []
  by_cases he0 : e = 0
  subst he0
  refine ⟨_, .inr ⟨rfl, hl, hend, he.1 rfl⟩, ?_⟩
  subst hend
  rotate_left
  refine ⟨_, .inl ⟨rfl, fun h => he0 (he.2 h.2.2)⟩, ?_⟩
  subst hend
  rotate_left
  refine ⟨_, .inl ⟨rfl, fun h => hend h.2.1⟩, ?_⟩
  rotate_left
  refine ⟨_, .inl ⟨rfl, fun h => hl h.1⟩, ?_⟩
  all_goals (refine enter_sound TBok Tryz.func76 rfl rfl Tryz.ntmps76 [.v (.slice a l.length cap)] (Kn.start w noS) rfl rfl ?_; conv => whnf)
  repeat' (first
 | with_reducible ((first | refine r_seq (fun KS hS => ?_) | (refine hS _ _ ?_; clear hS KS) | (refine hA _ ?_; clear hA KA) | (refine hB _ ?_; clear hB KB) | refine r_block ?_))
 | ((with_reducible (first | refine r_region ?_ | refine r_cond (fun KA hA KB hB => ?_) | refine r_ret ?_ | refine r_skip ?_ | refine r_exit ?_ | refine And.intro rfl ?_ | intro b)); conv => whnf)
 | ((with_reducible refine WrapK.i64 ?_ ?_); (focus omega); conv => whnf)
 | ((with_reducible refine CallK.id ?_); (first | apply in103 | apply in147 | apply in148 | apply in226 | apply in113 | apply in232); rfl; rfl; rfl; intro A; conv => whnf)
 | (apply in300; rfl; rfl; rfl; intro A; (conv => whnf); apply r_anyM; refine mixed; kernel_rfl; kernel_rfl; intro KM hM; (conv => whnf))
 | ((with_reducible refine hM _ _ ?_); first | exact HSub.refl _ | exact (by (try dsimp only [List.cons_append, List.nil_append, den, denL]); refine SelI.spec ?_; (repeat (first | refine SelI.blk (by repeat (first | with_reducible apply Rm.head | apply Rm.tail)) ?_ | refine SelI.ext (by repeat (first | with_reducible apply Rm.head | apply Rm.tail)) ?_ | (refine SelI.blk' (by repeat (first | with_reducible apply Rm.head | apply Rm.tail)) ?_ ?_; focus rfl) | (refine SelI.ext' (by repeat (first | with_reducible apply Rm.head | apply Rm.tail)) ?_ ?_; focus rfl))); exact SelI.nil))
 | (refine ak228 ?_; conv => whnf)
 | ((with_reducible refine CallK.id ?_); refine CallK.fresh (fun ms w hk => clone191 (l := l) (Sees.rd (hs _ _ _) hk) (by omega)) ?_; conv => whnf)
 | ((with_reducible refine CallK.id ?_); (first | refine CallK.weak (RdA.closeT (j := 0)) (CallK.frE At.head (fun w => small114e rb (by omega) e0 w) ?_) | refine CallK.frE (by repeat (first | with_reducible apply At.head | apply At.tail)) (fun w => small114e rb0 (by omega) e1 w) ?_ | refine CallK.frE (by repeat (first | with_reducible apply At.head | apply At.tail)) (fun w => text116e rb1 e2 w) ?_ | refine CallK.frE (by repeat (first | with_reducible apply At.head | apply At.tail)) (fun w => text116e rb2 e3 w) ?_ | refine CallK.frE (by repeat (first | with_reducible apply At.head | apply At.tail)) (fun w => end117ok w) ?_ | refine CallK.frE (by repeat (first | with_reducible apply At.head | apply At.tail)) (fun w => end117bad hend w) ?_ | refine CallK.pu (fun w => hchk w) ?_); conv => whnf)
 | ((with_reducible apply OpK.more); (focus refine sok); (conv => whnf); fail_if_success guard_target =ₛ False)
 | with_reducible (first | refine Rounds.step (fun KL hL => ?_) | refine r_rounds 100 ?_)
 | ((with_reducible ((first | refine InAt.mk (fun K' hK => ?_) | refine AnyAt.mk (fun K' hK => ?_) | (refine hK _ ?_; clear hK K') | (refine hK _ _ ?_; clear hK K')))); conv => whnf)
 | (refine And.intro ?_ ?_; all_goals (conv => whnf))
 | ((first | refine if_decT (by omega) ?_ | refine if_decF (by omega) ?_ | refine if_ndecT (by omega) ?_); conv => whnf)
 | with_reducible apply_assumption -symm -exfalso)
  all_goals first | exact FinK.pu rfl | (exfalso; omega)
end Go.Proofs.YtbgnoibellfojaaGreatDoor
