/- Contracts and lemmas for the claim (part 6); no condition of its own. -/
import Derived.Test.YtbgnoibellfojaaGreatDoorYC704
import Derived.Test.YtbgnoibellfojaaGreatDoorYC705
import Derived.Test.YtbgnoibellfojaaGreatDoorYC701
set_option linter.all false
set_option linter.unusedVariables false
set_option linter.unusedSimpArgs false
set_option linter.unnecessarySimpa false
namespace Go.Proofs.YtbgnoibellfojaaGreatDoor
open Go Go.X
set_option maxRecDepth 100000
set_option maxHeartbeats 0
/-- a definition that was read -/
structure DefZ where
  x : ByteArray
  r : Int
  d : Int
  a : Option Addr
  cap : Nat
  l : List (ByteArray × Int)
  e : Int
  hx : x.size ≤ 1099511627776
  hS : StS l
  hl : l.length ≤ 8
@[reducible] def DefZ.V (z : DefZ) : Value := .agg #[.string z.x, .int .i64 z.r, .int .i64 z.d, .slice z.a z.l.length z.cap]
theorem StS.snoc {l : List (ByteArray × Int)} {x : ByteArray × Int} (h : StS l) (hx : x.1.size ≤ 65536) : StS (l ++ [x]) := fun y hy => by
  rcases List.mem_append.1 hy with h1 | h1
  · exact h y h1
  · rw [List.mem_singleton] at h1; subst h1; exact hx
theorem HSub.addNil {i e k : Nat} {L' L : List Blk} (h : HSub L' L) : HSub (.ext i (SlA e k none 0 0 []) :: L') L := fun w S hS =>
  let ⟨S', h1, h2⟩ := h w S hS
  ⟨fun k => False ∨ S' k, .cons (x := .ext i (SlA e k none 0 0 [])) (S := fun _ => False) (.inl ⟨rfl, rfl, rfl, rfl⟩) (fun _ h => h.elim) h1 (fun _ h => h.elim), fun k hk => hk.elim False.elim (h2 k)⟩
theorem RdA.closeT1 {p j i1 i2 : Nat} {l : List UInt8} {a : Option Addr} {cap : Nat} {x : Blk} {R : List Blk} : HSub (.ext j (RdA p (some l)) :: x :: R) (x :: .blk i1 p [.v (.bool true), .v (.bool false), .v (.slice a l.length cap)] 238 :: .ext i2 (SlA 5 1 a l.length cap (bcells l)) :: R) :=
  HSub.trans RdA.closeT (HSub.perm (List.perm_middle (l₁ := [_, _])).symm)
theorem ddec245 {l : List UInt8} {a : Option Addr} {n cap : Nat} {w : World} (hr : RdS w 5 1 a n cap (bcells l)) (hln : l.length ≤ 1099511627776) : FrZ Tryz.prog 245 #[.slice a n cap] w emp (fun z : DefZ => .tuple #[z.V, .int .i64 z.e]) (fun z => SlA 144 2 z.a z.l.length z.cap (stC z.l)) := by
  have hlen := hr.len
  rw [bcells_length, Nat.mul_one] at hlen
  subst hlen
  refine enter_frZ TBok (H := []) emp_foot Tryz.func245 rfl rfl Tryz.ntmps245 [.v (.slice a l.length cap)] rfl rfl ?_
  intro S hSe _
  have hs := fun n' H => Sees.old (c := ⟨Tryz.prog, TB, n', w, S, none, TBok⟩) (H := H) (hr.oldE hSe)
  have rb : RB (some l) := RB.len hln
  have hxs : (rdT (some l)).1.size ≤ 1099511627776 := by have := rdT_size (some l); omega
  conv => whnf
  repeat' (first
 | with_reducible ((first | refine r_seq (fun KS hS => ?_) | (refine hS _ _ ?_; clear hS KS) | refine r_block ?_))
 | ((with_reducible (first | refine r_region ?_ | refine r_ret ?_ | refine And.intro rfl ?_ | intro b)); conv => whnf)
 | (apply in113; rfl; rfl; rfl; intro A; conv => whnf)
 | ((with_reducible refine CallK.id ?_); refine CallK.fresh (fun ms w hk => clone191 (l := l) (Sees.rd (hs _ _) hk) (by omega)) ?_; conv => whnf)
 | ((with_reducible refine CallK.id ?_); refine CallK.weak (RdA.closeT1 (j := 0)) (CallK.frE At.head (fun w => text116 rb w) ?_); conv => whnf))
  rename_i b2 zz p b5
  rename Nat => b6
  refine r_loop (α := Nat × RSt × Int × Int × Int) (fun y => [(2, .loc b2 0 0), (4, .loc p 2 0), (5, .loc b5 3 0), (6, .loc b6 1 0), (15, .v (.int .i64 (y.1 : Nat)))]) (fun y => [.blk 1 b6 [.v (.int .i64 y.2.2.1), .v (.int .i64 y.2.2.2.1), .v (.int .i64 y.2.2.2.2)] 235, .ext 0 (RdA p y.2.1), .blk 3 b5 [.v (.string (rdT (some l)).1), .v (.int .i64 0), .v (.int .i64 0), .v (.slice none 0 0)] 46, .blk 0 b2 [.v (.string ⟨#[]⟩), .v (.int .i64 0), .v (.int .i64 0), .v (.slice none 0 0)] 46])
    (fun y => y.1 ≤ 3 ∧ RB y.2.1 ∧ (0 ≤ y.2.2.1 ∧ y.2.2.1 ≤ 100000) ∧ (0 ≤ y.2.2.2.1 ∧ y.2.2.2.1 ≤ 100000) ∧ (0 ≤ y.2.2.2.2 ∧ y.2.2.2.2 ≤ 100000)) (fun y => 3 - y.1) (0, (rdT (some l)).2, 0, 0, 0) ⟨by dsimp only; omega, RB.T rb, by dsimp only; omega, by dsimp only; omega, by dsimp only; omega⟩ (by repeat' (first | exact Sub.nil | (refine Sub.cons rfl rfl ?_))) (by (try dsimp only [List.cons_append, List.nil_append, den, denL]); refine SelI.spec ?_; (repeat (first | refine SelI.blk (by repeat (first | with_reducible apply Rm.head | apply Rm.tail)) ?_ | refine SelI.ext (by repeat (first | with_reducible apply Rm.head | apply Rm.tail)) ?_ | (refine SelI.blk' (by repeat (first | with_reducible apply Rm.head | apply Rm.tail)) ?_ ?_; focus rfl) | (refine SelI.ext' (by repeat (first | with_reducible apply Rm.head | apply Rm.tail)) ?_ ?_; focus rfl))); exact SelI.nil) ?_
  rintro ⟨i, st, ca, cb, cc⟩ ⟨hi, hst, hca, hcb, hcc⟩ KL hL
  dsimp only at hi hst hca hcb hcc hL ⊢
  have hst' := RB.U hst
  have hst0 : RB none := RB.none
  obtain rfl | rfl | rfl | rfl : i = 0 ∨ i = 1 ∨ i = 2 ∨ i = 3 := by omega
  · conv => whnf
    repeat' (first
 | with_reducible ((first | refine r_seq (fun KS hS => ?_) | (refine hS _ _ ?_; clear hS KS) | (refine hA _ ?_; clear hA KA) | (refine hB _ ?_; clear hB KB) | refine r_block ?_))
 | ((with_reducible (first | refine r_region ?_ | refine r_cond (fun KA hA KB hB => ?_) | refine r_skip ?_ | refine And.intro rfl ?_)); conv => whnf)
 | ((with_reducible refine WrapK.i64 ?_ ?_); (focus omega); conv => whnf)
 | (refine hL (1, (rdU st).2, mz, cb, cc) _ _ ⟨by dsimp only; omega, hst', by dsimp only; omega, by dsimp only; omega, by dsimp only; omega⟩ (by dsimp only; omega) (by repeat' (first | exact Sub.nil | (refine Sub.cons rfl rfl ?_))) (by (try dsimp only [List.cons_append, List.nil_append, den, denL]); refine SelI.spec ?_; (repeat (first | refine SelI.blk (by repeat (first | with_reducible apply Rm.head | apply Rm.tail)) ?_ | refine SelI.ext (by repeat (first | with_reducible apply Rm.head | apply Rm.tail)) ?_ | (refine SelI.blk' (by repeat (first | with_reducible apply Rm.head | apply Rm.tail)) ?_ ?_; focus rfl) | (refine SelI.ext' (by repeat (first | with_reducible apply Rm.head | apply Rm.tail)) ?_ ?_; focus rfl))); exact SelI.nil))
 | (refine hL (1, none, mz, cb, cc) _ _ ⟨by dsimp only; omega, hst0, by dsimp only; omega, by dsimp only; omega, by dsimp only; omega⟩ (by dsimp only; omega) (by repeat' (first | exact Sub.nil | (refine Sub.cons rfl rfl ?_))) (by (try dsimp only [List.cons_append, List.nil_append, den, denL]); refine SelI.spec ?_; (repeat (first | refine SelI.blk (by repeat (first | with_reducible apply Rm.head | apply Rm.tail)) ?_ | refine SelI.ext (by repeat (first | with_reducible apply Rm.head | apply Rm.tail)) ?_ | (refine SelI.blk' (by repeat (first | with_reducible apply Rm.head | apply Rm.tail)) ?_ ?_; focus rfl) | (refine SelI.ext' (by repeat (first | with_reducible apply Rm.head | apply Rm.tail)) ?_ ?_; focus rfl))); exact SelI.nil))
 | ((with_reducible refine CallK.id ?_); (first | refine CallK.frE (by repeat (first | with_reducible apply At.head | apply At.tail)) (fun w => uint192 hst w) ?_ | refine CallK.frE (by repeat (first | with_reducible apply At.head | apply At.tail)) (fun w => fail193 w) ?_); conv => whnf)
 | ((with_reducible refine OpK.id ?_); refine OpK.minE rfl rfl rfl (fun mz hza hzb hzc => ?_); conv => whnf)
 | ((with_reducible refine OpK.id ?_); refine OpK.ixL rfl rfl rfl rfl rfl rfl (by omega) (by show _ < (3 : Int); omega) ?_; conv => whnf)
 | (refine if_dec (fun h => ?_) (fun h => ?_); all_goals (conv => whnf))
 | with_reducible apply_assumption -symm -exfalso)
  · conv => whnf
    repeat' (first
 | with_reducible ((first | refine r_seq (fun KS hS => ?_) | (refine hS _ _ ?_; clear hS KS) | (refine hA _ ?_; clear hA KA) | (refine hB _ ?_; clear hB KB) | refine r_block ?_))
 | ((with_reducible (first | refine r_region ?_ | refine r_cond (fun KA hA KB hB => ?_) | refine r_skip ?_ | refine And.intro rfl ?_)); conv => whnf)
 | ((with_reducible refine WrapK.i64 ?_ ?_); (focus omega); conv => whnf)
 | (refine hL (2, (rdU st).2, ca, mz, cc) _ _ ⟨by dsimp only; omega, hst', by dsimp only; omega, by dsimp only; omega, by dsimp only; omega⟩ (by dsimp only; omega) (by repeat' (first | exact Sub.nil | (refine Sub.cons rfl rfl ?_))) (by (try dsimp only [List.cons_append, List.nil_append, den, denL]); refine SelI.spec ?_; (repeat (first | refine SelI.blk (by repeat (first | with_reducible apply Rm.head | apply Rm.tail)) ?_ | refine SelI.ext (by repeat (first | with_reducible apply Rm.head | apply Rm.tail)) ?_ | (refine SelI.blk' (by repeat (first | with_reducible apply Rm.head | apply Rm.tail)) ?_ ?_; focus rfl) | (refine SelI.ext' (by repeat (first | with_reducible apply Rm.head | apply Rm.tail)) ?_ ?_; focus rfl))); exact SelI.nil))
 | (refine hL (2, none, ca, mz, cc) _ _ ⟨by dsimp only; omega, hst0, by dsimp only; omega, by dsimp only; omega, by dsimp only; omega⟩ (by dsimp only; omega) (by repeat' (first | exact Sub.nil | (refine Sub.cons rfl rfl ?_))) (by (try dsimp only [List.cons_append, List.nil_append, den, denL]); refine SelI.spec ?_; (repeat (first | refine SelI.blk (by repeat (first | with_reducible apply Rm.head | apply Rm.tail)) ?_ | refine SelI.ext (by repeat (first | with_reducible apply Rm.head | apply Rm.tail)) ?_ | (refine SelI.blk' (by repeat (first | with_reducible apply Rm.head | apply Rm.tail)) ?_ ?_; focus rfl) | (refine SelI.ext' (by repeat (first | with_reducible apply Rm.head | apply Rm.tail)) ?_ ?_; focus rfl))); exact SelI.nil))
 | ((with_reducible refine CallK.id ?_); (first | refine CallK.frE (by repeat (first | with_reducible apply At.head | apply At.tail)) (fun w => uint192 hst w) ?_ | refine CallK.frE (by repeat (first | with_reducible apply At.head | apply At.tail)) (fun w => fail193 w) ?_); conv => whnf)
 | ((with_reducible refine OpK.id ?_); refine OpK.minE rfl rfl rfl (fun mz hza hzb hzc => ?_); conv => whnf)
 | ((with_reducible refine OpK.id ?_); refine OpK.ixL rfl rfl rfl rfl rfl rfl (by omega) (by show _ < (3 : Int); omega) ?_; conv => whnf)
 | (refine if_dec (fun h => ?_) (fun h => ?_); all_goals (conv => whnf))
 | with_reducible apply_assumption -symm -exfalso)
  · conv => whnf
    repeat' (first
 | with_reducible ((first | refine r_seq (fun KS hS => ?_) | (refine hS _ _ ?_; clear hS KS) | (refine hA _ ?_; clear hA KA) | (refine hB _ ?_; clear hB KB) | refine r_block ?_))
 | ((with_reducible (first | refine r_region ?_ | refine r_cond (fun KA hA KB hB => ?_) | refine r_skip ?_ | refine And.intro rfl ?_)); conv => whnf)
 | ((with_reducible refine WrapK.i64 ?_ ?_); (focus omega); conv => whnf)
 | (refine hL (3, (rdU st).2, ca, cb, mz) _ _ ⟨by dsimp only; omega, hst', by dsimp only; omega, by dsimp only; omega, by dsimp only; omega⟩ (by dsimp only; omega) (by repeat' (first | exact Sub.nil | (refine Sub.cons rfl rfl ?_))) (by (try dsimp only [List.cons_append, List.nil_append, den, denL]); refine SelI.spec ?_; (repeat (first | refine SelI.blk (by repeat (first | with_reducible apply Rm.head | apply Rm.tail)) ?_ | refine SelI.ext (by repeat (first | with_reducible apply Rm.head | apply Rm.tail)) ?_ | (refine SelI.blk' (by repeat (first | with_reducible apply Rm.head | apply Rm.tail)) ?_ ?_; focus rfl) | (refine SelI.ext' (by repeat (first | with_reducible apply Rm.head | apply Rm.tail)) ?_ ?_; focus rfl))); exact SelI.nil))
 | (refine hL (3, none, ca, cb, mz) _ _ ⟨by dsimp only; omega, hst0, by dsimp only; omega, by dsimp only; omega, by dsimp only; omega⟩ (by dsimp only; omega) (by repeat' (first | exact Sub.nil | (refine Sub.cons rfl rfl ?_))) (by (try dsimp only [List.cons_append, List.nil_append, den, denL]); refine SelI.spec ?_; (repeat (first | refine SelI.blk (by repeat (first | with_reducible apply Rm.head | apply Rm.tail)) ?_ | refine SelI.ext (by repeat (first | with_reducible apply Rm.head | apply Rm.tail)) ?_ | (refine SelI.blk' (by repeat (first | with_reducible apply Rm.head | apply Rm.tail)) ?_ ?_; focus rfl) | (refine SelI.ext' (by repeat (first | with_reducible apply Rm.head | apply Rm.tail)) ?_ ?_; focus rfl))); exact SelI.nil))
 | ((with_reducible refine CallK.id ?_); (first | refine CallK.frE (by repeat (first | with_reducible apply At.head | apply At.tail)) (fun w => uint192 hst w) ?_ | refine CallK.frE (by repeat (first | with_reducible apply At.head | apply At.tail)) (fun w => fail193 w) ?_); conv => whnf)
 | ((with_reducible refine OpK.id ?_); refine OpK.minE rfl rfl rfl (fun mz hza hzb hzc => ?_); conv => whnf)
 | ((with_reducible refine OpK.id ?_); refine OpK.ixL rfl rfl rfl rfl rfl rfl (by omega) (by show _ < (3 : Int); omega) ?_; conv => whnf)
 | (refine if_dec (fun h => ?_) (fun h => ?_); all_goals (conv => whnf))
 | with_reducible apply_assumption -symm -exfalso)
  clear hst'
  conv => whnf
  repeat' (first
 | with_reducible refine r_stop 13 ?_
 | with_reducible ((first | refine r_seq (fun KS hS => ?_) | (refine hS _ _ ?_; clear hS KS) | (refine hB _ ?_; clear hB KB)))
 | ((with_reducible (first | refine r_region ?_ | refine r_cond (fun KA hA KB hB => ?_) | refine r_exit ?_)); conv => whnf)
 | with_reducible apply_assumption -symm -exfalso)
  refine ⟨?_⟩
  refine r_cut (α := Unit) (fun _ => [(2, .loc b2 0 0), (4, .loc p 2 0), (5, .loc b5 3 0), (6, .loc b6 1 0)]) (fun _ => [.blk 1 b6 [.v (.int .i64 ca), .v (.int .i64 cb), .v (.int .i64 cc)] 235, .ext 0 (RdA p st), .blk 3 b5 [.v (.string (rdT (some l)).1), .v (.int .i64 ca), .v (.int .i64 cb), .v (.slice none 0 0)] 46, .blk 0 b2 [.v (.string ⟨#[]⟩), .v (.int .i64 0), .v (.int .i64 0), .v (.slice none 0 0)] 46]) (fun _ => True) ?_ ?_
  · intro KL hL
    repeat' (first
 | ((with_reducible refine And.intro rfl ?_); conv => whnf)
 | ((with_reducible refine OpK.id ?_); refine OpK.ixL rfl rfl rfl rfl rfl rfl (by omega) (by show _ < (3 : Int); omega) ?_; conv => whnf)
 | (apply r_any (id := 13); refine mixed; kernel_rfl; kernel_rfl; conv => whnf)
 | (refine hL () _ _ trivial (by repeat' (first | exact Sub.nil | (refine Sub.cons rfl rfl ?_))) (by (try dsimp only [List.cons_append, List.nil_append, den, denL]); refine SelI.spec ?_; (repeat (first | refine SelI.blk (by repeat (first | with_reducible apply Rm.head | apply Rm.tail)) ?_ | refine SelI.ext (by repeat (first | with_reducible apply Rm.head | apply Rm.tail)) ?_ | (refine SelI.blk' (by repeat (first | with_reducible apply Rm.head | apply Rm.tail)) ?_ ?_; focus rfl) | (refine SelI.ext' (by repeat (first | with_reducible apply Rm.head | apply Rm.tail)) ?_ ?_; focus rfl))); exact SelI.nil))
 | ((with_reducible ((first | refine InAt.mk (fun K' hK => ?_) | refine AnyAt.mk (fun K' hK => ?_) | (refine hK _ ?_; clear hK K') | (refine hK _ _ ?_; clear hK K')))); conv => whnf)
 | (refine And.intro ?_ ?_; all_goals (conv => whnf)))
  rintro - -
  try dsimp only
  repeat' (first
 | with_reducible ((first | refine r_seq (fun KS hS => ?_) | (refine hS _ _ ?_; clear hS KS) | (refine hA _ ?_; clear hA KA) | (refine hB _ ?_; clear hB KB) | refine r_block ?_))
 | ((with_reducible (first | refine r_region ?_ | refine r_cond (fun KA hA KB hB => ?_) | refine r_skip ?_ | refine And.intro rfl ?_)); conv => whnf)
 | ((with_reducible refine OpK.id ?_); refine OpK.ixL rfl rfl rfl rfl rfl rfl (by omega) (by show _ < (3 : Int); omega) ?_; conv => whnf)
 | ((with_reducible refine CallK.id ?_); refine CallK.frE (by repeat (first | with_reducible apply At.head | apply At.tail)) (fun w => fail193 w) ?_; conv => whnf)
 | ((with_reducible refine OpK.id ?_); refine OpK.minE rfl rfl rfl (fun mz hza hzb hzc => ?_); conv => whnf)
 | (refine if_dec (fun h => ?_) (fun h => ?_); all_goals (conv => whnf))
 | with_reducible apply_assumption -symm -exfalso)
  all_goals have hst2 := hst
  all_goals refine r_loop (α := Nat × RSt × List (ByteArray × Int) × List Value × Option Addr × Nat) (fun y => [(2, .loc b2 0 0), (4, .loc p 2 0), (5, .loc b5 3 0), (43, .v (.int .i64 mz)), (44, .v (.int .i64 (y.1 : Nat)))]) (fun y => [.ext 1 (SlA 144 2 y.2.2.2.2.1 y.1 y.2.2.2.2.2 y.2.2.2.1), .ext 0 (RdA p y.2.1), .blk 3 b5 [.v (.string (rdT (some l)).1), .v (.int .i64 ca), .v (.int .i64 cb), .v (.slice y.2.2.2.2.1 y.1 y.2.2.2.2.2)] 46, .blk 0 b2 [.v (.string ⟨#[]⟩), .v (.int .i64 0), .v (.int .i64 0), .v (.slice none 0 0)] 46]) (fun y => (y.1 : Int) ≤ 8 ∧ RB y.2.1 ∧ y.2.2.1.length = y.1 ∧ y.2.2.2.1 = stC y.2.2.1 ∧ StS y.2.2.1) (fun y => 8 - y.1) (0, _, [], [], none, 0) ⟨by dsimp only; omega, ?_, rfl, rfl, fun _ h => by cases h⟩ (by repeat' (first | exact Sub.nil | (refine Sub.cons rfl rfl ?_))) (HSub.addNil (by (try dsimp only [List.cons_append, List.nil_append, den, denL]); refine SelI.spec ?_; (repeat (first | refine SelI.blk (by repeat (first | with_reducible apply Rm.head | apply Rm.tail)) ?_ | refine SelI.ext (by repeat (first | with_reducible apply Rm.head | apply Rm.tail)) ?_ | (refine SelI.blk' (by repeat (first | with_reducible apply Rm.head | apply Rm.tail)) ?_ ?_; focus rfl) | (refine SelI.ext' (by repeat (first | with_reducible apply Rm.head | apply Rm.tail)) ?_ ?_; focus rfl))); exact SelI.nil)) ?_
  any_goals assumption
  all_goals rintro ⟨k, st2, L, cs, a2, cap2⟩ ⟨hk8, hst3, hLk, hcs, hLS⟩ KL hL
  all_goals dsimp only at hk8 hst3 hLk hcs hLS hL ⊢
  all_goals subst hcs
  all_goals (have hst4 := RB.T hst3; have hst5 := RB.I hst4; have hsz := rdT_size st2)
  all_goals have hLS2 := hLS.snoc (x := ((rdT st2).1, (rdI (rdT st2).2).1)) hsz
  all_goals have hLk2 : (L ++ [((rdT st2).1, (rdI (rdT st2).2).1)]).length = k + 1 := by simp [hLk]
  all_goals by_cases hkm : (k : Int) < mz
  all_goals (conv => whnf)
  rotate_left 2
  rotate_left 1
  rotate_left 1
  · repeat' (first
 | with_reducible ((first | refine r_seq (fun KS hS => ?_) | (refine hS _ _ ?_; clear hS KS) | (refine hA _ ?_; clear hA KA) | refine r_block ?_))
 | ((with_reducible (first | refine r_region ?_ | refine r_cond (fun KA hA KB hB => ?_) | refine r_skip ?_ | refine And.intro rfl ?_ | intro b)); conv => whnf)
 | ((with_reducible refine WrapK.i64 ?_ ?_); (focus omega); conv => whnf)
 | ((with_reducible refine CallK.id ?_); (first | refine CallK.frE (by repeat (first | with_reducible apply At.head | apply At.tail)) (fun w => text116 hst3 w) ?_ | refine CallK.frE (by repeat (first | with_reducible apply At.head | apply At.tail)) (fun w => int115 hst4 w) ?_); conv => whnf)
 | ((with_reducible refine OpK.id ?_); refine OpK.app (k := 2) rfl rfl rfl rfl rfl rfl rfl rfl (by repeat (first | with_reducible apply At.head | apply At.tail)) (SrcK.slc rfl rfl (by repeat (first | constructor | apply List.Mem.tail)) (Nat.le_refl _) rfl) (Nat.le_trans (Nat.mul_le_mul_right _ (show k + 1 ≤ 9 by omega)) (by decide)) (fun a' cap' => ?_); conv => whnf)
 | ((with_reducible refine IK.id ?_); (refine IK.bld rfl ?_); conv => whnf)
 | (apply r_any (id := 19); refine mixed; kernel_rfl; kernel_rfl; conv => whnf)
 | (refine hL (k + 1, (rdI (rdT st2).2).2, _, _, a', cap') _ _ ⟨by dsimp only; omega, hst5, hLk2, (stC_append _ _).symm, hLS2⟩ (by dsimp only; omega) (by repeat' (first | exact Sub.nil | (refine Sub.cons rfl rfl ?_))) (by (try dsimp only [List.cons_append, List.nil_append, den, denL]); refine SelI.spec ?_; (repeat (first | refine SelI.blk (by repeat (first | with_reducible apply Rm.head | apply Rm.tail)) ?_ | refine SelI.ext (by repeat (first | with_reducible apply Rm.head | apply Rm.tail)) ?_ | (refine SelI.blk' (by repeat (first | with_reducible apply Rm.head | apply Rm.tail)) ?_ ?_; focus rfl) | (refine SelI.ext' (by repeat (first | with_reducible apply Rm.head | apply Rm.tail)) ?_ ?_; focus rfl))); exact SelI.nil))
 | ((with_reducible ((first | refine InAt.mk (fun K' hK => ?_) | refine AnyAt.mk (fun K' hK => ?_) | (refine hK _ ?_; clear hK K') | (refine hK _ _ ?_; clear hK K')))); conv => whnf)
 | (refine And.intro ?_ ?_; all_goals (conv => whnf))
 | (refine if_decT (by omega) ?_; conv => whnf)
 | with_reducible apply_assumption -symm -exfalso)
  rotate_left 1
  · repeat' (first
 | with_reducible ((first | refine r_seq (fun KS hS => ?_) | (refine hS _ _ ?_; clear hS KS) | (refine hA _ ?_; clear hA KA) | refine r_block ?_))
 | ((with_reducible (first | refine r_region ?_ | refine r_cond (fun KA hA KB hB => ?_) | refine r_skip ?_ | refine And.intro rfl ?_ | intro b)); conv => whnf)
 | ((with_reducible refine WrapK.i64 ?_ ?_); (focus omega); conv => whnf)
 | ((with_reducible refine CallK.id ?_); (first | refine CallK.frE (by repeat (first | with_reducible apply At.head | apply At.tail)) (fun w => text116 hst3 w) ?_ | refine CallK.frE (by repeat (first | with_reducible apply At.head | apply At.tail)) (fun w => int115 hst4 w) ?_); conv => whnf)
 | ((with_reducible refine OpK.id ?_); refine OpK.app (k := 2) rfl rfl rfl rfl rfl rfl rfl rfl (by repeat (first | with_reducible apply At.head | apply At.tail)) (SrcK.slc rfl rfl (by repeat (first | constructor | apply List.Mem.tail)) (Nat.le_refl _) rfl) (Nat.le_trans (Nat.mul_le_mul_right _ (show k + 1 ≤ 9 by omega)) (by decide)) (fun a' cap' => ?_); conv => whnf)
 | ((with_reducible refine IK.id ?_); (refine IK.bld rfl ?_); conv => whnf)
 | (apply r_any (id := 19); refine mixed; kernel_rfl; kernel_rfl; conv => whnf)
 | (refine hL (k + 1, (rdI (rdT st2).2).2, _, _, a', cap') _ _ ⟨by dsimp only; omega, hst5, hLk2, (stC_append _ _).symm, hLS2⟩ (by dsimp only; omega) (by repeat' (first | exact Sub.nil | (refine Sub.cons rfl rfl ?_))) (by (try dsimp only [List.cons_append, List.nil_append, den, denL]); refine SelI.spec ?_; (repeat (first | refine SelI.blk (by repeat (first | with_reducible apply Rm.head | apply Rm.tail)) ?_ | refine SelI.ext (by repeat (first | with_reducible apply Rm.head | apply Rm.tail)) ?_ | (refine SelI.blk' (by repeat (first | with_reducible apply Rm.head | apply Rm.tail)) ?_ ?_; focus rfl) | (refine SelI.ext' (by repeat (first | with_reducible apply Rm.head | apply Rm.tail)) ?_ ?_; focus rfl))); exact SelI.nil))
 | ((with_reducible ((first | refine InAt.mk (fun K' hK => ?_) | refine AnyAt.mk (fun K' hK => ?_) | (refine hK _ ?_; clear hK K') | (refine hK _ _ ?_; clear hK K')))); conv => whnf)
 | (refine And.intro ?_ ?_; all_goals (conv => whnf))
 | (refine if_decT (by omega) ?_; conv => whnf)
 | with_reducible apply_assumption -symm -exfalso)
  all_goals subst hLk
  all_goals by_cases hse : st2 = some []
  all_goals repeat' (first
 | with_reducible ((first | refine r_seq (fun KS hS => ?_) | (refine hS _ _ ?_; clear hS KS) | (refine hA _ ?_; clear hA KA) | (refine hB _ ?_; clear hB KB)))
 | ((with_reducible (first | refine r_region ?_ | refine r_cond (fun KA hA KB hB => ?_) | refine r_ret ?_ | refine r_skip ?_ | refine r_exit ?_ | refine And.intro rfl ?_)); conv => whnf)
 | ((with_reducible refine CallK.id ?_); (first | refine CallK.frE (by repeat (first | with_reducible apply At.head | apply At.tail)) (fun w => hse ▸ end117ok w) ?_ | refine CallK.frE (by repeat (first | with_reducible apply At.head | apply At.tail)) (fun w => end117bad hse w) ?_ | (refine CallK.puE (fun ms w hk => defn241 (Sees.rd (Sees.ext (by repeat (first | with_reducible apply At.head | apply At.tail))) hk) hxs hLS (by omega)) ?_; rintro _ ⟨q, rfl⟩)); conv => whnf)
 | (refine if_decF (by omega) ?_; conv => whnf)
 | (refine if_ndec (fun h => ?_) (fun h => ?_); all_goals (conv => whnf))
 | with_reducible apply_assumption -symm -exfalso)
  all_goals first | exact FinK.frZ (i := 0) ⟨_, ca, cb, a2, cap2, L, 0, hxs, hLS, by omega⟩ rfl (by (try dsimp only [List.cons_append, List.nil_append, den, denL]); refine SelI.spec ?_; (repeat (first | refine SelI.blk (by repeat (first | with_reducible apply Rm.head | apply Rm.tail)) ?_ | refine SelI.ext (by repeat (first | with_reducible apply Rm.head | apply Rm.tail)) ?_ | (refine SelI.blk' (by repeat (first | with_reducible apply Rm.head | apply Rm.tail)) ?_ ?_; focus rfl) | (refine SelI.ext' (by repeat (first | with_reducible apply Rm.head | apply Rm.tail)) ?_ ?_; focus rfl))); exact SelI.nil) | exact FinK.frZ (i := 0) ⟨⟨#[]⟩, 0, 0, none, 0, [], 10, by decide, (fun x h => by cases h), by decide⟩ rfl (HSub.addNil (HSub.none _))
end Go.Proofs.YtbgnoibellfojaaGreatDoor

namespace Go.Proofs.YtbgnoibellfojaaGreatDoor
open Go Go.X
set_option maxRecDepth 100000
set_option maxHeartbeats 0
theorem fsmall206 {n : Nat} (w : World) : Pu Tryz.prog 206 #[.int .u64 (n : Nat)] w (.int .i64 ((Nat.min n 1000000 : Nat) : Int)) := by
  by_cases h : n ≤ 1000000
  · rw [show Nat.min n 1000000 = n from Nat.min_eq_left h]
    refine enter_sound TBok Tryz.func206 rfl rfl Tryz.ntmps206 [.v (.int .u64 (n : Nat))] (Kn.start w noS) rfl rfl ?_
    conv => whnf
    repeat' (first
 | with_reducible ((first | refine r_seq (fun KS hS => ?_) | (refine hS _ _ ?_; clear hS KS) | (refine hB _ ?_; clear hB KB)))
 | ((with_reducible (first | refine r_region ?_ | refine r_cond (fun KA hA KB hB => ?_) | refine r_ret ?_ | refine r_skip ?_)); conv => whnf)
 | ((with_reducible refine WrapK.i64 ?_ ?_); (focus omega); conv => whnf)
 | (refine if_decF (by omega) ?_; conv => whnf)
 | with_reducible apply_assumption -symm -exfalso)
    all_goals first | exact FinK.pu rfl | (exfalso; omega)
  · rw [show Nat.min n 1000000 = 1000000 from Nat.min_eq_right (by omega)]
    refine enter_sound TBok Tryz.func206 rfl rfl Tryz.ntmps206 [.v (.int .u64 (n : Nat))] (Kn.start w noS) rfl rfl ?_
    conv => whnf
    repeat' (first
 | with_reducible ((first | refine r_seq (fun KS hS => ?_) | (refine hS _ _ ?_; clear hS KS) | (refine hA _ ?_; clear hA KA)))
 | ((with_reducible (first | refine r_region ?_ | refine r_cond (fun KA hA KB hB => ?_) | refine r_ret ?_)); conv => whnf)
 | (refine if_decT (by omega) ?_; conv => whnf))
    all_goals first | exact FinK.pu rfl | (exfalso; omega)
theorem rdI_range (st : RSt) : -9223372036854775808 ≤ (rdI st).1 ∧ (rdI st).1 ≤ 9223372036854775807 := by
  have h := rdU_lt st
  rw [rdI_U]
  show -9223372036854775808 ≤ zagI (rdU st).1 ∧ zagI (rdU st).1 ≤ 9223372036854775807
  unfold zagI
  split <;> omega
theorem StI.snoc {l : List (ByteArray × Int)} {x : ByteArray × Int} (h : StI l) (hx : -9223372036854775808 ≤ x.2 ∧ x.2 ≤ 9223372036854775807) : StI (l ++ [x]) := fun y hy => by
  rcases List.mem_append.1 hy with h1 | h1
  · exact h y h1
  · rw [List.mem_singleton] at h1; subst h1; exact hx
theorem fddec128 {l : List UInt8} {a : Option Addr} {n cap : Nat} {w : World} (hr : RdS w 5 1 a n cap (bcells l)) (hln : l.length ≤ 1099511627776) : FrZ Tryz.prog 128 #[.slice a n cap] w emp (fun z : DefZ => .tuple #[z.V, .int .i64 z.e]) (fun z => SlA 144 2 z.a z.l.length z.cap (stC z.l)) := by
  have hlen := hr.len
  rw [bcells_length, Nat.mul_one] at hlen
  subst hlen
  refine enter_frZ TBok (H := []) emp_foot Tryz.func128 rfl rfl Tryz.ntmps128 [.v (.slice a l.length cap)] rfl rfl ?_
  intro S hSe _
  have hs := fun n' H => Sees.old (c := ⟨Tryz.prog, TB, n', w, S, none, TBok⟩) (H := H) (hr.oldE hSe)
  have rb : RB (some l) := RB.len hln
  have rb1 := RB.T rb
  have rb2 := RB.U rb1
  have rb3 := RB.U rb2
  have rb4 := RB.U rb3
  have hxs : (rdT (some l)).1.size ≤ 65536 := rdT_size (some l)
  conv => whnf
  repeat' (first
 | with_reducible ((first | refine r_seq (fun KS hS => ?_) | (refine hS _ _ ?_; clear hS KS) | refine r_block ?_))
 | ((with_reducible (first | refine r_region ?_ | refine And.intro rfl ?_ | intro b)); conv => whnf)
 | ((with_reducible refine CallK.id ?_); refine CallK.fresh (fun ms w hk => fread122 (l := l) (Sees.rd (hs _ _) hk) (by omega)) ?_; conv => whnf)
 | ((with_reducible refine CallK.id ?_); (first | refine CallK.frE (by repeat (first | with_reducible apply At.head | apply At.tail)) (fun w => ftext125 rb w) ?_ | refine CallK.frE (by repeat (first | with_reducible apply At.head | apply At.tail)) (fun w => funit203 rb1 w) ?_ | refine CallK.frE (by repeat (first | with_reducible apply At.head | apply At.tail)) (fun w => funit203 rb2 w) ?_ | refine CallK.frE (by repeat (first | with_reducible apply At.head | apply At.tail)) (fun w => funit203 rb3 w) ?_); conv => whnf)
 | ((with_reducible refine CallK.at 206 ?_); refine CallK.pu (fun w => fsmall206 w) ?_; conv => whnf))
  rename_i b2 p
  rename Nat => b6
  obtain ⟨rr, hrr, hrb⟩ : ∃ rr : Nat, (Nat.min (rdU (rdT (some l)).2).1 1000000 : Nat) = rr ∧ rr ≤ 1000000 := ⟨_, rfl, Nat.min_le_right _ _⟩
  obtain ⟨dd, hdd, hdb⟩ : ∃ rr : Nat, (Nat.min (rdU (rdU (rdT (some l)).2).2).1 1000000 : Nat) = rr ∧ rr ≤ 1000000 := ⟨_, rfl, Nat.min_le_right _ _⟩
  obtain ⟨mz, hmm, hmb⟩ : ∃ rr : Nat, (Nat.min (rdU (rdU (rdU (rdT (some l)).2).2).2).1 1000000 : Nat) = rr ∧ rr ≤ 1000000 := ⟨_, rfl, Nat.min_le_right _ _⟩
  rw [hrr, hdd, hmm]
  refine r_loop (α := Nat × RSt × List (ByteArray × Int) × List Value × Option Addr × Nat) (fun y => [(0, .v (.slice a l.length cap)), (2, .loc b2 0 0), (4, .v (pv p)), (6, .loc b6 2 0), (7, .v (.int .i64 (mz : Nat))), (8, .v (.int .i64 (y.1 : Nat)))]) (fun y => [.ext 5 (SlA 144 2 y.2.2.2.2.1 y.1 y.2.2.2.2.2 y.2.2.2.1), .ext 3 (RfA p y.2.1), .blk 2 b6 [.v (.string (rdT (some l)).1), .v (.int .i64 (rr : Nat)), .v (.int .i64 (dd : Nat)), .v (.slice y.2.2.2.2.1 y.1 y.2.2.2.2.2)] 46, .blk 0 b2 [.v (.string ⟨#[]⟩), .v (.int .i64 0), .v (.int .i64 0), .v (.slice none 0 0)] 46]) (fun y => y.1 ≤ 8 ∧ RB y.2.1 ∧ y.2.2.1.length = y.1 ∧ y.2.2.2.1 = stC y.2.2.1 ∧ StS y.2.2.1 ∧ StI y.2.2.1) (fun y => 8 - y.1) (0, (rdU (rdU (rdU (rdT (some l)).2).2).2).2, [], [], none, 0) ⟨by dsimp only; omega, rb4, rfl, rfl, (fun _ h => by cases h), (fun _ h => by cases h)⟩ (by repeat' (first | exact Sub.nil | (refine Sub.cons rfl rfl ?_))) (HSub.addNil (by (try dsimp only [List.cons_append, List.nil_append, den, denL]); refine SelI.spec ?_; (repeat (first | refine SelI.blk (by repeat (first | with_reducible apply Rm.head | apply Rm.tail)) ?_ | refine SelI.ext (by repeat (first | with_reducible apply Rm.head | apply Rm.tail)) ?_ | (refine SelI.blk' (by repeat (first | with_reducible apply Rm.head | apply Rm.tail)) ?_ ?_; focus rfl) | (refine SelI.ext' (by repeat (first | with_reducible apply Rm.head | apply Rm.tail)) ?_ ?_; focus rfl))); exact SelI.nil)) ?_
  rintro ⟨k, st2, L, cs, a2, cap2⟩ ⟨hk8, hst3, hLk, hcs, hLS, hLI⟩ KL hL
  dsimp only at hk8 hst3 hLk hcs hLS hLI hL ⊢
  subst hcs
  have hst4 := RB.T hst3
  have hst5 := RB.U hst4
  have hst5' : RB (rdI (rdT st2).2).2 := by rw [rdI_U]; exact hst5
  have hsz := rdT_size st2
  have hLS2 := hLS.snoc (x := ((rdT st2).1, (rdI (rdT st2).2).1)) hsz
  have hLI2 := hLI.snoc (x := ((rdT st2).1, (rdI (rdT st2).2).1)) (rdI_range _)
  have hLk2 : (L ++ [((rdT st2).1, (rdI (rdT st2).2).1)]).length = k + 1 := by simp [hLk]
  by_cases hkm : k < mz ∧ k < 8
  · conv => whnf
    repeat' (first
 | with_reducible ((first | refine r_seq (fun KS hS => ?_) | (refine hS _ _ ?_; clear hS KS) | (refine hA _ ?_; clear hA KA) | refine r_block ?_))
 | ((with_reducible (first | refine r_region ?_ | refine r_cond (fun KA hA KB hB => ?_) | refine r_skip ?_ | refine And.intro rfl ?_ | intro b)); conv => whnf)
 | ((with_reducible refine WrapK.i64 ?_ ?_); (focus omega); conv => whnf)
 | ((with_reducible refine CallK.id ?_); (first | refine CallK.frE (by repeat (first | with_reducible apply At.head | apply At.tail)) (fun w => ftext125 hst3 w) ?_ | refine CallK.frE (by repeat (first | with_reducible apply At.head | apply At.tail)) (fun w => fint126 hst4 w) ?_); conv => whnf)
 | ((with_reducible refine OpK.id ?_); refine OpK.app (k := 2) rfl rfl rfl rfl rfl rfl rfl rfl (by repeat (first | with_reducible apply At.head | apply At.tail)) (SrcK.slc rfl rfl (by repeat (first | constructor | apply List.Mem.tail)) (Nat.le_refl _) rfl) (Nat.le_trans (Nat.mul_le_mul_right _ (show k + 1 ≤ 9 by omega)) (by decide)) (fun a' cap' => ?_); conv => whnf)
 | ((with_reducible refine IK.id ?_); (refine IK.bld rfl ?_); conv => whnf)
 | (apply r_any (id := 9); refine mixed; kernel_rfl; kernel_rfl; conv => whnf)
 | (refine hL (k + 1, (rdI (rdT st2).2).2, _, _, a', cap') _ _ ⟨by dsimp only; omega, hst5', hLk2, (stC_append _ _).symm, hLS2, hLI2⟩ (by dsimp only; omega) (by repeat' (first | exact Sub.nil | (refine Sub.cons rfl rfl ?_))) (by (try dsimp only [List.cons_append, List.nil_append, den, denL]); refine SelI.spec ?_; (repeat (first | refine SelI.blk (by repeat (first | with_reducible apply Rm.head | apply Rm.tail)) ?_ | refine SelI.ext (by repeat (first | with_reducible apply Rm.head | apply Rm.tail)) ?_ | (refine SelI.blk' (by repeat (first | with_reducible apply Rm.head | apply Rm.tail)) ?_ ?_; focus rfl) | (refine SelI.ext' (by repeat (first | with_reducible apply Rm.head | apply Rm.tail)) ?_ ?_; focus rfl))); exact SelI.nil))
 | ((with_reducible ((first | refine InAt.mk (fun K' hK => ?_) | refine AnyAt.mk (fun K' hK => ?_) | (refine hK _ ?_; clear hK K') | (refine hK _ _ ?_; clear hK K')))); conv => whnf)
 | (refine And.intro ?_ ?_; all_goals (conv => whnf))
 | (refine if_decT (by omega) ?_; conv => whnf)
 | with_reducible apply_assumption -symm -exfalso)
  · subst hLk
    conv => whnf
    repeat' (first
 | with_reducible ((first | refine r_seq (fun KS hS => ?_) | (refine hS _ _ ?_; clear hS KS) | (refine hA _ ?_; clear hA KA) | (refine hB _ ?_; clear hB KB)))
 | ((with_reducible (first | refine r_region ?_ | refine r_cond (fun KA hA KB hB => ?_) | refine r_ret ?_ | refine r_skip ?_ | refine r_exit ?_ | refine And.intro rfl ?_ | intro b)); conv => whnf)
 | ((with_reducible refine CallK.id ?_); refine CallK.fresh (fun ms w hk => fenc207 (Sees.rd (Sees.ext (by repeat (first | with_reducible apply At.head | apply At.tail))) hk) hxs hLS hLI (by omega) hrb hdb) ?_; conv => whnf)
 | ((with_reducible refine OpK.id ?_); (first | refine OpK.cvBS' rfl rfl rfl rfl rfl rfl rfl rfl (Sees.ext (by repeat (first | with_reducible apply At.head | apply At.tail))) rfl ?_ | refine OpK.cvBS' rfl rfl rfl rfl rfl rfl rfl rfl (hs _ _) rfl ?_); conv => whnf)
 | (refine if_decF (by omega) ?_; conv => whnf)
 | ((first | refine if_dec (fun h => ?_) (fun h => ?_) | refine if_ndec (fun h => ?_) (fun h => ?_)); all_goals (conv => whnf))
 | with_reducible apply_assumption -symm -exfalso)
    all_goals first | exact FinK.frZ (i := 0) ⟨(rdT (some l)).1, rr, dd, a2, cap2, L, 0, by omega, hLS, by omega⟩ rfl (by (try dsimp only [List.cons_append, List.nil_append, den, denL]); refine SelI.spec ?_; (repeat (first | refine SelI.blk (by repeat (first | with_reducible apply Rm.head | apply Rm.tail)) ?_ | refine SelI.ext (by repeat (first | with_reducible apply Rm.head | apply Rm.tail)) ?_ | (refine SelI.blk' (by repeat (first | with_reducible apply Rm.head | apply Rm.tail)) ?_ ?_; focus rfl) | (refine SelI.ext' (by repeat (first | with_reducible apply Rm.head | apply Rm.tail)) ?_ ?_; focus rfl))); exact SelI.nil) | exact FinK.frZ (i := 0) ⟨⟨#[]⟩, 0, 0, none, 0, [], 10, by decide, (fun x h => by cases h), by decide⟩ rfl (HSub.addNil (HSub.none _))
end Go.Proofs.YtbgnoibellfojaaGreatDoor
