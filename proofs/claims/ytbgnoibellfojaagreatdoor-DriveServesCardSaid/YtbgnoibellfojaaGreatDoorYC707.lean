/- Contracts and lemmas for the claim (part 7); no condition of its own. -/
import Derived.Test.YtbgnoibellfojaaGreatDoorYC706
import Derived.Test.YtbgnoibellfojaaGreatDoorYC705
import Derived.Test.YtbgnoibellfojaaGreatDoorYC704
set_option linter.all false
set_option linter.unusedVariables false
set_option linter.unusedSimpArgs false
set_option linter.unnecessarySimpa false
namespace Go.Proofs.YtbgnoibellfojaaGreatDoor
open Go Go.X
set_option maxRecDepth 100000
set_option maxHeartbeats 0
theorem sok144 : SOk Tryz.prog [144] := sokB_spec (by kernel_rfl)
theorem feqDefS43 {r d : Int} {x : ByteArray} {l : List (ByteArray × Int)} {a : Option Addr} {n cap : Nat} {w : World} (hr : RdS w 144 2 a n cap (stC l)) (hl : l.length ≤ 8) : PuE Tryz.prog 43 #[.agg #[.string x, .int .i64 r, .int .i64 d, .slice a n cap], .agg #[.string x, .int .i64 r, .int .i64 d, .slice a n cap]] w (fun v => ∃ q, v = .bool q) := by
  have hlen := hr.len
  rw [stC_length] at hlen
  obtain rfl : n = l.length := by omega
  have hs := fun n' r H => Sees.old (c := ⟨Tryz.prog, TB, n', w, noS, r, TBok⟩) (H := H) hr.old
  refine enter_sound TBok Tryz.func43 rfl rfl Tryz.ntmps43 [.agg [.v (.string x), .v (.int .i64 r), .v (.int .i64 d), .v (.slice a l.length cap)], .agg [.v (.string x), .v (.int .i64 r), .v (.int .i64 d), .v (.slice a l.length cap)]] (Kn.start w noS) rfl rfl ?_
  conv => whnf
  repeat' (first
 | with_reducible ((first | refine r_seq (fun KS hS => ?_) | (refine hS _ _ ?_; clear hS KS) | (refine hB _ ?_; clear hB KB) | refine r_block ?_))
 | ((with_reducible (first | refine r_region ?_ | refine r_cond (fun KA hA KB hB => ?_) | refine r_skip ?_ | refine And.intro rfl ?_ | intro b)); conv => whnf)
 | (refine if_f (by first | rfl | (simp; done) | (simp; omega)) ?_; conv => whnf)
 | with_reducible apply_assumption -symm -exfalso)
  rename_i b2 _ _
  rename Nat => b3
  refine r_loop (α := Nat) (fun i => [(2, .loc b2 0 0), (3, .loc b3 1 0), (5, .v (.int .i64 (i : Nat)))]) (fun _ => [.blk 1 b3 [.v (.string x), .v (.int .i64 r), .v (.int .i64 d), .v (.slice a l.length cap)] 46, .blk 0 b2 [.v (.string x), .v (.int .i64 r), .v (.int .i64 d), .v (.slice a l.length cap)] 46]) (fun i => i ≤ l.length) (fun i => l.length - i) 0 (by omega) (by repeat' (first | exact Sub.nil | (refine Sub.cons rfl rfl ?_))) (by (try dsimp only [List.cons_append, List.nil_append, den, denL]); refine SelI.spec ?_; (repeat (first | refine SelI.blk (by repeat (first | with_reducible apply Rm.head | apply Rm.tail)) ?_ | refine SelI.ext (by repeat (first | with_reducible apply Rm.head | apply Rm.tail)) ?_ | (refine SelI.blk' (by repeat (first | with_reducible apply Rm.head | apply Rm.tail)) ?_ ?_; focus rfl) | (refine SelI.ext' (by repeat (first | with_reducible apply Rm.head | apply Rm.tail)) ?_ ?_; focus rfl))); exact SelI.nil) ?_
  rintro i h1 KL hL
  by_cases hi : i < l.length
  · have hst := stC_at l i hi
    conv => whnf
    repeat' (first
 | with_reducible ((first | refine r_seq (fun KS hS => ?_) | (refine hS _ _ ?_; clear hS KS) | (refine hA _ ?_; clear hA KA) | (refine hB _ ?_; clear hB KB) | refine r_block ?_))
 | ((with_reducible (first | refine r_region ?_ | refine r_cond (fun KA hA KB hB => ?_) | refine r_ret ?_ | refine r_skip ?_ | refine And.intro rfl ?_)); conv => whnf)
 | ((with_reducible refine WrapK.i64 ?_ ?_); (focus omega); conv => whnf)
 | (refine hL (i + 1) _ _ (by omega) (by omega) (by repeat' (first | exact Sub.nil | (refine Sub.cons rfl rfl ?_))) (by (try dsimp only [List.cons_append, List.nil_append, den, denL]); refine SelI.spec ?_; (repeat (first | refine SelI.blk (by repeat (first | with_reducible apply Rm.head | apply Rm.tail)) ?_ | refine SelI.ext (by repeat (first | with_reducible apply Rm.head | apply Rm.tail)) ?_ | (refine SelI.blk' (by repeat (first | with_reducible apply Rm.head | apply Rm.tail)) ?_ ?_; focus rfl) | (refine SelI.ext' (by repeat (first | with_reducible apply Rm.head | apply Rm.tail)) ?_ ?_; focus rfl))); exact SelI.nil))
 | ((with_reducible refine OpK.id ?_); (first | refine OpK.idx (k := 2) rfl rfl rfl rfl rfl rfl rfl (hs _ _ _) (by omega) (by omega) hst (fun b off hp => ?_) | refine OpK.ldp rfl rfl (by assumption) (List.cons_ne_nil _ _) ?_); conv => whnf)
 | ((with_reducible refine IK.id ?_); (refine IK.neqV sok144 rfl rfl rfl ?_); conv => whnf)
 | (apply r_any (id := 6); refine mixed; kernel_rfl; kernel_rfl; conv => whnf)
 | ((with_reducible ((first | refine InAt.mk (fun K' hK => ?_) | refine AnyAt.mk (fun K' hK => ?_) | (refine hK _ ?_; clear hK K') | (refine hK _ _ ?_; clear hK K')))); conv => whnf)
 | (refine And.intro ?_ ?_; all_goals (conv => whnf))
 | (refine if_decT (by omega) ?_; conv => whnf)
 | (refine if_cond (fun h => ?_) (fun h => ?_); all_goals (conv => whnf))
 | with_reducible apply_assumption -symm -exfalso)
    all_goals first | exact FinK.puE ⟨_, rfl⟩ | skip
  · conv => whnf
    repeat' (first
 | with_reducible ((first | refine r_seq (fun KS hS => ?_) | (refine hS _ _ ?_; clear hS KS) | (refine hB _ ?_; clear hB KB)))
 | ((with_reducible (first | refine r_region ?_ | refine r_cond (fun KA hA KB hB => ?_) | refine r_ret ?_ | refine r_exit ?_ | refine And.intro rfl ?_)); conv => whnf)
 | (refine if_decF (by omega) ?_; conv => whnf)
 | with_reducible apply_assumption -symm -exfalso)
    all_goals exact FinK.puE ⟨_, rfl⟩
theorem feqCmdS16 {q s r d : Int} {x : ByteArray} {l : List (ByteArray × Int)} {a : Option Addr} {n cap : Nat} {w : World} (hr : RdS w 144 2 a n cap (stC l)) (hl : l.length ≤ 8) : PuE Tryz.prog 16 #[.agg #[.int .i64 11, .int .i64 q, .int .i64 s, .int .i64 0, .int .i64 0, .int .i64 0, .string ⟨#[]⟩, .int .i64 0, .int .i64 0, .string ⟨#[]⟩, .string ⟨#[]⟩, .int .i64 0, .string x, .int .i64 r, .int .i64 d, .slice a n cap, .int .i64 0, .int .i64 0, .int .i64 0, .int .i64 0, .bool false, .int .i64 0, .int .i64 0, .string ⟨#[]⟩], .agg #[.int .i64 11, .int .i64 q, .int .i64 s, .int .i64 0, .int .i64 0, .int .i64 0, .string ⟨#[]⟩, .int .i64 0, .int .i64 0, .string ⟨#[]⟩, .string ⟨#[]⟩, .int .i64 0, .string x, .int .i64 r, .int .i64 d, .slice a n cap, .int .i64 0, .int .i64 0, .int .i64 0, .int .i64 0, .bool false, .int .i64 0, .int .i64 0, .string ⟨#[]⟩]] w (fun v => ∃ q, v = .bool q) := by
  have hlen := hr.len
  rw [stC_length] at hlen
  obtain rfl : n = l.length := by omega
  have hs := fun n' r H => Sees.old (c := ⟨Tryz.prog, TB, n', w, noS, r, TBok⟩) (H := H) hr.old
  refine enter_sound TBok Tryz.func16 rfl rfl Tryz.ntmps16 [.agg [.v (.int .i64 11), .v (.int .i64 q), .v (.int .i64 s), .v (.int .i64 0), .v (.int .i64 0), .v (.int .i64 0), .v (.string ⟨#[]⟩), .v (.int .i64 0), .v (.int .i64 0), .v (.string ⟨#[]⟩), .v (.string ⟨#[]⟩), .v (.int .i64 0), .v (.string x), .v (.int .i64 r), .v (.int .i64 d), .v (.slice a l.length cap), .v (.int .i64 0), .v (.int .i64 0), .v (.int .i64 0), .v (.int .i64 0), .v (.bool false), .v (.int .i64 0), .v (.int .i64 0), .v (.string ⟨#[]⟩)], .agg [.v (.int .i64 11), .v (.int .i64 q), .v (.int .i64 s), .v (.int .i64 0), .v (.int .i64 0), .v (.int .i64 0), .v (.string ⟨#[]⟩), .v (.int .i64 0), .v (.int .i64 0), .v (.string ⟨#[]⟩), .v (.string ⟨#[]⟩), .v (.int .i64 0), .v (.string x), .v (.int .i64 r), .v (.int .i64 d), .v (.slice a l.length cap), .v (.int .i64 0), .v (.int .i64 0), .v (.int .i64 0), .v (.int .i64 0), .v (.bool false), .v (.int .i64 0), .v (.int .i64 0), .v (.string ⟨#[]⟩)]] (Kn.start w noS) rfl rfl ?_
  conv => whnf
  repeat' (first
 | with_reducible ((first | refine r_seq (fun KS hS => ?_) | (refine hS _ _ ?_; clear hS KS)))
 | ((with_reducible (first | refine r_region ?_ | refine r_ret ?_ | refine And.intro rfl ?_ | intro b)); conv => whnf)
 | (refine if_t (by first | rfl | (simp; done) | (simp; omega)) ?_; conv => whnf)
 | ((with_reducible refine CallK.id ?_); refine CallK.puE (fun ms w hk => feqDefS43 (Sees.rd (hs _ _ _) hk) hl) ?_; rintro _ ⟨qe, rfl⟩; conv => whnf)
 | ((with_reducible apply OpK.more); (focus refine sok); (conv => whnf); fail_if_success guard_target =ₛ False)
 | (refine if_cond (fun h => ?_) (fun h => ?_); all_goals (conv => whnf)))
  all_goals first | exact FinK.puE ⟨_, rfl⟩ | skip
theorem fcheckStart130 {q s r d : Int} {x : ByteArray} {l : List (ByteArray × Int)} {a : Option Addr} {n cap : Nat} {w : World} (hr : RdS w 144 2 a n cap (stC l)) (hx : x.size ≤ 1099511627776) (hSt : StS l) (hl : l.length ≤ 8) : PuE Tryz.prog 130 #[.agg #[.int .i64 11, .int .i64 q, .int .i64 s, .int .i64 0, .int .i64 0, .int .i64 0, .string ⟨#[]⟩, .int .i64 0, .int .i64 0, .string ⟨#[]⟩, .string ⟨#[]⟩, .int .i64 0, .string x, .int .i64 r, .int .i64 d, .slice a n cap, .int .i64 0, .int .i64 0, .int .i64 0, .int .i64 0, .bool false, .int .i64 0, .int .i64 0, .string ⟨#[]⟩]] w (fun v => ∃ q, v = .int .i64 q) := by
  have hlen := hr.len
  rw [stC_length] at hlen
  obtain rfl : n = l.length := by omega
  have hs := fun n' r H => Sees.old (c := ⟨Tryz.prog, TB, n', w, noS, r, TBok⟩) (H := H) hr.old
  refine enter_sound TBok Tryz.func130 rfl rfl Tryz.ntmps130 [.agg [.v (.int .i64 11), .v (.int .i64 q), .v (.int .i64 s), .v (.int .i64 0), .v (.int .i64 0), .v (.int .i64 0), .v (.string ⟨#[]⟩), .v (.int .i64 0), .v (.int .i64 0), .v (.string ⟨#[]⟩), .v (.string ⟨#[]⟩), .v (.int .i64 0), .v (.string x), .v (.int .i64 r), .v (.int .i64 d), .v (.slice a l.length cap), .v (.int .i64 0), .v (.int .i64 0), .v (.int .i64 0), .v (.int .i64 0), .v (.bool false), .v (.int .i64 0), .v (.int .i64 0), .v (.string ⟨#[]⟩)]] (Kn.start w noS) rfl rfl ?_
  conv => whnf
  repeat' (first
 | with_reducible ((first | refine r_seq (fun KS hS => ?_) | (refine hS _ _ ?_; clear hS KS) | (refine hA _ ?_; clear hA KA) | (refine hB _ ?_; clear hB KB) | refine r_block ?_))
 | ((with_reducible (first | refine r_region ?_ | refine r_cond (fun KA hA KB hB => ?_) | refine r_ret ?_ | refine r_skip ?_ | refine And.intro rfl ?_ | intro b)); conv => whnf)
 | ((with_reducible refine CallK.id ?_); (first | apply in208 | apply in283 | apply in287); rfl; rfl; rfl; intro A; conv => whnf)
 | ((with_reducible refine CallK.id ?_); refine CallK.puE (fun ms w hk => feqCmdS16 (Sees.rd (hs _ _ _) hk) hl) ?_; rintro _ ⟨qe, rfl⟩; conv => whnf)
 | ((with_reducible refine CallK.id ?_); refine CallK.puE (fun ms w hk => fdefn281 (Sees.rd (hs _ _ _) hk) hx hSt hl) ?_; rintro _ ⟨qe, rfl⟩; conv => whnf)
 | ((first | refine if_dec (fun h => ?_) (fun h => ?_) | refine if_ndec (fun h => ?_) (fun h => ?_) | refine if_cond (fun h => ?_) (fun h => ?_)); all_goals (conv => whnf))
 | with_reducible apply_assumption -symm -exfalso)
  all_goals first | exact FinK.puE ⟨_, rfl⟩ | skip
end Go.Proofs.YtbgnoibellfojaaGreatDoor
