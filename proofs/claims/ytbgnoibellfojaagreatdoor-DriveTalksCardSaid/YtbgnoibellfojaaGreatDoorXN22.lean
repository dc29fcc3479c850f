/- Contracts and lemmas for the claim (part XN22); no condition of its own. -/
import Derived.Test.YtbgnoibellfojaaGreatDoorXN7
import Derived.Test.YtbgnoibellfojaaGreatDoorXT
import Derived.Test.YtbgnoibellfojaaGreatDoorXB
set_option linter.all false
set_option linter.unusedVariables false
set_option linter.unusedSimpArgs false
set_option linter.unnecessarySimpa false
namespace Go.Proofs.YtbgnoibellfojaaGreatDoor
open Go Go.X
set_option maxRecDepth 100000
set_option maxHeartbeats 0
theorem EntAt.now {W w : World} {a : Option Addr} {n : Nat} {ms : List Nat} {H : List Blk} (h : EntAt W a n) (hk : Kn W noS ms H w) : EntAt w a n := by
  rcases h with rfl | ⟨b, off, C, t, f, rfl, h1, h2⟩
  · exact .inl rfl
  · exact .inr ⟨b, off, C, t, f, rfl, by rw [Kn0.old hk b (Array.getElem?_eq_some_iff.1 h1).1 (fun h => h)]; exact h1, h2⟩
theorem driveNil8 {w : World} (hka : KAt w) {me : Int} {x1 x2 x3 x4 : Int} {x5 : Bool} {x6 : Int} {k f t br bn sl nu : Int} {v : ByteArray} {a : Option Addr} {n cap : Nat} (hv : v.size ≤ 9223372036854775807) (he : EntAt w a n) (hn : n ≤ 9223372036854775807) : Pu Tryz.prog 8 #[.int .i64 me, .agg #[.int .i64 x1, .int .i64 x2, .int .i64 x3, .int .i64 x4, .bool x5, .int .i64 x6], .agg #[.int .i64 k, .int .i64 f, .int .i64 t, .int .i64 br, .int .i64 bn, .int .i64 sl, .int .i64 nu, .string v, .slice a n cap]] w (.bool true) := by
  refine enter_sound TBok Tryz.func8 rfl rfl Tryz.ntmps8 [.v (.int .i64 me), .agg [.v (.int .i64 x1), .v (.int .i64 x2), .v (.int .i64 x3), .v (.int .i64 x4), .v (.bool x5), .v (.int .i64 x6)], .agg [.v (.int .i64 k), .v (.int .i64 f), .v (.int .i64 t), .v (.int .i64 br), .v (.int .i64 bn), .v (.int .i64 sl), .v (.int .i64 nu), .v (.string v), .v (.slice a n cap)]] (Kn.start w noS) rfl rfl ?_
  conv => whnf
  repeat' (first
    | ((with_reducible refine r_seq (fun KS hS => ?_)))
    | ((with_reducible refine r_region ?_); conv => whnf)
    | ((with_reducible refine r_cond (fun KA hA KB hB => ?_)); conv => whnf)
    | ((with_reducible refine hS _ _ ?_); clear hS KS)
    | ((with_reducible refine hA _ ?_); clear hA KA)
    | ((with_reducible refine hB _ ?_); clear hB KB)
    | ((with_reducible refine r_block ?_))
    | ((with_reducible refine r_ret ?_); conv => whnf)
    | ((with_reducible refine r_skip ?_); conv => whnf)
    | ((with_reducible refine r_exit ?_); conv => whnf)
    | ((with_reducible refine WrapK.i64 ?_ ?_); (focus omega); conv => whnf)
    | ((with_reducible refine And.intro rfl ?_); conv => whnf)
    | ((with_reducible intro b); conv => whnf)
    | (apply r_any (id := 12); refine mixed; kernel_rfl; kernel_rfl; conv => whnf)
    | (apply in36; refine Tryz.ntmps36; rfl; rfl; rfl; intro A; conv => whnf)
    | ((with_reducible refine CallK.id ?_); refine CallK.fresh (fun ms w hk => few9 hv (he.now hk) hn) ?_; conv => whnf)
    | ((with_reducible refine CallK.at 10 ?_); refine CallK.puW (fun ms w hk => works10 (hka.now (fun h => h) hk)) ?_; conv => whnf)
    | ((with_reducible refine CallK.at 35 ?_); refine CallK.puW (fun ms w hk => nilReset35 (nil45n w)) ?_; conv => whnf)
    | ((with_reducible refine CallK.at 35 ?_); refine CallK.puW (fun ms w hk => nilReset35 (nil45z (hk.got (by repeat (first | constructor | apply List.Mem.tail))))) ?_; conv => whnf)
    | ((with_reducible refine CallK.at 14 ?_); refine CallK.puW (fun ms w hk => nilServe14 (nil45n w)) ?_; conv => whnf)
    | ((with_reducible refine CallK.at 14 ?_); refine CallK.puW (fun ms w hk => nilServe14 (nil45z (hk.got (by repeat (first | constructor | apply List.Mem.tail))))) ?_; conv => whnf)
    | ((with_reducible refine CallK.at 31 ?_); refine CallK.puW (fun ms w hk => nilAnswer31 (nil45n w)) ?_; conv => whnf)
    | ((with_reducible refine CallK.at 31 ?_); refine CallK.puW (fun ms w hk => nilAnswer31 (nil45z (hk.got (by repeat (first | constructor | apply List.Mem.tail))))) ?_; conv => whnf)
    | ((with_reducible refine CallK.at 20 ?_); refine CallK.puW (fun ms w hk => nilTarget20 (nil45n w)) ?_; conv => whnf)
    | ((with_reducible refine CallK.at 20 ?_); refine CallK.puW (fun ms w hk => nilTarget20 (nil45z (hk.got (by repeat (first | constructor | apply List.Mem.tail))))) ?_; conv => whnf)
    | ((with_reducible refine CallK.at 18 ?_); refine CallK.puW (fun ms w hk => nilAnswerTo18 (nil45n w)) ?_; conv => whnf)
    | ((with_reducible refine CallK.at 18 ?_); refine CallK.puW (fun ms w hk => nilAnswerTo18 (nil45z (hk.got (by repeat (first | constructor | apply List.Mem.tail))))) ?_; conv => whnf)
    | ((with_reducible refine CallK.at 24 ?_); refine CallK.puW (fun ms w hk => nilTick24 (nil45n w)) ?_; conv => whnf)
    | ((with_reducible refine CallK.at 24 ?_); refine CallK.puW (fun ms w hk => nilTick24 (nil45z (hk.got (by repeat (first | constructor | apply List.Mem.tail))))) ?_; conv => whnf)
    | ((with_reducible refine CallK.at 25 ?_); refine CallK.puW (fun ms w hk => nilWaiting25 (nil45n w)) ?_; conv => whnf)
    | ((with_reducible refine CallK.at 25 ?_); refine CallK.puW (fun ms w hk => nilWaiting25 (nil45z (hk.got (by repeat (first | constructor | apply List.Mem.tail))))) ?_; conv => whnf)
    | ((with_reducible refine CallK.at 37 ?_); refine CallK.puW (fun ms w hk => nilCopy37 (nil45n w)) ?_; conv => whnf)
    | ((with_reducible refine CallK.at 37 ?_); refine CallK.puW (fun ms w hk => nilCopy37 (nil45z (hk.got (by repeat (first | constructor | apply List.Mem.tail))))) ?_; conv => whnf)
    | ((with_reducible refine QK.id ?_); (refine QK.neqV sok rfl rfl rfl ?_); conv => whnf)
    | ((with_reducible refine IK.id ?_); (refine IK.neqV sok rfl rfl rfl ?_); conv => whnf)
    | ((with_reducible refine QK.id ?_); (refine QK.bld rfl ?_); conv => whnf)
    | ((with_reducible refine IK.id ?_); (refine IK.bld rfl ?_); conv => whnf)
    | ((with_reducible refine QK.id ?_); (refine QK.eqV sok rfl rfl rfl ?_); conv => whnf)
    | ((with_reducible refine IK.id ?_); (refine IK.eqV sok rfl rfl rfl ?_); conv => whnf)
    | ((with_reducible refine CallK.id ?_); refine CallK.pu zeroCmd16 ?_; conv => whnf)
    | ((with_reducible refine CallK.id ?_); refine CallK.pu zeroMsg17 ?_; conv => whnf)
    | ((with_reducible apply OpK.more); (focus refine sok); (conv => whnf); fail_if_success guard_target =ₛ False)
    | ((with_reducible refine Rounds.step (fun KL hL => ?_)))
    | ((with_reducible refine hL _ _ ?_); clear hL KL)
    | ((with_reducible refine r_rounds 100 ?_))
    | ((with_reducible refine InAt.mk (fun K' hK => ?_)); conv => whnf)
    | ((with_reducible refine AnyAt.mk (fun K' hK => ?_)); conv => whnf)
    | ((with_reducible refine hK _ ?_); clear hK K'; conv => whnf)
    | ((with_reducible refine hK _ _ ?_); clear hK K'; conv => whnf)
    | ((refine And.intro ?_ ?_); all_goals (conv => whnf))
    | (apply r_quiet; refine mixed; kernel_rfl; kernel_rfl; kernel_rfl; conv => whnf)
    | ((refine if_t ?_ ?_); (focus decide); conv => whnf)
    | ((refine if_f ?_ ?_); (focus decide); conv => whnf)
    | ((refine if_decT ?_ ?_); (focus omega); conv => whnf)
    | ((refine if_decF ?_ ?_); (focus omega); conv => whnf)
    | ((refine if_ndecT ?_ ?_); (focus omega); conv => whnf)
    | ((refine if_ndecF ?_ ?_); (focus omega); conv => whnf)
    | ((refine if_dec (fun h => ?_) (fun h => ?_)); all_goals (conv => whnf))
    | ((refine if_ndec (fun h => ?_) (fun h => ?_)); all_goals (conv => whnf))
    | ((refine if_cond (fun h => ?_) (fun h => ?_)); all_goals (conv => whnf))
    | ((with_reducible apply_assumption -symm -exfalso)))
  all_goals exact FinK.pu rfl
end Go.Proofs.YtbgnoibellfojaaGreatDoor

