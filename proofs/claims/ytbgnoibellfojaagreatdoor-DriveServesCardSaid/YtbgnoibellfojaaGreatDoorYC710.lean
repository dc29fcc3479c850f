/- Contracts and lemmas for the claim (part 10); no condition of its own. -/
import Derived.Test.YtbgnoibellfojaaGreatDoorYC709
set_option linter.all false
set_option linter.unusedVariables false
set_option linter.unusedSimpArgs false
set_option linter.unnecessarySimpa false
namespace Go.Proofs.YtbgnoibellfojaaGreatDoor
open Go Go.X
set_option maxRecDepth 100000
set_option maxHeartbeats 0
theorem serves3 {w : World} (hka : KAt w) {n0 g0 : Int} (hn0 : 0 ≤ n0 ∧ n0 ≤ 255) (hg0 : 0 ≤ g0 ∧ g0 ≤ 255) {k F T br bn sl nu : Int} {v : ByteArray} {la : Option Addr} {ln lc : Nat} (hv : v.size ≤ 9223372036854775807) (hent : EntAt w la ln) (hln : ln ≤ 9223372036854775807) {e rn : Int} {rx : ByteArray} {was : Bool} {c1 c2 : CmdC} {a b c d : Int} {x : ByteArray} {p1 q1 p2 q2 : Bool} {a0 a1 a2 a6 ae : Int} {ax : ByteArray}
    (hs : SrvC (.agg #[.int .i64 k, .int .i64 F, .int .i64 T, .int .i64 br, .int .i64 bn, .int .i64 sl, .int .i64 nu, .string v, .slice la ln lc]) (.agg #[.int .i64 e, .int .i64 rn, .string rx]) (1 + n0 % 7) (2 + g0 % 7) e rn rx was c1 c2 a b c d x p1 q1 p2 q2) (ha : AnsC (.agg #[.int .i64 k, .int .i64 F, .int .i64 T, .int .i64 br, .int .i64 bn, .int .i64 sl, .int .i64 nu, .string v, .slice la ln lc]) (.agg #[.int .i64 e, .int .i64 rn, .string rx]) (1 + n0 % 7) (2 + g0 % 7) a0 a1 a2 a6 ax ae) : Pu Tryz.prog 3 #[.int .u8 n0, .int .u8 g0, .agg #[.int .i64 k, .int .i64 F, .int .i64 T, .int .i64 br, .int .i64 bn, .int .i64 sl, .int .i64 nu, .string v, .slice la ln lc], .agg #[.int .i64 e, .int .i64 rn, .string rx], .bool was] w (.bool true) := by
  obtain ⟨n, hn, hn7⟩ : ∃ n0' : Int, n0.tmod 7 = n0' ∧ n0 % 7 = n0' := ⟨_, rfl, (IntWalk.rem_in _ _ hn0.1).symm⟩
  obtain ⟨g, hg, hg7⟩ : ∃ n0' : Int, g0.tmod 7 = n0' ∧ g0 % 7 = n0' := ⟨_, rfl, (IntWalk.rem_in _ _ hg0.1).symm⟩
  have hn1 : 0 ≤ n ∧ n ≤ 6 := by omega
  have hg1 : 0 ≤ g ∧ g ≤ 6 := by omega
  rw [hn7, hg7] at hs ha
  clear hn7 hg7
  obtain ⟨hsA, hsB, hrA, hrB, hnA, hnB, hsm⟩ := hs
  obtain ⟨haP, haR⟩ := ha
  cases was
  · obtain ⟨rfl, rfl, rfl, rfl, rfl, rfl, rfl, rfl⟩ := hsm rfl
    obtain ⟨kd, cl, sg, cs, ct, cp, key, cd, mv, fr, tt, gr, dn, dr, dd, sa, sn, sc, ia, ib, ic, id, ie, ig, rs, cx⟩ := c2
    obtain ⟨rfl, rfl, rfl, rfl, rfl, rfl⟩ := hnA
    clear hnB hsm hrB
    unfold CmdC.V at hsA hsB hrA
    dsimp only at hsA hsB hrA
    refine enter_sound TBok Tryz.func3 rfl rfl Tryz.ntmps3 [.v (.int .u8 n0), .v (.int .u8 g0), .agg [.v (.int .i64 k), .v (.int .i64 F), .v (.int .i64 T), .v (.int .i64 br), .v (.int .i64 bn), .v (.int .i64 sl), .v (.int .i64 nu), .v (.string v), .v (.slice la ln lc)], .agg [.v (.int .i64 e), .v (.int .i64 rn), .v (.string rx)], .v (.bool false)] (Kn.start w noS) rfl rfl ?_
    conv => whnf
    repeat' (first
 | with_reducible ((first | refine r_seq (fun KS hS => ?_) | (refine hS _ _ ?_; clear hS KS) | (refine hA _ ?_; clear hA KA) | (refine hB _ ?_; clear hB KB) | refine r_block ?_))
 | ((with_reducible (first | refine r_region ?_ | refine r_cond (fun KA hA KB hB => ?_) | refine r_ret ?_ | refine r_skip ?_ | refine r_exit ?_ | refine And.intro rfl ?_ | intro b)); conv => whnf)
 | ((with_reducible refine WrapK.i64 ?_ ?_); (focus omega); conv => whnf)
 | ((with_reducible refine CallK.id ?_); refine CallK.fresh (fun ms w hk => few9 hv (hent.nowS hk) hln) ?_; conv => whnf)
 | ((with_reducible refine CallK.at 10 ?_); refine CallK.puW (fun ms w hk => works10 (hka.now (fun h => h) hk)) ?_; conv => whnf)
 | ((with_reducible refine RemK.id ?_); (first | refine RemK.eq (by omega) hn ?_ | refine RemK.eq (by omega) hg ?_); conv => whnf)
 | (refine newCall (n := 1 + n) (gs := 2 + g) (by omega) (by omega) (fun z => ?_); conv => whnf)
 | (refine newCallR (n := 1 + n) (gs := 2 + g) (by omega) (by omega) (fun zr => ?_); conv => whnf)
 | ((with_reducible refine CallK.id ?_); (first | refine CallK.puW (fun ms w hk => hsA (hk.got (by repeat (first | constructor | apply List.Mem.tail))) (hka.now (fun h => h) hk)) ?_ | refine CallK.puW (fun ms w hk => hsB (hk.got (by repeat (first | constructor | apply List.Mem.tail))) (hka.now (fun h => h) hk) (OldC.of (hk.got (by repeat (first | constructor | apply List.Mem.tail)))) (OldC.of (hk.got (by repeat (first | constructor | apply List.Mem.tail)))) (ne_ty (hk.got (by repeat (first | constructor | apply List.Mem.tail))) (hk.got (by repeat (first | constructor | apply List.Mem.tail))) (by decide)) (ne_ty (hk.got (by repeat (first | constructor | apply List.Mem.tail))) (hk.got (by repeat (first | constructor | apply List.Mem.tail))) (by decide))) ?_ | refine CallK.puW (fun ms w hk => hrA (hk.got (by repeat (first | constructor | apply List.Mem.tail)))) ?_ | refine CallK.puW (fun ms w hk => haP (hk.got (by repeat (first | constructor | apply List.Mem.tail))) (hka.now (fun h => h) hk)) ?_ | refine CallK.puW (fun ms w hk => haR (hk.got (by repeat (first | constructor | apply List.Mem.tail)))) ?_); conv => whnf)
 | ((with_reducible refine CallK.at 16 ?_); refine CallK.pu (fun w => feqCmd16 w) ?_; conv => whnf)
 | ((with_reducible refine CallK.at 17 ?_); refine CallK.pu (fun w => feqMsg17 w) ?_; conv => whnf)
 | (refine if_t (by first | rfl | (simp; done) | (simp; omega)) ?_; conv => whnf)
 | (refine if_f (by first | rfl | (simp; done) | (simp; omega)) ?_; conv => whnf)
 | ((with_reducible apply OpK.more); (focus refine sok); (conv => whnf); fail_if_success guard_target =ₛ False)
 | with_reducible (first | refine Rounds.step (fun KL hL => ?_) | refine r_rounds 100 ?_)
 | ((first | refine if_dec (fun h => ?_) (fun h => ?_) | refine if_cond (fun h => ?_) (fun h => ?_)); all_goals (conv => whnf))
 | with_reducible apply_assumption -symm -exfalso)
    all_goals exact FinK.pu rfl
  clear hsm
  obtain ⟨kd, cl, sg, cs, ct, cp, key, cd, mv, fr, tt, gr, dn, dr, dd, sa, sn, sc, ia, ib, ic, id, ie, ig, rs, cx⟩ := c1
  obtain ⟨rfl, rfl, rfl, rfl, rfl, rfl⟩ := hnA
  obtain ⟨kd2, cl2, sg2, cs2, ct2, cp2, key2, cd2, mv2, fr2, tt2, gr2, dn, dr, dd, sa, sn, sc, ia2, ib2, ic2, id2, ie2, ig2, rs2, cx2⟩ := c2
  obtain ⟨rfl, rfl, rfl, rfl, rfl, rfl⟩ := hnB
  unfold CmdC.V at hsA hsB hrA hrB
  dsimp only at hsA hsB hrA hrB
  refine enter_sound TBok Tryz.func3 rfl rfl Tryz.ntmps3 [.v (.int .u8 n0), .v (.int .u8 g0), .agg [.v (.int .i64 k), .v (.int .i64 F), .v (.int .i64 T), .v (.int .i64 br), .v (.int .i64 bn), .v (.int .i64 sl), .v (.int .i64 nu), .v (.string v), .v (.slice la ln lc)], .agg [.v (.int .i64 e), .v (.int .i64 rn), .v (.string rx)], .v (.bool true)] (Kn.start w noS) rfl rfl ?_
  conv => whnf
  repeat' (first
 | with_reducible ((first | refine r_seq (fun KS hS => ?_) | (refine hS _ _ ?_; clear hS KS) | (refine hA _ ?_; clear hA KA) | (refine hB _ ?_; clear hB KB) | refine r_block ?_))
 | ((with_reducible (first | refine r_region ?_ | refine r_cond (fun KA hA KB hB => ?_) | refine r_ret ?_ | refine r_skip ?_ | refine r_exit ?_ | refine And.intro rfl ?_ | intro b)); conv => whnf)
 | ((with_reducible refine WrapK.i64 ?_ ?_); (focus omega); conv => whnf)
 | ((with_reducible refine CallK.id ?_); refine CallK.fresh (fun ms w hk => few9 hv (hent.nowS hk) hln) ?_; conv => whnf)
 | ((with_reducible refine CallK.at 10 ?_); refine CallK.puW (fun ms w hk => works10 (hka.now (fun h => h) hk)) ?_; conv => whnf)
 | ((with_reducible refine RemK.id ?_); (first | refine RemK.eq (by omega) hn ?_ | refine RemK.eq (by omega) hg ?_); conv => whnf)
 | (refine newCall (n := 1 + n) (gs := 2 + g) (by omega) (by omega) (fun z => ?_); conv => whnf)
 | (refine newCallR (n := 1 + n) (gs := 2 + g) (by omega) (by omega) (fun zr => ?_); conv => whnf)
 | ((with_reducible refine CallK.id ?_); (first | refine CallK.puW (fun ms w hk => hsA (hk.got (by repeat (first | constructor | apply List.Mem.tail))) (hka.now (fun h => h) hk)) ?_ | refine CallK.puW (fun ms w hk => hsB (hk.got (by repeat (first | constructor | apply List.Mem.tail))) (hka.now (fun h => h) hk) (OldC.of (hk.got (by repeat (first | constructor | apply List.Mem.tail)))) (OldC.of (hk.got (by repeat (first | constructor | apply List.Mem.tail)))) (ne_ty (hk.got (by repeat (first | constructor | apply List.Mem.tail))) (hk.got (by repeat (first | constructor | apply List.Mem.tail))) (by decide)) (ne_ty (hk.got (by repeat (first | constructor | apply List.Mem.tail))) (hk.got (by repeat (first | constructor | apply List.Mem.tail))) (by decide))) ?_ | refine CallK.puW (fun ms w hk => hrA (hk.got (by repeat (first | constructor | apply List.Mem.tail)))) ?_ | refine CallK.puW (fun ms w hk => hrB (hk.got (by repeat (first | constructor | apply List.Mem.tail)))) ?_ | refine CallK.puW (fun ms w hk => haP (hk.got (by repeat (first | constructor | apply List.Mem.tail))) (hka.now (fun h => h) hk)) ?_ | refine CallK.puW (fun ms w hk => haR (hk.got (by repeat (first | constructor | apply List.Mem.tail)))) ?_); conv => whnf)
 | ((with_reducible refine CallK.at 16 ?_); refine CallK.pu (fun w => feqCmd16 w) ?_; conv => whnf)
 | ((with_reducible refine CallK.at 17 ?_); refine CallK.pu (fun w => feqMsg17 w) ?_; conv => whnf)
 | (refine if_t (by first | rfl | (simp; done) | (simp; omega)) ?_; conv => whnf)
 | (refine if_f (by first | rfl | (simp; done) | (simp; omega)) ?_; conv => whnf)
 | ((with_reducible apply OpK.more); (focus refine sok); (conv => whnf); fail_if_success guard_target =ₛ False)
 | with_reducible (first | refine Rounds.step (fun KL hL => ?_) | refine r_rounds 100 ?_)
 | ((first | refine if_dec (fun h => ?_) (fun h => ?_) | refine if_cond (fun h => ?_) (fun h => ?_)); all_goals (conv => whnf))
 | with_reducible apply_assumption -symm -exfalso)
  all_goals exact FinK.pu rfl
end Go.Proofs.YtbgnoibellfojaaGreatDoor

namespace Go.Proofs.YtbgnoibellfojaaGreatDoor
open Go Go.X
set_option maxRecDepth 100000
set_option maxHeartbeats 0
theorem driveServes3 {w : World} (hka : KAt w) {n0 g0 : Int} (hn0 : 0 ≤ n0 ∧ n0 ≤ 255) (hg0 : 0 ≤ g0 ∧ g0 ≤ 255) {k F T br bn sl nu : Int} {v : ByteArray} {la : Option Addr} {ln lc : Nat} (hv : v.size ≤ 9223372036854775807) (hent : EntAt w la ln) (hln : ln ≤ 9223372036854775807) {e rn : Int} {rx : ByteArray} {was : Bool} :
    Pu Tryz.prog 3 #[.int .u8 n0, .int .u8 g0, .agg #[.int .i64 k, .int .i64 F, .int .i64 T, .int .i64 br, .int .i64 bn, .int .i64 sl, .int .i64 nu, .string v, .slice la ln lc], .agg #[.int .i64 e, .int .i64 rn, .string rx], .bool was] w (.bool true) := by
  rcases quest (k := k) (F := F) (T := T) (br := br) (bn := bn) (sl := sl) (nu := nu) (v := v) (la := la) (ln := ln) (lc := lc) (n := 1 + n0 % 7) (gs := 2 + g0 % 7) (by omega) with ⟨s, t, p, mv, i, g, c, h⟩ | h
  · obtain ⟨a0, a1, a2, a6, ax, ae, ha⟩ := ansGood (e := e) (rn := rn) (rx := rx) h
    obtain ⟨c2, b0, b1, b2, b6, bx, p2, q2, hs⟩ := serveGood (was := was) h ha
    exact serves3 hka hn0 hg0 hv hent hln hs ha
  · exact serves3 hka hn0 hg0 hv hent hln (serveBad h) (ansBad h)
end Go.Proofs.YtbgnoibellfojaaGreatDoor
