/- Contracts and lemmas for the claim (part XN24); no condition of its own. -/
import Derived.Test.YtbgnoibellfojaaGreatDoorXN23
set_option linter.all false
set_option linter.unusedVariables false
set_option linter.unusedSimpArgs false
set_option linter.unnecessarySimpa false
namespace Go.Proofs.YtbgnoibellfojaaGreatDoor
open Go Go.X
set_option maxRecDepth 100000
set_option maxHeartbeats 0

theorem tickFirstC24 {s t p m : Int} {i : Bool} {g kd : Int} {key : ByteArray} {dl : Int} {fr data : ByteArray} {num : Nat} {enc : List UInt8} {n gs tk me : Int} {d mp bi clk : Nat} (hC : CmdFor s t p m i g kd key dl fr data num enc) (hn7 : 1 ≤ n ∧ n ≤ 7) (hgs : g < gs) (hme : 0 ≤ me ∧ me < n) (htk : 0 ≤ tk ∧ tk ≤ 999999) (w : World) :
    FrZ Tryz.prog 24 #[pv d, .int .i64 me, .slice (some ⟨bi, 0, none⟩) 1 1, .func (.func 27) #[] #[]] w (AssL [.blk 9 bi [.v (.int .i64 s), .v (.int .i64 t), .v (.int .i64 p), .v (.int .i64 m), .v (.bool i), .v (.int .i64 g)] 48, .ext 4 (MpA mp [] clk), .blk 3 d (DC n gs tk mp) 81]) (fun z : Option Addr × Nat => .slice z.1 1 z.2) (fun z => AssL [.ext 70 (SlA 26 9 z.1 1 z.2 [.int .i64 10, .int .i64 me, .int .i64 (g * n + 0 % n), .int .i64 0, .int .i64 0, .int .i64 0, .int .i64 (num : Nat), .string ⟨enc.toArray⟩, .slice none 0 0]), .blk 9 bi [.v (.int .i64 s), .v (.int .i64 t), .v (.int .i64 p), .v (.int .i64 m), .v (.bool i), .v (.int .i64 g)] 48, .ext 4 (MpA mp [⟨.int .i64 num, .agg #[.int .i64 (0 + 1), .int .i64 (tk + 1)], clk⟩] (clk + 1)), .blk 3 d (DC n gs (tk + 1) mp) 81]) := by
  have hok := hC.item
  have hnum := hC.numEq
  refine enter_frZ TBok (H := [.blk 9 bi [.v (.int .i64 s), .v (.int .i64 t), .v (.int .i64 p), .v (.int .i64 m), .v (.bool i), .v (.int .i64 g)] 48, .ext 4 (MpA mp [] clk), .blk 3 d (DC n gs tk mp) 81]) all_foot Tryz.func24 rfl rfl Tryz.ntmps24 [.loc d 3 0, .v (.int .i64 me), .slc bi 9 0 1 1, .fn 27 []] rfl rfl ?_
  intro S _ _
  unfold DC
  conv => whnf
  repeat' (first
    | ((with_reducible refine r_seq (fun KS hS => ?_)))
    | ((with_reducible refine r_region ?_); conv => whnf)
    | ((with_reducible refine r_cond (fun KA hA KB hB => ?_)); conv => whnf)
    | ((with_reducible refine hS _ _ ?_); clear hS KS)
    | ((with_reducible refine hA _ ?_); clear hA KA)
    | ((with_reducible refine hB _ ?_); clear hB KB)
    | ((with_reducible refine r_block ?_))
    | ((with_reducible refine r_ret ?_); conv => whnf)
    | ((with_reducible refine r_skip ?_); conv => whnf)
    | ((with_reducible refine r_exit ?_); conv => whnf)
    | ((with_reducible refine WrapK.i64 ?_ ?_); (focus omega); conv => whnf)
    | ((with_reducible refine And.intro rfl ?_); conv => whnf)
    | ((with_reducible intro b); conv => whnf)
    | (apply in57; refine Tryz.ntmps57; rfl; rfl; rfl; intro A; conv => whnf)
    | (apply in58; refine Tryz.ntmps58; rfl; rfl; rfl; intro A; conv => whnf)
    | (apply in59; refine Tryz.ntmps59; rfl; rfl; rfl; intro A; conv => whnf)
    | (apply in60; refine Tryz.ntmps60; rfl; rfl; rfl; intro A; conv => whnf)
    | ((with_reducible refine CallQ.at 45 ?_); refine CallQ.puW (fun ms w hk => made45 (hk.got (by repeat (first | constructor | apply List.Mem.tail)))) ?_; conv => whnf)
    | ((with_reducible refine QK.id ?_); (refine QK.eqV sok rfl rfl rfl ?_); conv => whnf)
    | ((with_reducible refine IK.id ?_); (refine IK.eqV sok rfl rfl rfl ?_); conv => whnf)
    | ((with_reducible refine OpK.id ?_); refine OpK.mkM rfl ?_; conv => whnf)
    | (intro m; conv => whnf)
    | ((with_reducible refine CallK.at 20 ?_); refine CallK.puW (fun ms w hk => target20 (hk.got (by repeat (first | constructor | apply List.Mem.tail))) hok hn7 hgs (by omega)) ?_; conv => whnf)
    | ((with_reducible refine CallK.at 70 ?_); refine CallK.pu (fun w => numOk70 hok w) ?_; rw [← hnum]; conv => whnf)
    | ((with_reducible refine OpK.id ?_); refine OpK.upE rfl rfl rfl rfl rfl rfl rfl rfl (by repeat (first | with_reducible apply At.head | apply At.tail)) ?_; conv => whnf)
    | ((with_reducible refine OpK.id ?_); refine OpK.rngM rfl rfl rfl rfl (by repeat (first | with_reducible apply At.head | apply At.tail)) ?_; conv => whnf)
    | ((with_reducible refine OpK.id ?_); refine OpK.nxE rfl rfl (by repeat (first | with_reducible apply At.head | apply At.tail)) (by repeat (first | with_reducible apply At.head | apply At.tail)) ?_; conv => whnf)
    | ((with_reducible apply OpK.more); (focus refine sok); (conv => whnf); fail_if_success guard_target =ₛ False)
    | ((with_reducible refine Rounds.step (fun KL hL => ?_)))
    | ((with_reducible refine hL _ _ ?_); clear hL KL)
    | ((with_reducible refine r_rounds 100 ?_))
    | ((with_reducible refine InAt.mk (fun K' hK => ?_)); conv => whnf)
    | ((with_reducible refine AnyAt.mk (fun K' hK => ?_)); conv => whnf)
    | ((with_reducible refine hK _ ?_); clear hK K'; conv => whnf)
    | ((with_reducible refine hK _ _ ?_); clear hK K'; conv => whnf)
    | ((refine And.intro ?_ ?_); all_goals (conv => whnf))
    | (apply r_quiet; refine mixed; kernel_rfl; kernel_rfl; kernel_rfl; conv => whnf)
    | ((refine if_t ?_ ?_); (focus decide); conv => whnf)
    | ((refine if_f ?_ ?_); (focus decide); conv => whnf)
    | ((refine if_decT ?_ ?_); (focus omega); conv => whnf)
    | ((refine if_decF ?_ ?_); (focus omega); conv => whnf)
    | ((refine if_ndecT ?_ ?_); (focus omega); conv => whnf)
    | ((refine if_ndecF ?_ ?_); (focus omega); conv => whnf)
    | ((refine if_dec (fun h => ?_) (fun h => ?_)); all_goals (conv => whnf))
    | ((refine if_ndec (fun h => ?_) (fun h => ?_)); all_goals (conv => whnf))
    | ((refine if_cond (fun h => ?_) (fun h => ?_)); all_goals (conv => whnf))
    | ((with_reducible apply_assumption -symm -exfalso)))
  rename_i b8 b7 b6 _ _ _ _ _ _ _ b5 _ _ _ _ _ _ _ _ _ _ b4 _ _ _ _ _ _ b3 _ _ _ b2 _ _ b1 b0
  let X : Nat → Ass := fun q => AssL (.ext 17 (BxA 66 26 9 b1 q (([.int .i64 10, .int .i64 me, .int .i64 (g * n + 0 % n), .int .i64 0, .int .i64 0, .int .i64 0, .int .i64 (num : Nat), .string ⟨enc.toArray⟩, .slice none 0 0] : List Value).take (9 * q))) :: [.blk 15 b3 [.v (.map (some b5))] 116, .blk 12 b6 [.fn 27 []] 64, .blk 11 b7 [.v (.int .i64 me)] 3, .blk 10 b8 [.loc d 3 0] 32, .blk 9 bi [.v (.int .i64 s), .v (.int .i64 t), .v (.int .i64 p), .v (.int .i64 m), .v (.bool i), .v (.int .i64 g)] 48])
  let HH : Nat → List Blk := fun q => [.blk 3 d (DC n gs (tk + 1) mp) 81, .ext 4 (if q = 0 then MpA mp [] clk else MpA mp [⟨.int .i64 num, .agg #[.int .i64 (0 + 1), .int .i64 (tk + 1)], clk⟩] (clk + 1)), .ext 5 (MpA b5 [⟨.int .i64 num, .agg #[.int .i64 s, .int .i64 t, .int .i64 p, .int .i64 m, .bool i, .int .i64 g], 0⟩] (0 + 1)), .ext 9 (X q)]
  refine r_rangeFuncH (HH := HH) (xs := [[.v (.int .i64 num), .v (wv 0 0)]]) 100 rfl ?_ (fun A0 yv hyv w => dueFirst100 (al := 0) (ll := 0) (b0 := 0) X HH rfl A0 yv (hyv 0 _ rfl) w) (by simp) (by decide) ?_ ?_
  · show HSub ([.blk 1 b [.v (.map (some b5))] 116, .blk 2 b0 [.loc d 3 0] 32] ++ ([.blk 3 d [.v (.int .i64 n), .v (.int .i64 gs), .v (.int .i64 (tk + 1)), .v (.map (some mp))] 81, .ext 4 (MpA mp [] clk), .ext 5 (MpA b5 [⟨.int .i64 num, .agg #[.int .i64 s, .int .i64 t, .int .i64 p, .int .i64 m, .bool i, .int .i64 g], 0⟩] (0 + 1))] ++ [.ext 9 (X 0)])) _
    refine HSub.trans ((HSub.refl _).app2 ((HSub.refl _).app2 HSub.join)) ?_
    show HSub (([.blk 1 b [.v (.map (some b5))] 116, .blk 2 b0 [.loc d 3 0] 32] ++ [.blk 3 d [.v (.int .i64 n), .v (.int .i64 gs), .v (.int .i64 (tk + 1)), .v (.map (some mp))] 81, .ext 4 (MpA mp [] clk), .ext 5 (MpA b5 [⟨.int .i64 num, .agg #[.int .i64 s, .int .i64 t, .int .i64 p, .int .i64 m, .bool i, .int .i64 g], 0⟩] (0 + 1))]) ++ ([.ext 17 (BxA 66 26 9 b1 0 [])] ++ [.blk 15 b3 [.v (.map (some b5))] 116, .blk 12 b6 [.fn 27 []] 64, .blk 11 b7 [.v (.int .i64 me)] 3, .blk 10 b8 [.loc d 3 0] 32, .blk 9 bi [.v (.int .i64 s), .v (.int .i64 t), .v (.int .i64 p), .v (.int .i64 m), .v (.bool i), .v (.int .i64 g)] 48])) _
    refine HSub.trans ((HSub.refl _).app2 (HSub.app2 (BxA.nil (i1 := 17)) (HSub.refl _))) ?_
    exact (by (try dsimp only [List.cons_append, List.nil_append, den, denL, ti66]); refine SelI.spec ?_; repeat (first | apply SelI.nil | refine SelI.blk (by repeat (first | with_reducible apply Rm.head | apply Rm.tail)) ?_ | refine SelI.ext (by repeat (first | with_reducible apply Rm.head | apply Rm.tail)) ?_ | (refine SelI.blk' (by repeat (first | with_reducible apply Rm.head | apply Rm.tail)) ?_ ?_; focus rfl) | (refine SelI.ext' (by repeat (first | with_reducible apply Rm.head | apply Rm.tail)) ?_ ?_; focus rfl)))
  · intro q x hx lp rc W' S'
    obtain ⟨rfl, rfl⟩ : q = 0 ∧ [SV.v (.int .i64 num), SV.v (wv 0 0)] = x := by
      cases q with
      | zero => simpa using hx
      | succ q => simp at hx
    refine Run.lax ?_
    show Run _ _ _ (.ext 100 (lrA lp rc) :: [.blk 3 d [.v (.int .i64 n), .v (.int .i64 gs), .v (.int .i64 (tk + 1)), .v (.map (some mp))] 81, .ext 4 (MpA mp [] clk), .ext 5 (MpA b5 [⟨.int .i64 num, .agg #[.int .i64 s, .int .i64 t, .int .i64 p, .int .i64 m, .bool i, .int .i64 g], 0⟩] (0 + 1)), .ext 9 (X 0)]) _
    conv => whnf
    repeat' (first
    | ((with_reducible refine r_seq (fun KS hS => ?_)))
    | ((with_reducible refine r_region ?_); conv => whnf)
    | ((with_reducible refine r_cond (fun KA hA KB hB => ?_)); conv => whnf)
    | ((with_reducible refine hS _ _ ?_); clear hS KS)
    | ((with_reducible refine hA _ ?_); clear hA KA)
    | ((with_reducible refine hB _ ?_); clear hB KB)
    | ((with_reducible refine r_block ?_))
    | ((with_reducible refine r_ret ?_); conv => whnf)
    | ((with_reducible refine r_skip ?_); conv => whnf)
    | ((with_reducible refine r_exit ?_); conv => whnf)
    | ((with_reducible refine WrapK.i64 ?_ ?_); (focus omega); conv => whnf)
    | ((with_reducible refine And.intro rfl ?_); conv => whnf)
    | ((with_reducible intro b); conv => whnf)
    | ((with_reducible apply OpK.more); (focus refine sok); (conv => whnf); fail_if_success guard_target =ₛ False)
    | ((with_reducible refine InAt.mk (fun K' hK => ?_)); conv => whnf)
    | ((with_reducible refine AnyAt.mk (fun K' hK => ?_)); conv => whnf)
    | ((with_reducible refine hK _ ?_); clear hK K'; conv => whnf)
    | ((with_reducible refine hK _ _ ?_); clear hK K'; conv => whnf)
    | ((refine And.intro ?_ ?_); all_goals (conv => whnf))
    | (apply r_quiet; refine mixed; kernel_rfl; kernel_rfl; kernel_rfl; conv => whnf)
    | ((refine if_t ?_ ?_); (focus decide); conv => whnf)
    | ((refine if_f ?_ ?_); (focus decide); conv => whnf)
    | ((refine if_decT ?_ ?_); (focus omega); conv => whnf)
    | ((refine if_decF ?_ ?_); (focus omega); conv => whnf)
    | ((refine if_ndecT ?_ ?_); (focus omega); conv => whnf)
    | ((refine if_ndecF ?_ ?_); (focus omega); conv => whnf)
    | ((refine if_dec (fun h => ?_) (fun h => ?_)); all_goals (conv => whnf))
    | ((refine if_ndec (fun h => ?_) (fun h => ?_)); all_goals (conv => whnf))
    | ((refine if_cond (fun h => ?_) (fun h => ?_)); all_goals (conv => whnf))
    | ((with_reducible apply_assumption -symm -exfalso)))
    refine ⟨_, HSub.perm (List.Perm.swap _ _ _), _, rfl, ?_⟩
    refine r_block ?_
    refine Run.hsub (HSub.perm (List.Perm.swap _ _ _)) ?_
    show Run _ _ _ ([.blk 101 b [.v (.int .i64 0), .v (.int .i64 0)] 120, .ext 100 (lrA lp { rc with state := .busy }), .blk 3 d [.v (.int .i64 n), .v (.int .i64 gs), .v (.int .i64 (tk + 1)), .v (.map (some mp))] 81, .ext 4 (MpA mp [] clk), .ext 5 (MpA b5 [⟨.int .i64 num, .agg #[.int .i64 s, .int .i64 t, .int .i64 p, .int .i64 m, .bool i, .int .i64 g], 0⟩] (0 + 1))] ++ [.ext 9 (X 0)]) _
    refine Run.hsub ((HSub.refl _).app2 HSub.unjoin) ?_
    refine Run.open (α := Option Addr × Nat) (A := []) (B := []) (fun z => [.blk 101 b [.v (.int .i64 0), .v (.int .i64 0)] 120, .ext 100 (lrA lp { rc with state := .busy }), .blk 3 d [.v (.int .i64 n), .v (.int .i64 gs), .v (.int .i64 (tk + 1)), .v (.map (some mp))] 81, .ext 4 (MpA mp [] clk), .ext 5 (MpA b5 [⟨.int .i64 num, .agg #[.int .i64 s, .int .i64 t, .int .i64 p, .int .i64 m, .bool i, .int .i64 g], 0⟩] (0 + 1)), .blk 17 b1 [.v (.slice z.1 0 z.2)] 66, .ext 16 (SlA 26 9 z.1 0 z.2 [])] ++ [.blk 15 b3 [.v (.map (some b5))] 116, .blk 12 b6 [.fn 27 []] 64, .blk 11 b7 [.v (.int .i64 me)] 3, .blk 10 b8 [.loc d 3 0] 32, .blk 9 bi [.v (.int .i64 s), .v (.int .i64 t), .v (.int .i64 p), .v (.int .i64 m), .v (.bool i), .v (.int .i64 g)] 48]) (fun w S h => BxA.openI 17 16 (X := [_, _, _, _, _]) (Y := [.blk 15 b3 [.v (.map (some b5))] 116, .blk 12 b6 [.fn 27 []] 64, .blk 11 b7 [.v (.int .i64 me)] 3, .blk 10 b8 [.loc d 3 0] 32, .blk 9 bi [.v (.int .i64 s), .v (.int .i64 t), .v (.int .i64 p), .v (.int .i64 m), .v (.bool i), .v (.int .i64 g)] 48]) h) ?_
    rintro ⟨a, cap⟩
    dsimp only [List.cons_append, List.nil_append]
    repeat' (first
    | ((with_reducible refine r_seq (fun KS hS => ?_)))
    | ((with_reducible refine r_region ?_); conv => whnf)
    | ((with_reducible refine r_cond (fun KA hA KB hB => ?_)); conv => whnf)
    | ((with_reducible refine hS _ _ ?_); clear hS KS)
    | ((with_reducible refine hA _ ?_); clear hA KA)
    | ((with_reducible refine hB _ ?_); clear hB KB)
    | ((with_reducible refine r_block ?_))
    | ((with_reducible refine r_ret ?_); conv => whnf)
    | ((with_reducible refine r_skip ?_); conv => whnf)
    | ((with_reducible refine r_exit ?_); conv => whnf)
    | ((with_reducible refine WrapK.i64 ?_ ?_); (focus omega); conv => whnf)
    | ((with_reducible refine And.intro rfl ?_); conv => whnf)
    | ((with_reducible intro b); conv => whnf)
    | ((with_reducible refine QK.id ?_); refine QK.bld rfl ?_; conv => whnf)
    | ((with_reducible refine CallK.id ?_); refine CallK.pu (fun w => hC.every w) ?_; conv => whnf)
    | ((with_reducible refine CallK.id ?_); refine CallK.pu (fun w => hC.fits w) ?_; conv => whnf)
    | ((with_reducible refine CallK.id ?_); refine CallK.fresh (fun ms w hk => hC.encode w) ?_; conv => whnf)
    | (intro z; conv => whnf)
    | ((with_reducible refine CallK.at 20 ?_); refine CallK.puW (fun ms w hk => target20 (hk.got (by repeat (first | constructor | apply List.Mem.tail))) hok hn7 hgs (by omega)) ?_; conv => whnf)
    | ((with_reducible refine OpK.id ?_); refine OpK.lk1 rfl rfl rfl rfl rfl rfl rfl (by repeat (first | with_reducible apply At.head | apply At.tail)) ?_; conv => whnf)
    | ((with_reducible refine OpK.id ?_); refine OpK.cvBS' rfl rfl rfl rfl rfl rfl rfl rfl (Sees.ext (by repeat (first | with_reducible apply At.head | apply At.tail))) rfl ?_; conv => whnf)
    | ((with_reducible refine OpK.id ?_); refine OpK.app (k := 9) rfl rfl rfl rfl rfl rfl rfl rfl (by repeat (first | with_reducible apply At.head | apply At.tail)) (SrcK.slc rfl rfl (by repeat (first | constructor | apply List.Mem.tail)) (Nat.le_refl _) rfl) (by show (0 + 1) * (_ + 1) ≤ 140737488355328; decide) (fun a' cap' => ?_); conv => whnf)
    | (apply r_split 13 (id := 16); refine mixed; kernel_rfl; kernel_rfl; kernel_rfl; intro K' hK; conv => whnf)
    | ((with_reducible refine OpK.id ?_); refine OpK.upE rfl rfl rfl rfl rfl rfl rfl rfl (by repeat (first | with_reducible apply At.head | apply At.tail)) ?_; conv => whnf)
    | ((with_reducible apply OpK.more); (focus refine sok); (conv => whnf); fail_if_success guard_target =ₛ False)
    | ((with_reducible refine InAt.mk (fun K' hK => ?_)); conv => whnf)
    | ((with_reducible refine AnyAt.mk (fun K' hK => ?_)); conv => whnf)
    | ((with_reducible refine hK _ ?_); clear hK K'; conv => whnf)
    | ((with_reducible refine hK _ _ ?_); clear hK K'; conv => whnf)
    | ((refine And.intro ?_ ?_); all_goals (conv => whnf))
    | (apply r_quiet; refine mixed; kernel_rfl; kernel_rfl; kernel_rfl; conv => whnf)
    | ((refine if_t ?_ ?_); (focus decide); conv => whnf)
    | ((refine if_f ?_ ?_); (focus decide); conv => whnf)
    | ((refine if_decT ?_ ?_); (focus omega); conv => whnf)
    | ((refine if_decF ?_ ?_); (focus omega); conv => whnf)
    | ((refine if_ndecT ?_ ?_); (focus omega); conv => whnf)
    | ((refine if_ndecF ?_ ?_); (focus omega); conv => whnf)
    | ((refine if_dec (fun h => ?_) (fun h => ?_)); all_goals (conv => whnf))
    | ((refine if_ndec (fun h => ?_) (fun h => ?_)); all_goals (conv => whnf))
    | ((refine if_cond (fun h => ?_) (fun h => ?_)); all_goals (conv => whnf))
    | ((with_reducible apply_assumption -symm -exfalso)))
    refine ⟨?_⟩
    show HSub ([.ext 100 (lrA lp { rc with state := .busy }), .blk 3 d [.v (.int .i64 n), .v (.int .i64 gs), .v (.int .i64 (tk + 1)), .v (.map (some mp))] 81, .ext 4 (MpA mp [⟨.int .i64 num, .agg #[.int .i64 (0 + 1), .int .i64 (tk + 1)], clk⟩] (clk + 1)), .ext 5 (MpA b5 [⟨.int .i64 num, .agg #[.int .i64 s, .int .i64 t, .int .i64 p, .int .i64 m, .bool i, .int .i64 g], 0⟩] (0 + 1))] ++ [.ext 9 (X 1)]) _
    refine HSub.trans ((HSub.refl _).app2 HSub.join) ?_
    show HSub ([.ext 100 (lrA lp { rc with state := .busy }), .blk 3 d [.v (.int .i64 n), .v (.int .i64 gs), .v (.int .i64 (tk + 1)), .v (.map (some mp))] 81, .ext 4 (MpA mp [⟨.int .i64 num, .agg #[.int .i64 (0 + 1), .int .i64 (tk + 1)], clk⟩] (clk + 1)), .ext 5 (MpA b5 [⟨.int .i64 num, .agg #[.int .i64 s, .int .i64 t, .int .i64 p, .int .i64 m, .bool i, .int .i64 g], 0⟩] (0 + 1))] ++ ([.ext 17 (BxA 66 26 9 b1 1 [.int .i64 10, .int .i64 me, .int .i64 (g * n + 0 % n), .int .i64 0, .int .i64 0, .int .i64 0, .int .i64 (num : Nat), .string ⟨enc.toArray⟩, .slice none 0 0])] ++ [.blk 15 b3 [.v (.map (some b5))] 116, .blk 12 b6 [.fn 27 []] 64, .blk 11 b7 [.v (.int .i64 me)] 3, .blk 10 b8 [.loc d 3 0] 32, .blk 9 bi [.v (.int .i64 s), .v (.int .i64 t), .v (.int .i64 p), .v (.int .i64 m), .v (.bool i), .v (.int .i64 g)] 48])) _
    refine HSub.trans ((HSub.refl _).app2 (HSub.app2 (BxA.close (a := a') (cap := cap') (i1 := 17) (i2 := 16)) (HSub.refl _))) ?_
    exact (by (try dsimp only [List.cons_append, List.nil_append, den, denL]); refine SelI.spec ?_; repeat (first | apply SelI.nil | refine SelI.blk (by repeat (first | with_reducible apply Rm.head | apply Rm.tail)) ?_ | refine SelI.ext (by repeat (first | with_reducible apply Rm.head | apply Rm.tail)) ?_ | (refine SelI.blk' (by repeat (first | with_reducible apply Rm.head | apply Rm.tail)) ?_ ?_; focus rfl) | (refine SelI.ext' (by repeat (first | with_reducible apply Rm.head | apply Rm.tail)) ?_ ?_; focus rfl)))
  · refine hS _ _ ?_
    clear hS KS
    show Run _ _ _ ([.blk 1 b [.v (.map (some b5))] 116, .blk 2 b0 [.loc d 3 0] 32, .blk 3 d [.v (.int .i64 n), .v (.int .i64 gs), .v (.int .i64 (tk + 1)), .v (.map (some mp))] 81, .ext 4 (MpA mp [⟨.int .i64 num, .agg #[.int .i64 (0 + 1), .int .i64 (tk + 1)], clk⟩] (clk + 1)), .ext 5 (MpA b5 [⟨.int .i64 num, .agg #[.int .i64 s, .int .i64 t, .int .i64 p, .int .i64 m, .bool i, .int .i64 g], 0⟩] (0 + 1))] ++ [.ext 9 (X 1)]) _
    refine Run.hsub ((HSub.refl _).app2 HSub.unjoin) ?_
    refine Run.open (α := Option Addr × Nat) (A := []) (B := []) (fun z => [.blk 1 b [.v (.map (some b5))] 116, .blk 2 b0 [.loc d 3 0] 32, .blk 3 d [.v (.int .i64 n), .v (.int .i64 gs), .v (.int .i64 (tk + 1)), .v (.map (some mp))] 81, .ext 4 (MpA mp [⟨.int .i64 num, .agg #[.int .i64 (0 + 1), .int .i64 (tk + 1)], clk⟩] (clk + 1)), .ext 5 (MpA b5 [⟨.int .i64 num, .agg #[.int .i64 s, .int .i64 t, .int .i64 p, .int .i64 m, .bool i, .int .i64 g], 0⟩] (0 + 1)), .blk 17 b1 [.v (.slice z.1 1 z.2)] 66, .ext 16 (SlA 26 9 z.1 1 z.2 [.int .i64 10, .int .i64 me, .int .i64 (g * n + 0 % n), .int .i64 0, .int .i64 0, .int .i64 0, .int .i64 (num : Nat), .string ⟨enc.toArray⟩, .slice none 0 0])] ++ [.blk 15 b3 [.v (.map (some b5))] 116, .blk 12 b6 [.fn 27 []] 64, .blk 11 b7 [.v (.int .i64 me)] 3, .blk 10 b8 [.loc d 3 0] 32, .blk 9 bi [.v (.int .i64 s), .v (.int .i64 t), .v (.int .i64 p), .v (.int .i64 m), .v (.bool i), .v (.int .i64 g)] 48]) (fun w S h => BxA.openI 17 16 (X := [_, _, _, _, _]) (Y := [.blk 15 b3 [.v (.map (some b5))] 116, .blk 12 b6 [.fn 27 []] 64, .blk 11 b7 [.v (.int .i64 me)] 3, .blk 10 b8 [.loc d 3 0] 32, .blk 9 bi [.v (.int .i64 s), .v (.int .i64 t), .v (.int .i64 p), .v (.int .i64 m), .v (.bool i), .v (.int .i64 g)] 48]) h) ?_
    rintro ⟨a, cap⟩
    dsimp only [List.cons_append, List.nil_append]
    repeat' (first
    | ((with_reducible refine r_seq (fun KS hS => ?_)))
    | ((with_reducible refine r_region ?_); conv => whnf)
    | ((with_reducible refine r_cond (fun KA hA KB hB => ?_)); conv => whnf)
    | ((with_reducible refine hS _ _ ?_); clear hS KS)
    | ((with_reducible refine hA _ ?_); clear hA KA)
    | ((with_reducible refine hB _ ?_); clear hB KB)
    | ((with_reducible refine r_block ?_))
    | ((with_reducible refine r_ret ?_); conv => whnf)
    | ((with_reducible refine r_skip ?_); conv => whnf)
    | ((with_reducible refine r_exit ?_); conv => whnf)
    | ((with_reducible refine WrapK.i64 ?_ ?_); (focus omega); conv => whnf)
    | ((with_reducible refine And.intro rfl ?_); conv => whnf)
    | ((with_reducible intro b); conv => whnf)
    | ((with_reducible apply OpK.more); (focus refine sok); (conv => whnf); fail_if_success guard_target =ₛ False)
    | ((with_reducible refine InAt.mk (fun K' hK => ?_)); conv => whnf)
    | ((with_reducible refine AnyAt.mk (fun K' hK => ?_)); conv => whnf)
    | ((with_reducible refine hK _ ?_); clear hK K'; conv => whnf)
    | ((with_reducible refine hK _ _ ?_); clear hK K'; conv => whnf)
    | ((refine And.intro ?_ ?_); all_goals (conv => whnf))
    | (apply r_quiet; refine mixed; kernel_rfl; kernel_rfl; kernel_rfl; conv => whnf)
    | ((refine if_t ?_ ?_); (focus decide); conv => whnf)
    | ((refine if_f ?_ ?_); (focus decide); conv => whnf)
    | ((refine if_decT ?_ ?_); (focus omega); conv => whnf)
    | ((refine if_decF ?_ ?_); (focus omega); conv => whnf)
    | ((refine if_ndecT ?_ ?_); (focus omega); conv => whnf)
    | ((refine if_ndecF ?_ ?_); (focus omega); conv => whnf)
    | ((refine if_dec (fun h => ?_) (fun h => ?_)); all_goals (conv => whnf))
    | ((refine if_ndec (fun h => ?_) (fun h => ?_)); all_goals (conv => whnf))
    | ((refine if_cond (fun h => ?_) (fun h => ?_)); all_goals (conv => whnf))
    | ((with_reducible apply_assumption -symm -exfalso)))
    exact FinK.frZL (a, cap) rfl (by (try dsimp only [List.cons_append, List.nil_append, den, denL]); refine SelI.spec ?_; repeat (first | apply SelI.nil | refine SelI.blk (by repeat (first | with_reducible apply Rm.head | apply Rm.tail)) ?_ | refine SelI.ext (by repeat (first | with_reducible apply Rm.head | apply Rm.tail)) ?_ | (refine SelI.blk' (by repeat (first | with_reducible apply Rm.head | apply Rm.tail)) ?_ ?_; focus rfl) | (refine SelI.ext' (by repeat (first | with_reducible apply Rm.head | apply Rm.tail)) ?_ ?_; focus rfl)))

end Go.Proofs.YtbgnoibellfojaaGreatDoor
