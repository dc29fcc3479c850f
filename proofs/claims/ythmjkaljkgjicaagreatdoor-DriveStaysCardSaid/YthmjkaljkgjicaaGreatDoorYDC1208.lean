/- Contracts and lemmas for the claim (part 8); no condition of its own. -/
import Derived.Test.YthmjkaljkgjicaaGreatDoorYDC1207
import Derived.Test.YthmjkaljkgjicaaGreatDoorYDC1203
import Derived.Test.YthmjkaljkgjicaaGreatDoorYDC1204
set_option linter.all false
set_option linter.unusedVariables false
set_option linter.unusedSimpArgs false
set_option linter.unnecessarySimpa false
namespace Go.Proofs.YthmjkaljkgjicaaGreatDoor
open Go Go.X
set_option maxRecDepth 100000
set_option maxHeartbeats 0
theorem made45 {d : Nat} {n gs tk : Int} {mp : Nat} {w : World} (hd : DAt w d n gs tk mp) : Pu Tryz.prog 27 #[pv d] w (.bool true) := by
  refine Pu.ofFrZ (enter_ro TBok (cs := DC n gs tk mp) hd Tryz.func27 rfl rfl Tryz.ntmps27 [.loc d 10 0] rfl rfl ?_)
  unfold DC
  conv => whnf
  repeat' (first
 | with_reducible (first | refine r_seq (fun KS hS => ?_) | (refine hS _ _ ?_; clear hS KS) | (refine hA _ ?_; clear hA KA) | (refine hB _ ?_; clear hB KB) | refine r_block ?_)
 | ((with_reducible (first | refine r_region ?_ | refine r_cond (fun KA hA KB hB => ?_) | refine r_ret ?_ | refine r_skip ?_ | refine r_exit ?_ | refine And.intro rfl ?_ | intro b)); conv => whnf)
 | ((with_reducible refine WrapK.i64 ?_ ?_); (focus omega); conv => whnf)
 | ((with_reducible apply OpK.more); (focus refine sok); (conv => whnf); fail_if_success guard_target =ₛ False)
 | ((with_reducible (first | refine InAt.mk (fun K' hK => ?_) | refine AnyAt.mk (fun K' hK => ?_) | (refine hK _ ?_; clear hK K') | (refine hK _ _ ?_; clear hK K'))); conv => whnf)
 | ((refine And.intro ?_ ?_); all_goals (conv => whnf))
 | (apply r_quiet; refine mixed; kernel_rfl; kernel_rfl; kernel_rfl; conv => whnf)
 | ((first | refine if_t (by decide) ?_ | refine if_f (by decide) ?_ | refine if_decT (by omega) ?_ | refine if_decF (by omega) ?_ | refine if_ndecT (by omega) ?_ | refine if_ndecF (by omega) ?_); conv => whnf)
 | ((first | refine if_dec (fun h => ?_) (fun h => ?_) | refine if_ndec (fun h => ?_) (fun h => ?_) | refine if_cond (fun h => ?_) (fun h => ?_)); all_goals (conv => whnf))
 | with_reducible apply_assumption -symm -exfalso)
  all_goals exact FinK.ro0 rfl (HSub.pick (by repeat (first | with_reducible apply At.head | apply At.tail)))
theorem BxA.openI {w : World} {S : Nat → Prop} {X Y : List Blk} {ty e k p n j : Nat} {cs : List Value} (i1 i2 : Nat) (h : Holds w (X ++ .ext j (BxA ty e k p n cs) :: Y) S) :
    ∃ (z : Option Addr × Nat) (S' : Nat → Prop), Holds w (X ++ .blk i1 p [.v (.slice z.1 n z.2)] ty :: .ext i2 (SlA e k z.1 n z.2 cs) :: Y) S' ∧ ∀ k, S' k → S k := by
  obtain ⟨z, S', h1, h2⟩ := BxA.open h
  obtain ⟨S'', h3, h4⟩ := (HSub.app2 (HSub.refl X) (HSub.keep (i := i1) rfl (HSub.ext (i := i2) (fun _ _ h => h) (HSub.refl Y)))) w S' h1
  exact ⟨z, S'', h3, fun k hk => h2 k (h4 k hk)⟩
theorem tickFirstEff24 {s t p : Nat} {g num : Nat} {n gs tk me : Int} {d mp bi bn clk : Nat} (h : EffOk s t p) (hg : 1 ≤ g ∧ g ≤ 7) (hn7 : 1 ≤ n ∧ n ≤ 7) (hgs : g < gs) (hme : 0 ≤ me ∧ me < n) (htk : 0 ≤ tk ∧ tk ≤ 999999) (hnum : (num : Int) = itemNum s t p 0 false g)  (w : World) :
    FrZ Tryz.prog 7 #[pv d, .int .i64 me, .slice (some ⟨bi, 0, none⟩) 1 1, .func (.func 58) #[] #[pv bn]] w (AssL [.blk 9 bi [.v (.int .i64 (s : Nat)), .v (.int .i64 (t : Nat)), .v (.int .i64 (p : Nat)), .v (.int .i64 0), .v (.bool false), .v (.int .i64 (g : Nat))] 47, .blk 8 bn [.v (.int .u8 9)] 5, .ext 4 (MpA mp [] clk), .blk 3 d (DC n gs tk mp) 80]) (fun z : Option Addr × Nat => .slice z.1 1 z.2) (fun z => AssL [.ext 70 (SlA 38 9 z.1 1 z.2 [.int .i64 10, .int .i64 me, .int .i64 ((g : Int) * n + 0 % n), .int .i64 0, .int .i64 0, .int .i64 0, .int .i64 (num : Nat), .string ⟨(uvar 1 ++ uvar s ++ uvar t ++ uvar p ++ uvar 1 ++ [107] ++ uvar (zigN (1 + (t : Int)))).toArray⟩, .slice none 0 0]), .blk 9 bi [.v (.int .i64 (s : Nat)), .v (.int .i64 (t : Nat)), .v (.int .i64 (p : Nat)), .v (.int .i64 0), .v (.bool false), .v (.int .i64 (g : Nat))] 47, .blk 8 bn [.v (.int .u8 9)] 5, .ext 4 (MpA mp [⟨.int .i64 num, .agg #[.int .i64 (0 + 1), .int .i64 (tk + 1)], clk⟩] (clk + 1)), .blk 3 d (DC n gs (tk + 1) mp) 80]) := by
  have hk0 : nameOk ⟨#[107]⟩ = true := by decide +kernel
  have h0 := h
  unfold EffOk at h0
  have hn0 : NumOk (1 + (t : Int)) := by unfold NumOk; omega
  have hl0 : (uvar 1 ++ uvar s ++ uvar t ++ uvar p ++ uvar 1 ++ [107] ++ uvar (zigN (1 + (t : Int)))).length ≤ 65536 := by
    have h1 := uvar_len s 1 (by omega); have h2 := uvar_len t 0 (by omega); have h3 := uvar_len p 0 (by omega); have h4 := uvar_len (zigN (1 + (t : Int))) 0 (by unfold zigN; rw [if_pos (by omega)]; omega); have h5 := uvar_len 1 0 (by omega)
    simp only [List.length_append, List.length_cons, List.length_nil]; omega
  have hok : ItemOk s t p 0 false g := okEff h hg hk0 (by decide) (show (1 + (t : Int)) ≠ 0 by unfold EffOk at h; omega) hn0
  refine enter_frZ TBok (H := [.blk 9 bi [.v (.int .i64 (s : Nat)), .v (.int .i64 (t : Nat)), .v (.int .i64 (p : Nat)), .v (.int .i64 0), .v (.bool false), .v (.int .i64 (g : Nat))] 47, .blk 8 bn [.v (.int .u8 9)] 5, .ext 4 (MpA mp [] clk), .blk 3 d (DC n gs tk mp) 80]) all_foot Tryz.func7 rfl rfl Tryz.ntmps7 [.loc d 3 0, .v (.int .i64 me), .slc bi 9 0 1 1, .fn 58 [.loc bn 8 0]] rfl rfl ?_
  intro S _ _
  unfold DC
  conv => whnf
  repeat' (first
 | with_reducible (first | refine r_seq (fun KS hS => ?_) | (refine hS _ _ ?_; clear hS KS) | (refine hA _ ?_; clear hA KA) | (refine hB _ ?_; clear hB KB) | refine r_block ?_)
 | ((with_reducible (first | refine r_region ?_ | refine r_cond (fun KA hA KB hB => ?_) | refine r_ret ?_ | refine r_skip ?_ | refine r_exit ?_ | refine And.intro rfl ?_ | intro b)); conv => whnf)
 | ((with_reducible refine WrapK.i64 ?_ ?_); (focus omega); conv => whnf)
 | ((with_reducible refine CallK.id ?_); (first | apply in57 | apply in58 | apply in59 | apply in60); rfl; rfl; rfl; intro A; conv => whnf)
 | ((with_reducible refine CallQ.at 27 ?_); refine CallQ.puW (fun ms w hk => made45 (hk.got (by repeat (first | constructor | apply List.Mem.tail)))) ?_; conv => whnf)
 | ((with_reducible refine QK.id ?_); (refine QK.eqV sok rfl rfl rfl ?_); conv => whnf)
 | ((with_reducible refine IK.id ?_); (refine IK.eqV sok rfl rfl rfl ?_); conv => whnf)
 | ((with_reducible refine OpK.id ?_); refine OpK.mkM rfl ?_; conv => whnf)
 | (intro m; conv => whnf)
 | ((with_reducible refine CallK.at 33 ?_); refine CallK.puW (fun ms w hk => target20 (hk.got (by repeat (first | constructor | apply List.Mem.tail))) hok hn7 hgs (by omega)) ?_; conv => whnf)
 | ((with_reducible refine CallK.at 20 ?_); refine CallK.pu (fun w => numOk70 hok w) ?_; rw [← hnum]; conv => whnf)
 | ((with_reducible refine OpK.id ?_); (first | refine OpK.upE rfl rfl rfl rfl rfl rfl rfl rfl (by repeat (first | with_reducible apply At.head | apply At.tail)) ?_ | refine OpK.rngM rfl rfl rfl rfl (by repeat (first | with_reducible apply At.head | apply At.tail)) ?_ | refine OpK.nxE rfl rfl (by repeat (first | with_reducible apply At.head | apply At.tail)) (by repeat (first | with_reducible apply At.head | apply At.tail)) ?_); conv => whnf)
 | ((with_reducible apply OpK.more); (focus refine sok); (conv => whnf); fail_if_success guard_target =ₛ False)
 | with_reducible (first | refine Rounds.step (fun KL hL => ?_) | (refine hL _ _ ?_; clear hL KL) | refine r_rounds 100 ?_)
 | ((with_reducible (first | refine InAt.mk (fun K' hK => ?_) | refine AnyAt.mk (fun K' hK => ?_) | (refine hK _ ?_; clear hK K') | (refine hK _ _ ?_; clear hK K'))); conv => whnf)
 | ((refine And.intro ?_ ?_); all_goals (conv => whnf))
 | (apply r_quiet; refine mixed; kernel_rfl; kernel_rfl; kernel_rfl; conv => whnf)
 | ((first | refine if_t (by decide) ?_ | refine if_f (by decide) ?_ | refine if_decT (by omega) ?_ | refine if_decF (by omega) ?_ | refine if_ndecT (by omega) ?_ | refine if_ndecF (by omega) ?_); conv => whnf)
 | ((first | refine if_dec (fun h => ?_) (fun h => ?_) | refine if_ndec (fun h => ?_) (fun h => ?_) | refine if_cond (fun h => ?_) (fun h => ?_)); all_goals (conv => whnf))
 | with_reducible apply_assumption -symm -exfalso)
  rename_i b8 b7 b6 _ _ _ _ _ _ _ b5 _ _ _ _ _ _ _ _ _ _ b4 _ _ _ _ _ _ b3 _ _ _ b2 _ _ b1 b0
  let X : Nat → Ass := fun i => AssL (.ext 17 (BxA 29 38 9 b1 i (([.int .i64 10, .int .i64 me, .int .i64 ((g : Int) * n + 0 % n), .int .i64 0, .int .i64 0, .int .i64 0, .int .i64 (num : Nat), .string ⟨(uvar 1 ++ uvar s ++ uvar t ++ uvar p ++ uvar 1 ++ [107] ++ uvar (zigN (1 + (t : Int)))).toArray⟩, .slice none 0 0] : List Value).take (9 * i))) :: [.blk 15 b3 [.v (.map (some b5))] 81, .blk 12 b6 [.fn 58 [.loc bn 8 0]] 31, .blk 11 b7 [.v (.int .i64 me)] 3, .blk 10 b8 [.loc d 3 0] 25, .blk 9 bi [.v (.int .i64 (s : Nat)), .v (.int .i64 (t : Nat)), .v (.int .i64 (p : Nat)), .v (.int .i64 0), .v (.bool false), .v (.int .i64 (g : Nat))] 47, .blk 8 bn [.v (.int .u8 9)] 5])
  let HH : Nat → List Blk := fun i => [.blk 3 d (DC n gs (tk + 1) mp) 80, .ext 4 (if i = 0 then MpA mp [] clk else MpA mp [⟨.int .i64 num, .agg #[.int .i64 (0 + 1), .int .i64 (tk + 1)], clk⟩] (clk + 1)), .ext 5 (MpA b5 [⟨.int .i64 num, .agg #[.int .i64 (s : Nat), .int .i64 (t : Nat), .int .i64 (p : Nat), .int .i64 0, .bool false, .int .i64 (g : Nat)], 0⟩] (0 + 1)), .ext 9 (X i)]
  refine r_rangeFuncH (HH := HH) (xs := [[.v (.int .i64 num), .v (wv 0 0)]]) 100 rfl ?_ (fun A0 yv hyv w => dueFirst100 (al := 0) (ll := 0) (b0 := 0) X HH rfl A0 yv (hyv 0 _ rfl) w) (by simp) (by decide) ?_ ?_
  · show HSub ([.blk 1 b [.v (.map (some b5))] 81, .blk 2 b0 [.loc d 3 0] 25] ++ ([.blk 3 d [.v (.int .i64 n), .v (.int .i64 gs), .v (.int .i64 (tk + 1)), .v (.map (some mp))] 80, .ext 4 (MpA mp [] clk), .ext 5 (MpA b5 [⟨.int .i64 num, .agg #[.int .i64 (s : Nat), .int .i64 (t : Nat), .int .i64 (p : Nat), .int .i64 0, .bool false, .int .i64 (g : Nat)], 0⟩] (0 + 1))] ++ [.ext 9 (X 0)])) _
    refine HSub.trans ((HSub.refl _).app2 ((HSub.refl _).app2 HSub.join)) ?_
    show HSub (([.blk 1 b [.v (.map (some b5))] 81, .blk 2 b0 [.loc d 3 0] 25] ++ [.blk 3 d [.v (.int .i64 n), .v (.int .i64 gs), .v (.int .i64 (tk + 1)), .v (.map (some mp))] 80, .ext 4 (MpA mp [] clk), .ext 5 (MpA b5 [⟨.int .i64 num, .agg #[.int .i64 (s : Nat), .int .i64 (t : Nat), .int .i64 (p : Nat), .int .i64 0, .bool false, .int .i64 (g : Nat)], 0⟩] (0 + 1))]) ++ ([.ext 17 (BxA 29 38 9 b1 0 [])] ++ [.blk 15 b3 [.v (.map (some b5))] 81, .blk 12 b6 [.fn 58 [.loc bn 8 0]] 31, .blk 11 b7 [.v (.int .i64 me)] 3, .blk 10 b8 [.loc d 3 0] 25, .blk 9 bi [.v (.int .i64 (s : Nat)), .v (.int .i64 (t : Nat)), .v (.int .i64 (p : Nat)), .v (.int .i64 0), .v (.bool false), .v (.int .i64 (g : Nat))] 47, .blk 8 bn [.v (.int .u8 9)] 5])) _
    refine HSub.trans ((HSub.refl _).app2 (HSub.app2 (BxA.nil (i1 := 17)) (HSub.refl _))) ?_
    exact (by (try dsimp only [List.cons_append, List.nil_append, den, denL, ti29]); refine SelI.spec ?_; (repeat (first | refine SelI.blk (by repeat (first | with_reducible apply Rm.head | apply Rm.tail)) ?_ | refine SelI.ext (by repeat (first | with_reducible apply Rm.head | apply Rm.tail)) ?_ | (refine SelI.blk' (by repeat (first | with_reducible apply Rm.head | apply Rm.tail)) ?_ ?_; focus rfl) | (refine SelI.ext' (by repeat (first | with_reducible apply Rm.head | apply Rm.tail)) ?_ ?_; focus rfl))); exact SelI.nil)
  · intro i x hx lp rc W' S'
    obtain ⟨rfl, rfl⟩ : i = 0 ∧ [SV.v (.int .i64 num), SV.v (wv 0 0)] = x := by
      cases i with
      | zero => simpa using hx
      | succ i => simp at hx
    refine Run.lax ?_
    show Run _ _ _ (.ext 100 (lrA lp rc) :: [.blk 3 d [.v (.int .i64 n), .v (.int .i64 gs), .v (.int .i64 (tk + 1)), .v (.map (some mp))] 80, .ext 4 (MpA mp [] clk), .ext 5 (MpA b5 [⟨.int .i64 num, .agg #[.int .i64 (s : Nat), .int .i64 (t : Nat), .int .i64 (p : Nat), .int .i64 0, .bool false, .int .i64 (g : Nat)], 0⟩] (0 + 1)), .ext 9 (X 0)]) _
    conv => whnf
    repeat' (first
 | with_reducible (first | refine r_seq (fun KS hS => ?_) | (refine hS _ _ ?_; clear hS KS) | (refine hA _ ?_; clear hA KA) | (refine hB _ ?_; clear hB KB) | refine r_block ?_)
 | ((with_reducible (first | refine r_region ?_ | refine r_cond (fun KA hA KB hB => ?_) | refine r_ret ?_ | refine r_skip ?_ | refine r_exit ?_ | refine And.intro rfl ?_ | intro b)); conv => whnf)
 | ((with_reducible refine WrapK.i64 ?_ ?_); (focus omega); conv => whnf)
 | ((with_reducible apply OpK.more); (focus refine sok); (conv => whnf); fail_if_success guard_target =ₛ False)
 | ((with_reducible (first | refine InAt.mk (fun K' hK => ?_) | refine AnyAt.mk (fun K' hK => ?_) | (refine hK _ ?_; clear hK K') | (refine hK _ _ ?_; clear hK K'))); conv => whnf)
 | ((refine And.intro ?_ ?_); all_goals (conv => whnf))
 | (apply r_quiet; refine mixed; kernel_rfl; kernel_rfl; kernel_rfl; conv => whnf)
 | ((first | refine if_t (by decide) ?_ | refine if_f (by decide) ?_ | refine if_decT (by omega) ?_ | refine if_decF (by omega) ?_ | refine if_ndecT (by omega) ?_ | refine if_ndecF (by omega) ?_); conv => whnf)
 | ((first | refine if_dec (fun h => ?_) (fun h => ?_) | refine if_ndec (fun h => ?_) (fun h => ?_) | refine if_cond (fun h => ?_) (fun h => ?_)); all_goals (conv => whnf))
 | with_reducible apply_assumption -symm -exfalso)
    refine ⟨_, HSub.perm (List.Perm.swap _ _ _), _, rfl, ?_⟩
    refine r_block ?_
    refine Run.hsub (HSub.perm (List.Perm.swap _ _ _)) ?_
    show Run _ _ _ ([.blk 101 b [.v (.int .i64 0), .v (.int .i64 0)] 85, .ext 100 (lrA lp { rc with state := .busy }), .blk 3 d [.v (.int .i64 n), .v (.int .i64 gs), .v (.int .i64 (tk + 1)), .v (.map (some mp))] 80, .ext 4 (MpA mp [] clk), .ext 5 (MpA b5 [⟨.int .i64 num, .agg #[.int .i64 (s : Nat), .int .i64 (t : Nat), .int .i64 (p : Nat), .int .i64 0, .bool false, .int .i64 (g : Nat)], 0⟩] (0 + 1))] ++ [.ext 9 (X 0)]) _
    refine Run.hsub ((HSub.refl _).app2 HSub.unjoin) ?_
    refine Run.open (α := Option Addr × Nat) (A := []) (B := []) (fun z => [.blk 101 b [.v (.int .i64 0), .v (.int .i64 0)] 85, .ext 100 (lrA lp { rc with state := .busy }), .blk 3 d [.v (.int .i64 n), .v (.int .i64 gs), .v (.int .i64 (tk + 1)), .v (.map (some mp))] 80, .ext 4 (MpA mp [] clk), .ext 5 (MpA b5 [⟨.int .i64 num, .agg #[.int .i64 (s : Nat), .int .i64 (t : Nat), .int .i64 (p : Nat), .int .i64 0, .bool false, .int .i64 (g : Nat)], 0⟩] (0 + 1)), .blk 17 b1 [.v (.slice z.1 0 z.2)] 29, .ext 16 (SlA 38 9 z.1 0 z.2 [])] ++ [.blk 15 b3 [.v (.map (some b5))] 81, .blk 12 b6 [.fn 58 [.loc bn 8 0]] 31, .blk 11 b7 [.v (.int .i64 me)] 3, .blk 10 b8 [.loc d 3 0] 25, .blk 9 bi [.v (.int .i64 (s : Nat)), .v (.int .i64 (t : Nat)), .v (.int .i64 (p : Nat)), .v (.int .i64 0), .v (.bool false), .v (.int .i64 (g : Nat))] 47, .blk 8 bn [.v (.int .u8 9)] 5]) (fun w S h => BxA.openI 17 16 (X := [_, _, _, _, _]) (Y := [.blk 15 b3 [.v (.map (some b5))] 81, .blk 12 b6 [.fn 58 [.loc bn 8 0]] 31, .blk 11 b7 [.v (.int .i64 me)] 3, .blk 10 b8 [.loc d 3 0] 25, .blk 9 bi [.v (.int .i64 (s : Nat)), .v (.int .i64 (t : Nat)), .v (.int .i64 (p : Nat)), .v (.int .i64 0), .v (.bool false), .v (.int .i64 (g : Nat))] 47, .blk 8 bn [.v (.int .u8 9)] 5]) h) ?_
    rintro ⟨a, cap⟩
    dsimp only [List.cons_append, List.nil_append]
    repeat' (first
 | with_reducible (first | refine r_seq (fun KS hS => ?_) | (refine hS _ _ ?_; clear hS KS) | (refine hA _ ?_; clear hA KA) | (refine hB _ ?_; clear hB KB) | refine r_block ?_)
 | ((with_reducible (first | refine r_region ?_ | refine r_cond (fun KA hA KB hB => ?_) | refine r_ret ?_ | refine r_skip ?_ | refine r_exit ?_ | refine And.intro rfl ?_ | intro b)); conv => whnf)
 | ((with_reducible refine WrapK.i64 ?_ ?_); (focus omega); conv => whnf)
 | ((with_reducible refine QK.id ?_); refine QK.bld rfl ?_; conv => whnf)
 | ((with_reducible refine CallK.at 58 ?_); refine CallK.puW (fun ms w hk => cmdEff72 (hk.got (by repeat (first | constructor | apply List.Mem.tail))) h (by omega)) ?_; conv => whnf)
 | ((with_reducible refine CallK.at 32 ?_); refine CallK.pu (fun w => fitsEff61 h hg hk0 (by decide) (by omega) hn0 w) ?_; conv => whnf)
 | ((with_reducible refine CallK.id ?_); refine CallK.fresh (fun ms w hk => encEff62 h hk0 (by decide) (by omega) hn0 hl0 w) ?_; conv => whnf)
 | (intro z; conv => whnf)
 | ((with_reducible refine CallK.at 33 ?_); refine CallK.puW (fun ms w hk => target20 (hk.got (by repeat (first | constructor | apply List.Mem.tail))) hok hn7 hgs (by omega)) ?_; conv => whnf)
 | ((with_reducible refine OpK.id ?_); (first | refine OpK.lk1 rfl rfl rfl rfl rfl rfl rfl (by repeat (first | with_reducible apply At.head | apply At.tail)) ?_ | refine OpK.cvBS' rfl rfl rfl rfl rfl rfl rfl rfl (Sees.ext (by repeat (first | with_reducible apply At.head | apply At.tail))) rfl ?_ | (refine OpK.app (k := 9) rfl rfl rfl rfl rfl rfl rfl rfl (by repeat (first | with_reducible apply At.head | apply At.tail)) (SrcK.slc rfl rfl (by repeat (first | constructor | apply List.Mem.tail)) (Nat.le_refl _) rfl) (by show (0 + 1) * (_ + 1) ≤ 140737488355328; decide) (fun a' cap' => ?_))); conv => whnf)
 | (apply r_split 13 (id := 16); refine mixed; kernel_rfl; kernel_rfl; kernel_rfl; intro K' hK; conv => whnf)
 | ((with_reducible refine OpK.id ?_); refine OpK.upE rfl rfl rfl rfl rfl rfl rfl rfl (by repeat (first | with_reducible apply At.head | apply At.tail)) ?_; conv => whnf)
 | ((with_reducible apply OpK.more); (focus refine sok); (conv => whnf); fail_if_success guard_target =ₛ False)
 | ((with_reducible (first | refine InAt.mk (fun K' hK => ?_) | refine AnyAt.mk (fun K' hK => ?_) | (refine hK _ ?_; clear hK K') | (refine hK _ _ ?_; clear hK K'))); conv => whnf)
 | ((refine And.intro ?_ ?_); all_goals (conv => whnf))
 | (apply r_quiet; refine mixed; kernel_rfl; kernel_rfl; kernel_rfl; conv => whnf)
 | ((first | refine if_t (by decide) ?_ | refine if_f (by decide) ?_ | refine if_decT (by omega) ?_ | refine if_decF (by omega) ?_ | refine if_ndecT (by omega) ?_ | refine if_ndecF (by omega) ?_); conv => whnf)
 | ((first | refine if_dec (fun h => ?_) (fun h => ?_) | refine if_ndec (fun h => ?_) (fun h => ?_) | refine if_cond (fun h => ?_) (fun h => ?_)); all_goals (conv => whnf))
 | with_reducible apply_assumption -symm -exfalso)
    refine ⟨?_⟩
    show HSub ([.ext 100 (lrA lp { rc with state := .busy }), .blk 3 d [.v (.int .i64 n), .v (.int .i64 gs), .v (.int .i64 (tk + 1)), .v (.map (some mp))] 80, .ext 4 (MpA mp [⟨.int .i64 num, .agg #[.int .i64 (0 + 1), .int .i64 (tk + 1)], clk⟩] (clk + 1)), .ext 5 (MpA b5 [⟨.int .i64 num, .agg #[.int .i64 (s : Nat), .int .i64 (t : Nat), .int .i64 (p : Nat), .int .i64 0, .bool false, .int .i64 (g : Nat)], 0⟩] (0 + 1))] ++ [.ext 9 (X 1)]) _
    refine HSub.trans ((HSub.refl _).app2 HSub.join) ?_
    show HSub ([.ext 100 (lrA lp { rc with state := .busy }), .blk 3 d [.v (.int .i64 n), .v (.int .i64 gs), .v (.int .i64 (tk + 1)), .v (.map (some mp))] 80, .ext 4 (MpA mp [⟨.int .i64 num, .agg #[.int .i64 (0 + 1), .int .i64 (tk + 1)], clk⟩] (clk + 1)), .ext 5 (MpA b5 [⟨.int .i64 num, .agg #[.int .i64 (s : Nat), .int .i64 (t : Nat), .int .i64 (p : Nat), .int .i64 0, .bool false, .int .i64 (g : Nat)], 0⟩] (0 + 1))] ++ ([.ext 17 (BxA 29 38 9 b1 1 [.int .i64 10, .int .i64 me, .int .i64 ((g : Int) * n + 0 % n), .int .i64 0, .int .i64 0, .int .i64 0, .int .i64 (num : Nat), .string ⟨(uvar 1 ++ uvar s ++ uvar t ++ uvar p ++ uvar 1 ++ [107] ++ uvar (zigN (1 + (t : Int)))).toArray⟩, .slice none 0 0])] ++ [.blk 15 b3 [.v (.map (some b5))] 81, .blk 12 b6 [.fn 58 [.loc bn 8 0]] 31, .blk 11 b7 [.v (.int .i64 me)] 3, .blk 10 b8 [.loc d 3 0] 25, .blk 9 bi [.v (.int .i64 (s : Nat)), .v (.int .i64 (t : Nat)), .v (.int .i64 (p : Nat)), .v (.int .i64 0), .v (.bool false), .v (.int .i64 (g : Nat))] 47, .blk 8 bn [.v (.int .u8 9)] 5])) _
    refine HSub.trans ((HSub.refl _).app2 (HSub.app2 (BxA.close (a := a') (cap := cap') (i1 := 17) (i2 := 16)) (HSub.refl _))) ?_
    exact (by (try dsimp only [List.cons_append, List.nil_append, den, denL]); refine SelI.spec ?_; (repeat (first | refine SelI.blk (by repeat (first | with_reducible apply Rm.head | apply Rm.tail)) ?_ | refine SelI.ext (by repeat (first | with_reducible apply Rm.head | apply Rm.tail)) ?_ | (refine SelI.blk' (by repeat (first | with_reducible apply Rm.head | apply Rm.tail)) ?_ ?_; focus rfl) | (refine SelI.ext' (by repeat (first | with_reducible apply Rm.head | apply Rm.tail)) ?_ ?_; focus rfl))); exact SelI.nil)
  · refine hS _ _ ?_
    clear hS KS
    show Run _ _ _ ([.blk 1 b [.v (.map (some b5))] 81, .blk 2 b0 [.loc d 3 0] 25, .blk 3 d [.v (.int .i64 n), .v (.int .i64 gs), .v (.int .i64 (tk + 1)), .v (.map (some mp))] 80, .ext 4 (MpA mp [⟨.int .i64 num, .agg #[.int .i64 (0 + 1), .int .i64 (tk + 1)], clk⟩] (clk + 1)), .ext 5 (MpA b5 [⟨.int .i64 num, .agg #[.int .i64 (s : Nat), .int .i64 (t : Nat), .int .i64 (p : Nat), .int .i64 0, .bool false, .int .i64 (g : Nat)], 0⟩] (0 + 1))] ++ [.ext 9 (X 1)]) _
    refine Run.hsub ((HSub.refl _).app2 HSub.unjoin) ?_
    refine Run.open (α := Option Addr × Nat) (A := []) (B := []) (fun z => [.blk 1 b [.v (.map (some b5))] 81, .blk 2 b0 [.loc d 3 0] 25, .blk 3 d [.v (.int .i64 n), .v (.int .i64 gs), .v (.int .i64 (tk + 1)), .v (.map (some mp))] 80, .ext 4 (MpA mp [⟨.int .i64 num, .agg #[.int .i64 (0 + 1), .int .i64 (tk + 1)], clk⟩] (clk + 1)), .ext 5 (MpA b5 [⟨.int .i64 num, .agg #[.int .i64 (s : Nat), .int .i64 (t : Nat), .int .i64 (p : Nat), .int .i64 0, .bool false, .int .i64 (g : Nat)], 0⟩] (0 + 1)), .blk 17 b1 [.v (.slice z.1 1 z.2)] 29, .ext 16 (SlA 38 9 z.1 1 z.2 [.int .i64 10, .int .i64 me, .int .i64 ((g : Int) * n + 0 % n), .int .i64 0, .int .i64 0, .int .i64 0, .int .i64 (num : Nat), .string ⟨(uvar 1 ++ uvar s ++ uvar t ++ uvar p ++ uvar 1 ++ [107] ++ uvar (zigN (1 + (t : Int)))).toArray⟩, .slice none 0 0])] ++ [.blk 15 b3 [.v (.map (some b5))] 81, .blk 12 b6 [.fn 58 [.loc bn 8 0]] 31, .blk 11 b7 [.v (.int .i64 me)] 3, .blk 10 b8 [.loc d 3 0] 25, .blk 9 bi [.v (.int .i64 (s : Nat)), .v (.int .i64 (t : Nat)), .v (.int .i64 (p : Nat)), .v (.int .i64 0), .v (.bool false), .v (.int .i64 (g : Nat))] 47, .blk 8 bn [.v (.int .u8 9)] 5]) (fun w S h => BxA.openI 17 16 (X := [_, _, _, _, _]) (Y := [.blk 15 b3 [.v (.map (some b5))] 81, .blk 12 b6 [.fn 58 [.loc bn 8 0]] 31, .blk 11 b7 [.v (.int .i64 me)] 3, .blk 10 b8 [.loc d 3 0] 25, .blk 9 bi [.v (.int .i64 (s : Nat)), .v (.int .i64 (t : Nat)), .v (.int .i64 (p : Nat)), .v (.int .i64 0), .v (.bool false), .v (.int .i64 (g : Nat))] 47, .blk 8 bn [.v (.int .u8 9)] 5]) h) ?_
    rintro ⟨a, cap⟩
    dsimp only [List.cons_append, List.nil_append]
    repeat' (first
 | with_reducible (first | refine r_seq (fun KS hS => ?_) | (refine hS _ _ ?_; clear hS KS) | (refine hA _ ?_; clear hA KA) | (refine hB _ ?_; clear hB KB) | refine r_block ?_)
 | ((with_reducible (first | refine r_region ?_ | refine r_cond (fun KA hA KB hB => ?_) | refine r_ret ?_ | refine r_skip ?_ | refine r_exit ?_ | refine And.intro rfl ?_ | intro b)); conv => whnf)
 | ((with_reducible refine WrapK.i64 ?_ ?_); (focus omega); conv => whnf)
 | ((with_reducible apply OpK.more); (focus refine sok); (conv => whnf); fail_if_success guard_target =ₛ False)
 | ((with_reducible (first | refine InAt.mk (fun K' hK => ?_) | refine AnyAt.mk (fun K' hK => ?_) | (refine hK _ ?_; clear hK K') | (refine hK _ _ ?_; clear hK K'))); conv => whnf)
 | ((refine And.intro ?_ ?_); all_goals (conv => whnf))
 | (apply r_quiet; refine mixed; kernel_rfl; kernel_rfl; kernel_rfl; conv => whnf)
 | ((first | refine if_t (by decide) ?_ | refine if_f (by decide) ?_ | refine if_decT (by omega) ?_ | refine if_decF (by omega) ?_ | refine if_ndecT (by omega) ?_ | refine if_ndecF (by omega) ?_); conv => whnf)
 | ((first | refine if_dec (fun h => ?_) (fun h => ?_) | refine if_ndec (fun h => ?_) (fun h => ?_) | refine if_cond (fun h => ?_) (fun h => ?_)); all_goals (conv => whnf))
 | with_reducible apply_assumption -symm -exfalso)
    exact FinK.frZL (a, cap) rfl (by (try dsimp only [List.cons_append, List.nil_append, den, denL]); refine SelI.spec ?_; (repeat (first | refine SelI.blk (by repeat (first | with_reducible apply Rm.head | apply Rm.tail)) ?_ | refine SelI.ext (by repeat (first | with_reducible apply Rm.head | apply Rm.tail)) ?_ | (refine SelI.blk' (by repeat (first | with_reducible apply Rm.head | apply Rm.tail)) ?_ ?_; focus rfl) | (refine SelI.ext' (by repeat (first | with_reducible apply Rm.head | apply Rm.tail)) ?_ ?_; focus rfl))); exact SelI.nil)
theorem tickNotEff24 {s t p : Nat} {g num : Nat} {n gs tk me al ll : Int} {d mp bi bn clk bo : Nat} (h : EffOk s t p) (hg : 1 ≤ g ∧ g ≤ 7) (hn7 : 1 ≤ n ∧ n ≤ 7) (hgs : g < gs) (hme : 0 ≤ me ∧ me < n) (htk : 0 ≤ tk ∧ tk ≤ 999999) (hnum : (num : Int) = itemNum s t p 0 false g) (hw : tk + 1 - ll < 4) (hr : -1000 ≤ tk + 1 - ll) (hbc : bo < clk) (w : World) :
    FrZ Tryz.prog 7 #[pv d, .int .i64 me, .slice (some ⟨bi, 0, none⟩) 1 1, .func (.func 58) #[] #[pv bn]] w (AssL [.blk 9 bi [.v (.int .i64 (s : Nat)), .v (.int .i64 (t : Nat)), .v (.int .i64 (p : Nat)), .v (.int .i64 0), .v (.bool false), .v (.int .i64 (g : Nat))] 47, .blk 8 bn [.v (.int .u8 9)] 5, .ext 4 (MpA mp [⟨.int .i64 num, .agg #[.int .i64 al, .int .i64 ll], bo⟩] clk), .blk 3 d (DC n gs tk mp) 80]) (fun z : Option Addr × Nat => .slice z.1 0 z.2) (fun z => AssL [.ext 70 (SlA 38 9 z.1 0 z.2 []), .blk 9 bi [.v (.int .i64 (s : Nat)), .v (.int .i64 (t : Nat)), .v (.int .i64 (p : Nat)), .v (.int .i64 0), .v (.bool false), .v (.int .i64 (g : Nat))] 47, .blk 8 bn [.v (.int .u8 9)] 5, .ext 4 (MpA mp [⟨.int .i64 num, .agg #[.int .i64 al, .int .i64 ll], bo⟩] clk), .blk 3 d (DC n gs (tk + 1) mp) 80]) := by
  have hk0 : nameOk ⟨#[107]⟩ = true := by decide +kernel
  have h0 := h
  unfold EffOk at h0
  have hn0 : NumOk (1 + (t : Int)) := by unfold NumOk; omega
  have hl0 : (uvar 1 ++ uvar s ++ uvar t ++ uvar p ++ uvar 1 ++ [107] ++ uvar (zigN (1 + (t : Int)))).length ≤ 65536 := by
    have h1 := uvar_len s 1 (by omega); have h2 := uvar_len t 0 (by omega); have h3 := uvar_len p 0 (by omega); have h4 := uvar_len (zigN (1 + (t : Int))) 0 (by unfold zigN; rw [if_pos (by omega)]; omega); have h5 := uvar_len 1 0 (by omega)
    simp only [List.length_append, List.length_cons, List.length_nil]; omega
  have hok : ItemOk s t p 0 false g := okEff h hg hk0 (by decide) (show (1 + (t : Int)) ≠ 0 by unfold EffOk at h; omega) hn0
  refine enter_frZ TBok (H := [.blk 9 bi [.v (.int .i64 (s : Nat)), .v (.int .i64 (t : Nat)), .v (.int .i64 (p : Nat)), .v (.int .i64 0), .v (.bool false), .v (.int .i64 (g : Nat))] 47, .blk 8 bn [.v (.int .u8 9)] 5, .ext 4 (MpA mp [⟨.int .i64 num, .agg #[.int .i64 al, .int .i64 ll], bo⟩] clk), .blk 3 d (DC n gs tk mp) 80]) all_foot Tryz.func7 rfl rfl Tryz.ntmps7 [.loc d 3 0, .v (.int .i64 me), .slc bi 9 0 1 1, .fn 58 [.loc bn 8 0]] rfl rfl ?_
  intro S _ _
  unfold DC
  conv => whnf
  repeat' (first
 | with_reducible (first | refine r_seq (fun KS hS => ?_) | (refine hS _ _ ?_; clear hS KS) | (refine hA _ ?_; clear hA KA) | (refine hB _ ?_; clear hB KB) | refine r_block ?_)
 | ((with_reducible (first | refine r_region ?_ | refine r_cond (fun KA hA KB hB => ?_) | refine r_ret ?_ | refine r_skip ?_ | refine r_exit ?_ | refine And.intro rfl ?_ | intro b)); conv => whnf)
 | ((with_reducible refine WrapK.i64 ?_ ?_); (focus omega); conv => whnf)
 | ((with_reducible refine CallK.id ?_); (first | apply in57 | apply in58 | apply in59 | apply in60); rfl; rfl; rfl; intro A; conv => whnf)
 | ((with_reducible refine CallQ.at 27 ?_); refine CallQ.puW (fun ms w hk => made45 (hk.got (by repeat (first | constructor | apply List.Mem.tail)))) ?_; conv => whnf)
 | ((with_reducible refine QK.id ?_); (refine QK.eqV sok rfl rfl rfl ?_); conv => whnf)
 | ((with_reducible refine IK.id ?_); (refine IK.eqV sok rfl rfl rfl ?_); conv => whnf)
 | ((with_reducible refine OpK.id ?_); refine OpK.mkM rfl ?_; conv => whnf)
 | (intro m; conv => whnf)
 | ((with_reducible refine CallK.at 33 ?_); refine CallK.puW (fun ms w hk => target20 (hk.got (by repeat (first | constructor | apply List.Mem.tail))) hok hn7 hgs (by omega)) ?_; conv => whnf)
 | ((with_reducible refine CallK.at 20 ?_); refine CallK.pu (fun w => numOk70 hok w) ?_; rw [← hnum]; conv => whnf)
 | ((with_reducible refine OpK.id ?_); (first | refine OpK.upE rfl rfl rfl rfl rfl rfl rfl rfl (by repeat (first | with_reducible apply At.head | apply At.tail)) ?_ | refine OpK.rngM rfl rfl rfl rfl (by repeat (first | with_reducible apply At.head | apply At.tail)) ?_ | refine OpK.nxE rfl rfl (by repeat (first | with_reducible apply At.head | apply At.tail)) (by repeat (first | with_reducible apply At.head | apply At.tail)) ?_); conv => whnf)
 | (apply in59; rfl; rfl; rfl; intro A; conv => whnf)
 | ((with_reducible refine OpK.id ?_); (first | refine OpK.nx1 rfl rfl (by repeat (first | with_reducible apply At.head | apply At.tail)) (by repeat (first | with_reducible apply At.head | apply At.tail)) hbc ?_ | refine OpK.nxD rfl rfl (by repeat (first | with_reducible apply At.head | apply At.tail)) (by repeat (first | with_reducible apply At.head | apply At.tail)) hbc ?_ | refine OpK.ent1 rfl rfl (by repeat (first | with_reducible apply At.head | apply At.tail)) (by repeat (first | with_reducible apply At.head | apply At.tail)) ?_ | refine OpK.lk1 rfl rfl rfl rfl rfl rfl rfl (by repeat (first | with_reducible apply At.head | apply At.tail)) ?_); conv => whnf)
 | ((with_reducible apply OpK.more); (focus refine sok); (conv => whnf); fail_if_success guard_target =ₛ False)
 | with_reducible (first | refine Rounds.step (fun KL hL => ?_) | (refine hL _ _ ?_; clear hL KL) | refine r_rounds 100 ?_)
 | ((with_reducible (first | refine InAt.mk (fun K' hK => ?_) | refine AnyAt.mk (fun K' hK => ?_) | (refine hK _ ?_; clear hK K') | (refine hK _ _ ?_; clear hK K'))); conv => whnf)
 | ((refine And.intro ?_ ?_); all_goals (conv => whnf))
 | (apply r_quiet; refine mixed; kernel_rfl; kernel_rfl; kernel_rfl; conv => whnf)
 | ((first | refine if_t (by decide) ?_ | refine if_f (by decide) ?_ | refine if_decT (by omega) ?_ | refine if_decF (by omega) ?_ | refine if_ndecT (by omega) ?_ | refine if_ndecF (by omega) ?_); conv => whnf)
 | ((first | refine if_dec (fun h => ?_) (fun h => ?_) | refine if_ndec (fun h => ?_) (fun h => ?_) | refine if_cond (fun h => ?_) (fun h => ?_)); all_goals (conv => whnf))
 | with_reducible apply_assumption -symm -exfalso)
  rename_i b8 b7 b6 _ _ _ _ _ _ _ b5 _ _ _ _ _ _ _ _ _ _ _ _ _ _ _ _ _ _ _ b3 _ _ _ _ _ _ _ _ _ _ _ _ _ _ _ _ b1 b0
  let X : Nat → Ass := fun i => AssL (.ext 20 (BxA 29 38 9 b1 i (([] : List Value).take (9 * i))) :: [.blk 15 b3 [.v (.map (some b5))] 81, .blk 12 b6 [.fn 58 [.loc bn 8 0]] 31, .blk 11 b7 [.v (.int .i64 me)] 3, .blk 10 b8 [.loc d 3 0] 25, .blk 9 bi [.v (.int .i64 (s : Nat)), .v (.int .i64 (t : Nat)), .v (.int .i64 (p : Nat)), .v (.int .i64 0), .v (.bool false), .v (.int .i64 (g : Nat))] 47, .blk 8 bn [.v (.int .u8 9)] 5])
  let HH : Nat → List Blk := fun i => [.blk 3 d (DC n gs (tk + 1) mp) 80, .ext 4 (if i = 0 then MpA mp [⟨.int .i64 num, .agg #[.int .i64 al, .int .i64 ll], bo⟩] clk else MpA mp [⟨.int .i64 num, .agg #[.int .i64 al, .int .i64 ll], bo⟩] clk), .ext 5 (MpA b5 [⟨.int .i64 num, .agg #[.int .i64 (s : Nat), .int .i64 (t : Nat), .int .i64 (p : Nat), .int .i64 0, .bool false, .int .i64 (g : Nat)], 0⟩] (0 + 1)), .ext 9 (X i)]
  refine r_rangeFuncH (HH := HH) (xs := []) 100 rfl ?_ (fun A0 yv hyv w => dueNot100 (by omega) (by omega) (by omega) X HH rfl A0 yv w) (by simp) (by decide) ?_ ?_
  · show HSub ([.blk 1 b [.v (.map (some b5))] 81, .blk 2 b0 [.loc d 3 0] 25] ++ ([.blk 3 d [.v (.int .i64 n), .v (.int .i64 gs), .v (.int .i64 (tk + 1)), .v (.map (some mp))] 80, .ext 4 (MpA mp [⟨.int .i64 num, .agg #[.int .i64 al, .int .i64 ll], bo⟩] clk), .ext 5 (MpA b5 [⟨.int .i64 num, .agg #[.int .i64 (s : Nat), .int .i64 (t : Nat), .int .i64 (p : Nat), .int .i64 0, .bool false, .int .i64 (g : Nat)], 0⟩] (0 + 1))] ++ [.ext 9 (X 0)])) _
    refine HSub.trans ((HSub.refl _).app2 ((HSub.refl _).app2 HSub.join)) ?_
    show HSub (([.blk 1 b [.v (.map (some b5))] 81, .blk 2 b0 [.loc d 3 0] 25] ++ [.blk 3 d [.v (.int .i64 n), .v (.int .i64 gs), .v (.int .i64 (tk + 1)), .v (.map (some mp))] 80, .ext 4 (MpA mp [⟨.int .i64 num, .agg #[.int .i64 al, .int .i64 ll], bo⟩] clk), .ext 5 (MpA b5 [⟨.int .i64 num, .agg #[.int .i64 (s : Nat), .int .i64 (t : Nat), .int .i64 (p : Nat), .int .i64 0, .bool false, .int .i64 (g : Nat)], 0⟩] (0 + 1))]) ++ ([.ext 20 (BxA 29 38 9 b1 0 [])] ++ [.blk 15 b3 [.v (.map (some b5))] 81, .blk 12 b6 [.fn 58 [.loc bn 8 0]] 31, .blk 11 b7 [.v (.int .i64 me)] 3, .blk 10 b8 [.loc d 3 0] 25, .blk 9 bi [.v (.int .i64 (s : Nat)), .v (.int .i64 (t : Nat)), .v (.int .i64 (p : Nat)), .v (.int .i64 0), .v (.bool false), .v (.int .i64 (g : Nat))] 47, .blk 8 bn [.v (.int .u8 9)] 5])) _
    refine HSub.trans ((HSub.refl _).app2 (HSub.app2 (BxA.nil (i1 := 20)) (HSub.refl _))) ?_
    exact (by (try dsimp only [List.cons_append, List.nil_append, den, denL, ti29]); refine SelI.spec ?_; (repeat (first | refine SelI.blk (by repeat (first | with_reducible apply Rm.head | apply Rm.tail)) ?_ | refine SelI.ext (by repeat (first | with_reducible apply Rm.head | apply Rm.tail)) ?_ | (refine SelI.blk' (by repeat (first | with_reducible apply Rm.head | apply Rm.tail)) ?_ ?_; focus rfl) | (refine SelI.ext' (by repeat (first | with_reducible apply Rm.head | apply Rm.tail)) ?_ ?_; focus rfl))); exact SelI.nil)
  · intro i x hx
    simp at hx
  · refine hS _ _ ?_
    clear hS KS
    show Run _ _ _ ([.blk 1 b [.v (.map (some b5))] 81, .blk 2 b0 [.loc d 3 0] 25, .blk 3 d [.v (.int .i64 n), .v (.int .i64 gs), .v (.int .i64 (tk + 1)), .v (.map (some mp))] 80, .ext 4 (MpA mp [⟨.int .i64 num, .agg #[.int .i64 al, .int .i64 ll], bo⟩] clk), .ext 5 (MpA b5 [⟨.int .i64 num, .agg #[.int .i64 (s : Nat), .int .i64 (t : Nat), .int .i64 (p : Nat), .int .i64 0, .bool false, .int .i64 (g : Nat)], 0⟩] (0 + 1))] ++ [.ext 9 (X 0)]) _
    refine Run.hsub ((HSub.refl _).app2 HSub.unjoin) ?_
    refine Run.open (α := Option Addr × Nat) (A := []) (B := []) (fun z => [.blk 1 b [.v (.map (some b5))] 81, .blk 2 b0 [.loc d 3 0] 25, .blk 3 d [.v (.int .i64 n), .v (.int .i64 gs), .v (.int .i64 (tk + 1)), .v (.map (some mp))] 80, .ext 4 (MpA mp [⟨.int .i64 num, .agg #[.int .i64 al, .int .i64 ll], bo⟩] clk), .ext 5 (MpA b5 [⟨.int .i64 num, .agg #[.int .i64 (s : Nat), .int .i64 (t : Nat), .int .i64 (p : Nat), .int .i64 0, .bool false, .int .i64 (g : Nat)], 0⟩] (0 + 1)), .blk 20 b1 [.v (.slice z.1 0 z.2)] 29, .ext 16 (SlA 38 9 z.1 0 z.2 [])] ++ [.blk 15 b3 [.v (.map (some b5))] 81, .blk 12 b6 [.fn 58 [.loc bn 8 0]] 31, .blk 11 b7 [.v (.int .i64 me)] 3, .blk 10 b8 [.loc d 3 0] 25, .blk 9 bi [.v (.int .i64 (s : Nat)), .v (.int .i64 (t : Nat)), .v (.int .i64 (p : Nat)), .v (.int .i64 0), .v (.bool false), .v (.int .i64 (g : Nat))] 47, .blk 8 bn [.v (.int .u8 9)] 5]) (fun w S h => BxA.openI 20 16 (X := [_, _, _, _, _]) (Y := [.blk 15 b3 [.v (.map (some b5))] 81, .blk 12 b6 [.fn 58 [.loc bn 8 0]] 31, .blk 11 b7 [.v (.int .i64 me)] 3, .blk 10 b8 [.loc d 3 0] 25, .blk 9 bi [.v (.int .i64 (s : Nat)), .v (.int .i64 (t : Nat)), .v (.int .i64 (p : Nat)), .v (.int .i64 0), .v (.bool false), .v (.int .i64 (g : Nat))] 47, .blk 8 bn [.v (.int .u8 9)] 5]) h) ?_
    rintro ⟨a, cap⟩
    dsimp only [List.cons_append, List.nil_append]
    repeat' (first
 | with_reducible (first | refine r_seq (fun KS hS => ?_) | (refine hS _ _ ?_; clear hS KS) | (refine hA _ ?_; clear hA KA) | (refine hB _ ?_; clear hB KB) | refine r_block ?_)
 | ((with_reducible (first | refine r_region ?_ | refine r_cond (fun KA hA KB hB => ?_) | refine r_ret ?_ | refine r_skip ?_ | refine r_exit ?_ | refine And.intro rfl ?_ | intro b)); conv => whnf)
 | ((with_reducible refine WrapK.i64 ?_ ?_); (focus omega); conv => whnf)
 | ((with_reducible apply OpK.more); (focus refine sok); (conv => whnf); fail_if_success guard_target =ₛ False)
 | ((with_reducible (first | refine InAt.mk (fun K' hK => ?_) | refine AnyAt.mk (fun K' hK => ?_) | (refine hK _ ?_; clear hK K') | (refine hK _ _ ?_; clear hK K'))); conv => whnf)
 | ((refine And.intro ?_ ?_); all_goals (conv => whnf))
 | (apply r_quiet; refine mixed; kernel_rfl; kernel_rfl; kernel_rfl; conv => whnf)
 | ((first | refine if_t (by decide) ?_ | refine if_f (by decide) ?_ | refine if_decT (by omega) ?_ | refine if_decF (by omega) ?_ | refine if_ndecT (by omega) ?_ | refine if_ndecF (by omega) ?_); conv => whnf)
 | ((first | refine if_dec (fun h => ?_) (fun h => ?_) | refine if_ndec (fun h => ?_) (fun h => ?_) | refine if_cond (fun h => ?_) (fun h => ?_)); all_goals (conv => whnf))
 | with_reducible apply_assumption -symm -exfalso)
    exact FinK.frZL (a, cap) rfl (by (try dsimp only [List.cons_append, List.nil_append, den, denL]); refine SelI.spec ?_; (repeat (first | refine SelI.blk (by repeat (first | with_reducible apply Rm.head | apply Rm.tail)) ?_ | refine SelI.ext (by repeat (first | with_reducible apply Rm.head | apply Rm.tail)) ?_ | (refine SelI.blk' (by repeat (first | with_reducible apply Rm.head | apply Rm.tail)) ?_ ?_; focus rfl) | (refine SelI.ext' (by repeat (first | with_reducible apply Rm.head | apply Rm.tail)) ?_ ?_; focus rfl))); exact SelI.nil)
theorem tickAgainEff24 {s t p : Nat} {g num : Nat} {n gs tk me al ll : Int} {d mp bi bn clk bo : Nat} (h : EffOk s t p) (hg : 1 ≤ g ∧ g ≤ 7) (hn7 : 1 ≤ n ∧ n ≤ 7) (hgs : g < gs) (hme : 0 ≤ me ∧ me < n) (htk : 0 ≤ tk ∧ tk ≤ 999999) (hnum : (num : Int) = itemNum s t p 0 false g) (hw : 4 ≤ tk + 1 - ll) (hr : -1000 ≤ ll) (hbc : bo < clk) (hal : 0 ≤ al ∧ al ≤ 1000000) (w : World) :
    FrZ Tryz.prog 7 #[pv d, .int .i64 me, .slice (some ⟨bi, 0, none⟩) 1 1, .func (.func 58) #[] #[pv bn]] w (AssL [.blk 9 bi [.v (.int .i64 (s : Nat)), .v (.int .i64 (t : Nat)), .v (.int .i64 (p : Nat)), .v (.int .i64 0), .v (.bool false), .v (.int .i64 (g : Nat))] 47, .blk 8 bn [.v (.int .u8 9)] 5, .ext 4 (MpA mp [⟨.int .i64 num, .agg #[.int .i64 al, .int .i64 ll], bo⟩] clk), .blk 3 d (DC n gs tk mp) 80]) (fun z : Option Addr × Nat => .slice z.1 1 z.2) (fun z => AssL [.ext 70 (SlA 38 9 z.1 1 z.2 [.int .i64 10, .int .i64 me, .int .i64 ((g : Int) * n + al % n), .int .i64 0, .int .i64 0, .int .i64 0, .int .i64 (num : Nat), .string ⟨(uvar 1 ++ uvar s ++ uvar t ++ uvar p ++ uvar 1 ++ [107] ++ uvar (zigN (1 + (t : Int)))).toArray⟩, .slice none 0 0]), .blk 9 bi [.v (.int .i64 (s : Nat)), .v (.int .i64 (t : Nat)), .v (.int .i64 (p : Nat)), .v (.int .i64 0), .v (.bool false), .v (.int .i64 (g : Nat))] 47, .blk 8 bn [.v (.int .u8 9)] 5, .ext 4 (MpA mp [⟨.int .i64 num, .agg #[.int .i64 (al + 1), .int .i64 (tk + 1)], bo⟩] clk), .blk 3 d (DC n gs (tk + 1) mp) 80]) := by
  have hk0 : nameOk ⟨#[107]⟩ = true := by decide +kernel
  have h0 := h
  unfold EffOk at h0
  have hn0 : NumOk (1 + (t : Int)) := by unfold NumOk; omega
  have hl0 : (uvar 1 ++ uvar s ++ uvar t ++ uvar p ++ uvar 1 ++ [107] ++ uvar (zigN (1 + (t : Int)))).length ≤ 65536 := by
    have h1 := uvar_len s 1 (by omega); have h2 := uvar_len t 0 (by omega); have h3 := uvar_len p 0 (by omega); have h4 := uvar_len (zigN (1 + (t : Int))) 0 (by unfold zigN; rw [if_pos (by omega)]; omega); have h5 := uvar_len 1 0 (by omega)
    simp only [List.length_append, List.length_cons, List.length_nil]; omega
  have hok : ItemOk s t p 0 false g := okEff h hg hk0 (by decide) (show (1 + (t : Int)) ≠ 0 by unfold EffOk at h; omega) hn0
  refine enter_frZ TBok (H := [.blk 9 bi [.v (.int .i64 (s : Nat)), .v (.int .i64 (t : Nat)), .v (.int .i64 (p : Nat)), .v (.int .i64 0), .v (.bool false), .v (.int .i64 (g : Nat))] 47, .blk 8 bn [.v (.int .u8 9)] 5, .ext 4 (MpA mp [⟨.int .i64 num, .agg #[.int .i64 al, .int .i64 ll], bo⟩] clk), .blk 3 d (DC n gs tk mp) 80]) all_foot Tryz.func7 rfl rfl Tryz.ntmps7 [.loc d 3 0, .v (.int .i64 me), .slc bi 9 0 1 1, .fn 58 [.loc bn 8 0]] rfl rfl ?_
  intro S _ _
  unfold DC
  conv => whnf
  repeat' (first
 | with_reducible (first | refine r_seq (fun KS hS => ?_) | (refine hS _ _ ?_; clear hS KS) | (refine hA _ ?_; clear hA KA) | (refine hB _ ?_; clear hB KB) | refine r_block ?_)
 | ((with_reducible (first | refine r_region ?_ | refine r_cond (fun KA hA KB hB => ?_) | refine r_ret ?_ | refine r_skip ?_ | refine r_exit ?_ | refine And.intro rfl ?_ | intro b)); conv => whnf)
 | ((with_reducible refine WrapK.i64 ?_ ?_); (focus omega); conv => whnf)
 | ((with_reducible refine CallK.id ?_); (first | apply in57 | apply in58 | apply in59 | apply in60); rfl; rfl; rfl; intro A; conv => whnf)
 | ((with_reducible refine CallQ.at 27 ?_); refine CallQ.puW (fun ms w hk => made45 (hk.got (by repeat (first | constructor | apply List.Mem.tail)))) ?_; conv => whnf)
 | ((with_reducible refine QK.id ?_); (refine QK.eqV sok rfl rfl rfl ?_); conv => whnf)
 | ((with_reducible refine IK.id ?_); (refine IK.eqV sok rfl rfl rfl ?_); conv => whnf)
 | ((with_reducible refine OpK.id ?_); refine OpK.mkM rfl ?_; conv => whnf)
 | (intro m; conv => whnf)
 | ((with_reducible refine CallK.at 33 ?_); refine CallK.puW (fun ms w hk => target20 (hk.got (by repeat (first | constructor | apply List.Mem.tail))) hok hn7 hgs (by omega)) ?_; conv => whnf)
 | ((with_reducible refine CallK.at 20 ?_); refine CallK.pu (fun w => numOk70 hok w) ?_; rw [← hnum]; conv => whnf)
 | ((with_reducible refine OpK.id ?_); (first | refine OpK.upE rfl rfl rfl rfl rfl rfl rfl rfl (by repeat (first | with_reducible apply At.head | apply At.tail)) ?_ | refine OpK.rngM rfl rfl rfl rfl (by repeat (first | with_reducible apply At.head | apply At.tail)) ?_ | refine OpK.nxE rfl rfl (by repeat (first | with_reducible apply At.head | apply At.tail)) (by repeat (first | with_reducible apply At.head | apply At.tail)) ?_); conv => whnf)
 | (apply in59; rfl; rfl; rfl; intro A; conv => whnf)
 | ((with_reducible refine OpK.id ?_); (first | refine OpK.nx1 rfl rfl (by repeat (first | with_reducible apply At.head | apply At.tail)) (by repeat (first | with_reducible apply At.head | apply At.tail)) hbc ?_ | refine OpK.nxD rfl rfl (by repeat (first | with_reducible apply At.head | apply At.tail)) (by repeat (first | with_reducible apply At.head | apply At.tail)) hbc ?_ | refine OpK.ent1 rfl rfl (by repeat (first | with_reducible apply At.head | apply At.tail)) (by repeat (first | with_reducible apply At.head | apply At.tail)) ?_ | refine OpK.lk1 rfl rfl rfl rfl rfl rfl rfl (by repeat (first | with_reducible apply At.head | apply At.tail)) ?_); conv => whnf)
 | ((with_reducible apply OpK.more); (focus refine sok); (conv => whnf); fail_if_success guard_target =ₛ False)
 | with_reducible (first | refine Rounds.step (fun KL hL => ?_) | (refine hL _ _ ?_; clear hL KL) | refine r_rounds 100 ?_)
 | ((with_reducible (first | refine InAt.mk (fun K' hK => ?_) | refine AnyAt.mk (fun K' hK => ?_) | (refine hK _ ?_; clear hK K') | (refine hK _ _ ?_; clear hK K'))); conv => whnf)
 | ((refine And.intro ?_ ?_); all_goals (conv => whnf))
 | (apply r_quiet; refine mixed; kernel_rfl; kernel_rfl; kernel_rfl; conv => whnf)
 | ((first | refine if_t (by decide) ?_ | refine if_f (by decide) ?_ | refine if_decT (by omega) ?_ | refine if_decF (by omega) ?_ | refine if_ndecT (by omega) ?_ | refine if_ndecF (by omega) ?_); conv => whnf)
 | ((first | refine if_dec (fun h => ?_) (fun h => ?_) | refine if_ndec (fun h => ?_) (fun h => ?_) | refine if_cond (fun h => ?_) (fun h => ?_)); all_goals (conv => whnf))
 | with_reducible apply_assumption -symm -exfalso)
  rename_i b8 b7 b6 _ _ _ _ _ _ _ b5 _ _ _ _ _ _ _ _ _ _ _ _ _ _ _ _ _ _ _ b3 _ _ _ _ _ _ _ _ _ _ _ _ _ _ _ _ b1 b0
  let X : Nat → Ass := fun i => AssL (.ext 20 (BxA 29 38 9 b1 i (([.int .i64 10, .int .i64 me, .int .i64 ((g : Int) * n + al % n), .int .i64 0, .int .i64 0, .int .i64 0, .int .i64 (num : Nat), .string ⟨(uvar 1 ++ uvar s ++ uvar t ++ uvar p ++ uvar 1 ++ [107] ++ uvar (zigN (1 + (t : Int)))).toArray⟩, .slice none 0 0] : List Value).take (9 * i))) :: [.blk 15 b3 [.v (.map (some b5))] 81, .blk 12 b6 [.fn 58 [.loc bn 8 0]] 31, .blk 11 b7 [.v (.int .i64 me)] 3, .blk 10 b8 [.loc d 3 0] 25, .blk 9 bi [.v (.int .i64 (s : Nat)), .v (.int .i64 (t : Nat)), .v (.int .i64 (p : Nat)), .v (.int .i64 0), .v (.bool false), .v (.int .i64 (g : Nat))] 47, .blk 8 bn [.v (.int .u8 9)] 5])
  let HH : Nat → List Blk := fun i => [.blk 3 d (DC n gs (tk + 1) mp) 80, .ext 4 (if i = 0 then MpA mp [⟨.int .i64 num, .agg #[.int .i64 al, .int .i64 ll], bo⟩] clk else MpA mp [⟨.int .i64 num, .agg #[.int .i64 (al + 1), .int .i64 (tk + 1)], bo⟩] clk), .ext 5 (MpA b5 [⟨.int .i64 num, .agg #[.int .i64 (s : Nat), .int .i64 (t : Nat), .int .i64 (p : Nat), .int .i64 0, .bool false, .int .i64 (g : Nat)], 0⟩] (0 + 1)), .ext 9 (X i)]
  refine r_rangeFuncH (HH := HH) (xs := [[.v (.int .i64 num), .v (.agg #[.int .i64 al, .int .i64 ll])]]) 100 rfl ?_ (fun A0 yv hyv w => dueAgain100 (by omega) hr (by omega) X HH rfl A0 yv (hyv 0 _ rfl) w) (by simp) (by decide) ?_ ?_
  · show HSub ([.blk 1 b [.v (.map (some b5))] 81, .blk 2 b0 [.loc d 3 0] 25] ++ ([.blk 3 d [.v (.int .i64 n), .v (.int .i64 gs), .v (.int .i64 (tk + 1)), .v (.map (some mp))] 80, .ext 4 (MpA mp [⟨.int .i64 num, .agg #[.int .i64 al, .int .i64 ll], bo⟩] clk), .ext 5 (MpA b5 [⟨.int .i64 num, .agg #[.int .i64 (s : Nat), .int .i64 (t : Nat), .int .i64 (p : Nat), .int .i64 0, .bool false, .int .i64 (g : Nat)], 0⟩] (0 + 1))] ++ [.ext 9 (X 0)])) _
    refine HSub.trans ((HSub.refl _).app2 ((HSub.refl _).app2 HSub.join)) ?_
    show HSub (([.blk 1 b [.v (.map (some b5))] 81, .blk 2 b0 [.loc d 3 0] 25] ++ [.blk 3 d [.v (.int .i64 n), .v (.int .i64 gs), .v (.int .i64 (tk + 1)), .v (.map (some mp))] 80, .ext 4 (MpA mp [⟨.int .i64 num, .agg #[.int .i64 al, .int .i64 ll], bo⟩] clk), .ext 5 (MpA b5 [⟨.int .i64 num, .agg #[.int .i64 (s : Nat), .int .i64 (t : Nat), .int .i64 (p : Nat), .int .i64 0, .bool false, .int .i64 (g : Nat)], 0⟩] (0 + 1))]) ++ ([.ext 20 (BxA 29 38 9 b1 0 [])] ++ [.blk 15 b3 [.v (.map (some b5))] 81, .blk 12 b6 [.fn 58 [.loc bn 8 0]] 31, .blk 11 b7 [.v (.int .i64 me)] 3, .blk 10 b8 [.loc d 3 0] 25, .blk 9 bi [.v (.int .i64 (s : Nat)), .v (.int .i64 (t : Nat)), .v (.int .i64 (p : Nat)), .v (.int .i64 0), .v (.bool false), .v (.int .i64 (g : Nat))] 47, .blk 8 bn [.v (.int .u8 9)] 5])) _
    refine HSub.trans ((HSub.refl _).app2 (HSub.app2 (BxA.nil (i1 := 20)) (HSub.refl _))) ?_
    exact (by (try dsimp only [List.cons_append, List.nil_append, den, denL, ti29]); refine SelI.spec ?_; (repeat (first | refine SelI.blk (by repeat (first | with_reducible apply Rm.head | apply Rm.tail)) ?_ | refine SelI.ext (by repeat (first | with_reducible apply Rm.head | apply Rm.tail)) ?_ | (refine SelI.blk' (by repeat (first | with_reducible apply Rm.head | apply Rm.tail)) ?_ ?_; focus rfl) | (refine SelI.ext' (by repeat (first | with_reducible apply Rm.head | apply Rm.tail)) ?_ ?_; focus rfl))); exact SelI.nil)
  · intro i x hx lp rc W' S'
    obtain ⟨rfl, rfl⟩ : i = 0 ∧ [SV.v (.int .i64 num), SV.v (.agg #[.int .i64 al, .int .i64 ll])] = x := by
      cases i with
      | zero => simpa using hx
      | succ i => simp at hx
    refine Run.lax ?_
    show Run _ _ _ (.ext 100 (lrA lp rc) :: [.blk 3 d [.v (.int .i64 n), .v (.int .i64 gs), .v (.int .i64 (tk + 1)), .v (.map (some mp))] 80, .ext 4 (MpA mp [⟨.int .i64 num, .agg #[.int .i64 al, .int .i64 ll], bo⟩] clk), .ext 5 (MpA b5 [⟨.int .i64 num, .agg #[.int .i64 (s : Nat), .int .i64 (t : Nat), .int .i64 (p : Nat), .int .i64 0, .bool false, .int .i64 (g : Nat)], 0⟩] (0 + 1)), .ext 9 (X 0)]) _
    conv => whnf
    repeat' (first
 | with_reducible (first | refine r_seq (fun KS hS => ?_) | (refine hS _ _ ?_; clear hS KS) | (refine hA _ ?_; clear hA KA) | (refine hB _ ?_; clear hB KB) | refine r_block ?_)
 | ((with_reducible (first | refine r_region ?_ | refine r_cond (fun KA hA KB hB => ?_) | refine r_ret ?_ | refine r_skip ?_ | refine r_exit ?_ | refine And.intro rfl ?_ | intro b)); conv => whnf)
 | ((with_reducible refine WrapK.i64 ?_ ?_); (focus omega); conv => whnf)
 | ((with_reducible apply OpK.more); (focus refine sok); (conv => whnf); fail_if_success guard_target =ₛ False)
 | ((with_reducible (first | refine InAt.mk (fun K' hK => ?_) | refine AnyAt.mk (fun K' hK => ?_) | (refine hK _ ?_; clear hK K') | (refine hK _ _ ?_; clear hK K'))); conv => whnf)
 | ((refine And.intro ?_ ?_); all_goals (conv => whnf))
 | (apply r_quiet; refine mixed; kernel_rfl; kernel_rfl; kernel_rfl; conv => whnf)
 | ((first | refine if_t (by decide) ?_ | refine if_f (by decide) ?_ | refine if_decT (by omega) ?_ | refine if_decF (by omega) ?_ | refine if_ndecT (by omega) ?_ | refine if_ndecF (by omega) ?_); conv => whnf)
 | ((first | refine if_dec (fun h => ?_) (fun h => ?_) | refine if_ndec (fun h => ?_) (fun h => ?_) | refine if_cond (fun h => ?_) (fun h => ?_)); all_goals (conv => whnf))
 | with_reducible apply_assumption -symm -exfalso)
    refine ⟨_, HSub.perm (List.Perm.swap _ _ _), _, rfl, ?_⟩
    refine r_block ?_
    refine Run.hsub (HSub.perm (List.Perm.swap _ _ _)) ?_
    show Run _ _ _ ([.blk 101 b [.v (.int .i64 al), .v (.int .i64 ll)] 85, .ext 100 (lrA lp { rc with state := .busy }), .blk 3 d [.v (.int .i64 n), .v (.int .i64 gs), .v (.int .i64 (tk + 1)), .v (.map (some mp))] 80, .ext 4 (MpA mp [⟨.int .i64 num, .agg #[.int .i64 al, .int .i64 ll], bo⟩] clk), .ext 5 (MpA b5 [⟨.int .i64 num, .agg #[.int .i64 (s : Nat), .int .i64 (t : Nat), .int .i64 (p : Nat), .int .i64 0, .bool false, .int .i64 (g : Nat)], 0⟩] (0 + 1))] ++ [.ext 9 (X 0)]) _
    refine Run.hsub ((HSub.refl _).app2 HSub.unjoin) ?_
    refine Run.open (α := Option Addr × Nat) (A := []) (B := []) (fun z => [.blk 101 b [.v (.int .i64 al), .v (.int .i64 ll)] 85, .ext 100 (lrA lp { rc with state := .busy }), .blk 3 d [.v (.int .i64 n), .v (.int .i64 gs), .v (.int .i64 (tk + 1)), .v (.map (some mp))] 80, .ext 4 (MpA mp [⟨.int .i64 num, .agg #[.int .i64 al, .int .i64 ll], bo⟩] clk), .ext 5 (MpA b5 [⟨.int .i64 num, .agg #[.int .i64 (s : Nat), .int .i64 (t : Nat), .int .i64 (p : Nat), .int .i64 0, .bool false, .int .i64 (g : Nat)], 0⟩] (0 + 1)), .blk 20 b1 [.v (.slice z.1 0 z.2)] 29, .ext 16 (SlA 38 9 z.1 0 z.2 [])] ++ [.blk 15 b3 [.v (.map (some b5))] 81, .blk 12 b6 [.fn 58 [.loc bn 8 0]] 31, .blk 11 b7 [.v (.int .i64 me)] 3, .blk 10 b8 [.loc d 3 0] 25, .blk 9 bi [.v (.int .i64 (s : Nat)), .v (.int .i64 (t : Nat)), .v (.int .i64 (p : Nat)), .v (.int .i64 0), .v (.bool false), .v (.int .i64 (g : Nat))] 47, .blk 8 bn [.v (.int .u8 9)] 5]) (fun w S h => BxA.openI 20 16 (X := [_, _, _, _, _]) (Y := [.blk 15 b3 [.v (.map (some b5))] 81, .blk 12 b6 [.fn 58 [.loc bn 8 0]] 31, .blk 11 b7 [.v (.int .i64 me)] 3, .blk 10 b8 [.loc d 3 0] 25, .blk 9 bi [.v (.int .i64 (s : Nat)), .v (.int .i64 (t : Nat)), .v (.int .i64 (p : Nat)), .v (.int .i64 0), .v (.bool false), .v (.int .i64 (g : Nat))] 47, .blk 8 bn [.v (.int .u8 9)] 5]) h) ?_
    rintro ⟨a, cap⟩
    dsimp only [List.cons_append, List.nil_append]
    repeat' (first
 | with_reducible (first | refine r_seq (fun KS hS => ?_) | (refine hS _ _ ?_; clear hS KS) | (refine hA _ ?_; clear hA KA) | (refine hB _ ?_; clear hB KB) | refine r_block ?_)
 | ((with_reducible (first | refine r_region ?_ | refine r_cond (fun KA hA KB hB => ?_) | refine r_ret ?_ | refine r_skip ?_ | refine r_exit ?_ | refine And.intro rfl ?_ | intro b)); conv => whnf)
 | ((with_reducible refine WrapK.i64 ?_ ?_); (focus omega); conv => whnf)
 | ((with_reducible refine QK.id ?_); refine QK.bld rfl ?_; conv => whnf)
 | ((with_reducible refine CallK.at 58 ?_); refine CallK.puW (fun ms w hk => cmdEff72 (hk.got (by repeat (first | constructor | apply List.Mem.tail))) h (by omega)) ?_; conv => whnf)
 | ((with_reducible refine CallK.at 32 ?_); refine CallK.pu (fun w => fitsEff61 h hg hk0 (by decide) (by omega) hn0 w) ?_; conv => whnf)
 | ((with_reducible refine CallK.id ?_); refine CallK.fresh (fun ms w hk => encEff62 h hk0 (by decide) (by omega) hn0 hl0 w) ?_; conv => whnf)
 | (intro z; conv => whnf)
 | ((with_reducible refine CallK.at 33 ?_); refine CallK.puW (fun ms w hk => target20 (hk.got (by repeat (first | constructor | apply List.Mem.tail))) hok hn7 hgs (by omega)) ?_; conv => whnf)
 | ((with_reducible refine OpK.id ?_); (first | refine OpK.lk1 rfl rfl rfl rfl rfl rfl rfl (by repeat (first | with_reducible apply At.head | apply At.tail)) ?_ | refine OpK.cvBS' rfl rfl rfl rfl rfl rfl rfl rfl (Sees.ext (by repeat (first | with_reducible apply At.head | apply At.tail))) rfl ?_ | (refine OpK.app (k := 9) rfl rfl rfl rfl rfl rfl rfl rfl (by repeat (first | with_reducible apply At.head | apply At.tail)) (SrcK.slc rfl rfl (by repeat (first | constructor | apply List.Mem.tail)) (Nat.le_refl _) rfl) (by show (0 + 1) * (_ + 1) ≤ 140737488355328; decide) (fun a' cap' => ?_))); conv => whnf)
 | (apply r_split 13 (id := 16); refine mixed; kernel_rfl; kernel_rfl; kernel_rfl; intro K' hK; conv => whnf)
 | ((with_reducible refine OpK.id ?_); refine OpK.up1 rfl rfl rfl rfl rfl rfl rfl rfl (by repeat (first | with_reducible apply At.head | apply At.tail)) ?_; conv => whnf)
 | ((with_reducible apply OpK.more); (focus refine sok); (conv => whnf); fail_if_success guard_target =ₛ False)
 | ((with_reducible (first | refine InAt.mk (fun K' hK => ?_) | refine AnyAt.mk (fun K' hK => ?_) | (refine hK _ ?_; clear hK K') | (refine hK _ _ ?_; clear hK K'))); conv => whnf)
 | ((refine And.intro ?_ ?_); all_goals (conv => whnf))
 | (apply r_quiet; refine mixed; kernel_rfl; kernel_rfl; kernel_rfl; conv => whnf)
 | ((first | refine if_t (by decide) ?_ | refine if_f (by decide) ?_ | refine if_decT (by omega) ?_ | refine if_decF (by omega) ?_ | refine if_ndecT (by omega) ?_ | refine if_ndecF (by omega) ?_); conv => whnf)
 | ((first | refine if_dec (fun h => ?_) (fun h => ?_) | refine if_ndec (fun h => ?_) (fun h => ?_) | refine if_cond (fun h => ?_) (fun h => ?_)); all_goals (conv => whnf))
 | with_reducible apply_assumption -symm -exfalso)
    refine ⟨?_⟩
    show HSub ([.ext 100 (lrA lp { rc with state := .busy }), .blk 3 d [.v (.int .i64 n), .v (.int .i64 gs), .v (.int .i64 (tk + 1)), .v (.map (some mp))] 80, .ext 4 (MpA mp [⟨.int .i64 num, .agg #[.int .i64 (al + 1), .int .i64 (tk + 1)], bo⟩] clk), .ext 5 (MpA b5 [⟨.int .i64 num, .agg #[.int .i64 (s : Nat), .int .i64 (t : Nat), .int .i64 (p : Nat), .int .i64 0, .bool false, .int .i64 (g : Nat)], 0⟩] (0 + 1))] ++ [.ext 9 (X 1)]) _
    refine HSub.trans ((HSub.refl _).app2 HSub.join) ?_
    show HSub ([.ext 100 (lrA lp { rc with state := .busy }), .blk 3 d [.v (.int .i64 n), .v (.int .i64 gs), .v (.int .i64 (tk + 1)), .v (.map (some mp))] 80, .ext 4 (MpA mp [⟨.int .i64 num, .agg #[.int .i64 (al + 1), .int .i64 (tk + 1)], bo⟩] clk), .ext 5 (MpA b5 [⟨.int .i64 num, .agg #[.int .i64 (s : Nat), .int .i64 (t : Nat), .int .i64 (p : Nat), .int .i64 0, .bool false, .int .i64 (g : Nat)], 0⟩] (0 + 1))] ++ ([.ext 20 (BxA 29 38 9 b1 1 [.int .i64 10, .int .i64 me, .int .i64 ((g : Int) * n + al % n), .int .i64 0, .int .i64 0, .int .i64 0, .int .i64 (num : Nat), .string ⟨(uvar 1 ++ uvar s ++ uvar t ++ uvar p ++ uvar 1 ++ [107] ++ uvar (zigN (1 + (t : Int)))).toArray⟩, .slice none 0 0])] ++ [.blk 15 b3 [.v (.map (some b5))] 81, .blk 12 b6 [.fn 58 [.loc bn 8 0]] 31, .blk 11 b7 [.v (.int .i64 me)] 3, .blk 10 b8 [.loc d 3 0] 25, .blk 9 bi [.v (.int .i64 (s : Nat)), .v (.int .i64 (t : Nat)), .v (.int .i64 (p : Nat)), .v (.int .i64 0), .v (.bool false), .v (.int .i64 (g : Nat))] 47, .blk 8 bn [.v (.int .u8 9)] 5])) _
    refine HSub.trans ((HSub.refl _).app2 (HSub.app2 (BxA.close (a := a') (cap := cap') (i1 := 20) (i2 := 16)) (HSub.refl _))) ?_
    exact (by (try dsimp only [List.cons_append, List.nil_append, den, denL]); refine SelI.spec ?_; (repeat (first | refine SelI.blk (by repeat (first | with_reducible apply Rm.head | apply Rm.tail)) ?_ | refine SelI.ext (by repeat (first | with_reducible apply Rm.head | apply Rm.tail)) ?_ | (refine SelI.blk' (by repeat (first | with_reducible apply Rm.head | apply Rm.tail)) ?_ ?_; focus rfl) | (refine SelI.ext' (by repeat (first | with_reducible apply Rm.head | apply Rm.tail)) ?_ ?_; focus rfl))); exact SelI.nil)
  · refine hS _ _ ?_
    clear hS KS
    show Run _ _ _ ([.blk 1 b [.v (.map (some b5))] 81, .blk 2 b0 [.loc d 3 0] 25, .blk 3 d [.v (.int .i64 n), .v (.int .i64 gs), .v (.int .i64 (tk + 1)), .v (.map (some mp))] 80, .ext 4 (MpA mp [⟨.int .i64 num, .agg #[.int .i64 (al + 1), .int .i64 (tk + 1)], bo⟩] clk), .ext 5 (MpA b5 [⟨.int .i64 num, .agg #[.int .i64 (s : Nat), .int .i64 (t : Nat), .int .i64 (p : Nat), .int .i64 0, .bool false, .int .i64 (g : Nat)], 0⟩] (0 + 1))] ++ [.ext 9 (X 1)]) _
    refine Run.hsub ((HSub.refl _).app2 HSub.unjoin) ?_
    refine Run.open (α := Option Addr × Nat) (A := []) (B := []) (fun z => [.blk 1 b [.v (.map (some b5))] 81, .blk 2 b0 [.loc d 3 0] 25, .blk 3 d [.v (.int .i64 n), .v (.int .i64 gs), .v (.int .i64 (tk + 1)), .v (.map (some mp))] 80, .ext 4 (MpA mp [⟨.int .i64 num, .agg #[.int .i64 (al + 1), .int .i64 (tk + 1)], bo⟩] clk), .ext 5 (MpA b5 [⟨.int .i64 num, .agg #[.int .i64 (s : Nat), .int .i64 (t : Nat), .int .i64 (p : Nat), .int .i64 0, .bool false, .int .i64 (g : Nat)], 0⟩] (0 + 1)), .blk 20 b1 [.v (.slice z.1 1 z.2)] 29, .ext 16 (SlA 38 9 z.1 1 z.2 [.int .i64 10, .int .i64 me, .int .i64 ((g : Int) * n + al % n), .int .i64 0, .int .i64 0, .int .i64 0, .int .i64 (num : Nat), .string ⟨(uvar 1 ++ uvar s ++ uvar t ++ uvar p ++ uvar 1 ++ [107] ++ uvar (zigN (1 + (t : Int)))).toArray⟩, .slice none 0 0])] ++ [.blk 15 b3 [.v (.map (some b5))] 81, .blk 12 b6 [.fn 58 [.loc bn 8 0]] 31, .blk 11 b7 [.v (.int .i64 me)] 3, .blk 10 b8 [.loc d 3 0] 25, .blk 9 bi [.v (.int .i64 (s : Nat)), .v (.int .i64 (t : Nat)), .v (.int .i64 (p : Nat)), .v (.int .i64 0), .v (.bool false), .v (.int .i64 (g : Nat))] 47, .blk 8 bn [.v (.int .u8 9)] 5]) (fun w S h => BxA.openI 20 16 (X := [_, _, _, _, _]) (Y := [.blk 15 b3 [.v (.map (some b5))] 81, .blk 12 b6 [.fn 58 [.loc bn 8 0]] 31, .blk 11 b7 [.v (.int .i64 me)] 3, .blk 10 b8 [.loc d 3 0] 25, .blk 9 bi [.v (.int .i64 (s : Nat)), .v (.int .i64 (t : Nat)), .v (.int .i64 (p : Nat)), .v (.int .i64 0), .v (.bool false), .v (.int .i64 (g : Nat))] 47, .blk 8 bn [.v (.int .u8 9)] 5]) h) ?_
    rintro ⟨a, cap⟩
    dsimp only [List.cons_append, List.nil_append]
    repeat' (first
 | with_reducible (first | refine r_seq (fun KS hS => ?_) | (refine hS _ _ ?_; clear hS KS) | (refine hA _ ?_; clear hA KA) | (refine hB _ ?_; clear hB KB) | refine r_block ?_)
 | ((with_reducible (first | refine r_region ?_ | refine r_cond (fun KA hA KB hB => ?_) | refine r_ret ?_ | refine r_skip ?_ | refine r_exit ?_ | refine And.intro rfl ?_ | intro b)); conv => whnf)
 | ((with_reducible refine WrapK.i64 ?_ ?_); (focus omega); conv => whnf)
 | ((with_reducible apply OpK.more); (focus refine sok); (conv => whnf); fail_if_success guard_target =ₛ False)
 | ((with_reducible (first | refine InAt.mk (fun K' hK => ?_) | refine AnyAt.mk (fun K' hK => ?_) | (refine hK _ ?_; clear hK K') | (refine hK _ _ ?_; clear hK K'))); conv => whnf)
 | ((refine And.intro ?_ ?_); all_goals (conv => whnf))
 | (apply r_quiet; refine mixed; kernel_rfl; kernel_rfl; kernel_rfl; conv => whnf)
 | ((first | refine if_t (by decide) ?_ | refine if_f (by decide) ?_ | refine if_decT (by omega) ?_ | refine if_decF (by omega) ?_ | refine if_ndecT (by omega) ?_ | refine if_ndecF (by omega) ?_); conv => whnf)
 | ((first | refine if_dec (fun h => ?_) (fun h => ?_) | refine if_ndec (fun h => ?_) (fun h => ?_) | refine if_cond (fun h => ?_) (fun h => ?_)); all_goals (conv => whnf))
 | with_reducible apply_assumption -symm -exfalso)
    exact FinK.frZL (a, cap) rfl (by (try dsimp only [List.cons_append, List.nil_append, den, denL]); refine SelI.spec ?_; (repeat (first | refine SelI.blk (by repeat (first | with_reducible apply Rm.head | apply Rm.tail)) ?_ | refine SelI.ext (by repeat (first | with_reducible apply Rm.head | apply Rm.tail)) ?_ | (refine SelI.blk' (by repeat (first | with_reducible apply Rm.head | apply Rm.tail)) ?_ ?_; focus rfl) | (refine SelI.ext' (by repeat (first | with_reducible apply Rm.head | apply Rm.tail)) ?_ ?_; focus rfl))); exact SelI.nil)
end Go.Proofs.YthmjkaljkgjicaaGreatDoor

namespace Go.Proofs.YthmjkaljkgjicaaGreatDoor
open Go Go.X
set_option maxRecDepth 100000
set_option maxHeartbeats 0
theorem waiting25 {num n gs tk : Int} {v : Value} {d mp clk bo : Nat} (hb : bo < clk) (w : World) :
    FrZ Tryz.prog 9 #[pv d] w (AssL [.ext 4 (MpA mp [⟨.int .i64 num, v, bo⟩] clk), .blk 3 d (DC n gs tk mp) 80]) (fun z : Option Addr × Nat => .slice z.1 1 z.2) (fun z => AssL [.ext 60 (SlA 3 1 z.1 1 z.2 [.int .i64 num]), .ext 4 (MpA mp [⟨.int .i64 num, v, bo⟩] clk), .blk 3 d (DC n gs tk mp) 80]) := by
  refine enter_frZ TBok (H := [.ext 4 (MpA mp [⟨.int .i64 num, v, bo⟩] clk), .blk 3 d (DC n gs tk mp) 80]) all_foot Tryz.func9 rfl rfl Tryz.ntmps9 [.loc d 3 0] rfl rfl ?_
  intro S _ _
  unfold DC
  conv => whnf
  repeat' (first
 | with_reducible (first | refine r_seq (fun KS hS => ?_) | (refine hS _ _ ?_; clear hS KS) | (refine hA _ ?_; clear hA KA) | (refine hB _ ?_; clear hB KB) | refine r_block ?_)
 | ((with_reducible (first | refine r_region ?_ | refine r_cond (fun KA hA KB hB => ?_) | refine r_ret ?_ | refine r_skip ?_ | refine r_exit ?_ | refine And.intro rfl ?_ | intro b)); conv => whnf)
 | ((with_reducible refine WrapK.i64 ?_ ?_); (focus omega); conv => whnf)
 | (apply in64; rfl; rfl; rfl; intro A; conv => whnf)
 | ((with_reducible refine CallK.at 27 ?_); refine CallK.puW (fun ms w hk => made45 (hk.got (by repeat (first | constructor | apply List.Mem.tail)))) ?_; conv => whnf)
 | ((with_reducible refine CallK.at 35 ?_); refine sortedCall106 hb (Sel.cons (by repeat (first | with_reducible apply Rm.head | apply Rm.tail)) (Sel.cons (by repeat (first | with_reducible apply Rm.head | apply Rm.tail)) Sel.nil)) (fun z => ?_); conv => whnf)
 | ((with_reducible apply OpK.more); (focus refine sok); (conv => whnf); fail_if_success guard_target =ₛ False)
 | with_reducible (first | refine Rounds.step (fun KL hL => ?_) | (refine hL _ _ ?_; clear hL KL) | refine r_rounds 100 ?_)
 | ((with_reducible (first | refine InAt.mk (fun K' hK => ?_) | refine AnyAt.mk (fun K' hK => ?_) | (refine hK _ ?_; clear hK K') | (refine hK _ _ ?_; clear hK K'))); conv => whnf)
 | ((refine And.intro ?_ ?_); all_goals (conv => whnf))
 | (apply r_quiet; refine mixed; kernel_rfl; kernel_rfl; kernel_rfl; conv => whnf)
 | ((first | refine if_t (by decide) ?_ | refine if_f (by decide) ?_ | refine if_decT (by omega) ?_ | refine if_decF (by omega) ?_ | refine if_ndecT (by omega) ?_ | refine if_ndecF (by omega) ?_); conv => whnf)
 | ((first | refine if_dec (fun h => ?_) (fun h => ?_) | refine if_ndec (fun h => ?_) (fun h => ?_) | refine if_cond (fun h => ?_) (fun h => ?_)); all_goals (conv => whnf))
 | with_reducible apply_assumption -symm -exfalso)
  exact FinK.frZL z rfl (by (try dsimp only [List.cons_append, List.nil_append, den, denL]); refine SelI.spec ?_; (repeat (first | refine SelI.blk (by repeat (first | with_reducible apply Rm.head | apply Rm.tail)) ?_ | refine SelI.ext (by repeat (first | with_reducible apply Rm.head | apply Rm.tail)) ?_ | (refine SelI.blk' (by repeat (first | with_reducible apply Rm.head | apply Rm.tail)) ?_ ?_; focus rfl) | (refine SelI.ext' (by repeat (first | with_reducible apply Rm.head | apply Rm.tail)) ?_ ?_; focus rfl))); exact SelI.nil)
theorem new11 {n gs : Int} (hn : 1 ≤ n ∧ n ≤ 7) (hg : 2 ≤ gs ∧ gs ≤ 8) (w : World) :
    FrZ Tryz.prog 6 #[.int .i64 n, .int .i64 gs] w emp (fun z : Nat × Nat => .tuple #[pv z.1, .int .i64 0]) (fun z => AssL [.blk 3 z.1 (DC n gs 0 z.2) 80, .ext 4 (MpA z.2 [] 0)]) := by
  refine enter_frZ TBok (H := []) emp_foot Tryz.func6 rfl rfl Tryz.ntmps6 [.v (.int .i64 n), .v (.int .i64 gs)] rfl rfl ?_
  intro S _ _
  conv => whnf
  repeat' (first
 | with_reducible (first | refine r_seq (fun KS hS => ?_) | (refine hS _ _ ?_; clear hS KS) | (refine hA _ ?_; clear hA KA) | (refine hB _ ?_; clear hB KB) | refine r_block ?_)
 | ((with_reducible (first | refine r_region ?_ | refine r_cond (fun KA hA KB hB => ?_) | refine r_ret ?_ | refine r_skip ?_ | refine r_exit ?_ | refine And.intro rfl ?_ | intro b)); conv => whnf)
 | ((with_reducible refine WrapK.i64 ?_ ?_); (focus omega); conv => whnf)
 | ((with_reducible refine OpK.id ?_); refine OpK.mkM rfl ?_; conv => whnf)
 | (intro m; conv => whnf)
 | ((with_reducible apply OpK.more); (focus refine sok); (conv => whnf); fail_if_success guard_target =ₛ False)
 | with_reducible (first | refine Rounds.step (fun KL hL => ?_) | (refine hL _ _ ?_; clear hL KL) | refine r_rounds 100 ?_)
 | ((with_reducible (first | refine InAt.mk (fun K' hK => ?_) | refine AnyAt.mk (fun K' hK => ?_) | (refine hK _ ?_; clear hK K') | (refine hK _ _ ?_; clear hK K'))); conv => whnf)
 | ((refine And.intro ?_ ?_); all_goals (conv => whnf))
 | (apply r_quiet; refine mixed; kernel_rfl; kernel_rfl; kernel_rfl; conv => whnf)
 | ((first | refine if_t (by decide) ?_ | refine if_f (by decide) ?_ | refine if_decT (by omega) ?_ | refine if_decF (by omega) ?_ | refine if_ndecT (by omega) ?_ | refine if_ndecF (by omega) ?_); conv => whnf)
 | ((first | refine if_dec (fun h => ?_) (fun h => ?_) | refine if_ndec (fun h => ?_) (fun h => ?_) | refine if_cond (fun h => ?_) (fun h => ?_)); all_goals (conv => whnf))
 | with_reducible apply_assumption -symm -exfalso)
  rename_i m
  exact FinK.frZL (b, m) rfl (by (try dsimp only [List.cons_append, List.nil_append, den, denL]); refine SelI.spec ?_; (repeat (first | refine SelI.blk (by repeat (first | with_reducible apply Rm.head | apply Rm.tail)) ?_ | refine SelI.ext (by repeat (first | with_reducible apply Rm.head | apply Rm.tail)) ?_ | (refine SelI.blk' (by repeat (first | with_reducible apply Rm.head | apply Rm.tail)) ?_ ?_; focus rfl) | (refine SelI.ext' (by repeat (first | with_reducible apply Rm.head | apply Rm.tail)) ?_ ?_; focus rfl))); exact SelI.nil)
theorem equal39 {x : Int} {a b : Option Addr} {n1 n2 : Nat} {w : World} (ha : RdS w 3 1 a 1 n1 [.int .i64 x]) (hb : RdS w 3 1 b 1 n2 [.int .i64 x]) : Pu Tryz.prog 13 #[.slice a 1 n1, .slice b 1 n2] w (.bool true) := by
  have sa := fun n' r H => Sees.old (c := ⟨Tryz.prog, TB, n', w, noS, r, TBok⟩) (H := H) ha.old
  have sb := fun n' r H => Sees.old (c := ⟨Tryz.prog, TB, n', w, noS, r, TBok⟩) (H := H) hb.old
  refine enter_sound TBok Tryz.func13 rfl rfl Tryz.ntmps13 [.v (.slice a 1 n1), .v (.slice b 1 n2)] (Kn.start w noS) rfl rfl ?_
  conv => whnf
  repeat' (first
 | with_reducible (first | refine r_seq (fun KS hS => ?_) | (refine hS _ _ ?_; clear hS KS) | (refine hA _ ?_; clear hA KA) | (refine hB _ ?_; clear hB KB) | refine r_block ?_)
 | ((with_reducible (first | refine r_region ?_ | refine r_cond (fun KA hA KB hB => ?_) | refine r_ret ?_ | refine r_skip ?_ | refine r_exit ?_ | refine And.intro rfl ?_ | intro b)); conv => whnf)
 | ((with_reducible refine WrapK.i64 ?_ ?_); (focus omega); conv => whnf)
 | ((with_reducible refine QK.id ?_); (first | refine QK.idx (k := 1) rfl rfl rfl rfl rfl rfl rfl (sa _ _ _) (by omega) (by omega) (i1 _) (fun b off hp => ?_) | refine QK.idx (k := 1) rfl rfl rfl rfl rfl rfl rfl (sb _ _ _) (by omega) (by omega) (i1 _) (fun b off hp => ?_) | refine QK.ldp rfl rfl hp (List.cons_ne_nil _ _) ?_); conv => whnf)
 | ((with_reducible apply OpK.more); (focus refine sok); (conv => whnf); fail_if_success guard_target =ₛ False)
 | with_reducible (first | refine Rounds.step (fun KL hL => ?_) | (refine hL _ _ ?_; clear hL KL) | refine r_rounds 100 ?_)
 | ((with_reducible (first | refine InAt.mk (fun K' hK => ?_) | refine AnyAt.mk (fun K' hK => ?_) | (refine hK _ ?_; clear hK K') | (refine hK _ _ ?_; clear hK K'))); conv => whnf)
 | ((refine And.intro ?_ ?_); all_goals (conv => whnf))
 | (apply r_quiet; refine mixed; kernel_rfl; kernel_rfl; kernel_rfl; conv => whnf)
 | ((first | refine if_t (by decide) ?_ | refine if_f (by decide) ?_ | refine if_decT (by omega) ?_ | refine if_decF (by omega) ?_ | refine if_ndecT (by omega) ?_ | refine if_ndecF (by omega) ?_); conv => whnf)
 | ((first | refine if_dec (fun h => ?_) (fun h => ?_) | refine if_ndec (fun h => ?_) (fun h => ?_) | refine if_cond (fun h => ?_) (fun h => ?_)); all_goals (conv => whnf))
 | with_reducible apply_assumption -symm -exfalso)
  exact FinK.pu rfl
theorem KAt.off {w : World} (h : KAt w) {b : Nat} {l : List SV} {t : Nat} (hb : w.heap[b]? = some (.cells (denL l).toArray t (0, 0))) (hl : l.length ≤ 50) : ¬ (0 : Nat) = b := by
  rintro rfl
  obtain ⟨_, C, t, f, h1, h2, _⟩ := h
  rw [h1] at hb
  simp only [Option.some.injEq, Obj.cells.injEq] at hb
  have := h2 0 _ rfl
  rw [hb.1] at this
  have h3 := (Array.getElem?_eq_some_iff.1 this).1
  simp only [List.size_toArray, denL_length] at h3
  omega
theorem KAt.offL {w : World} (h : KAt w) : ∀ {L : List Blk} {S : Nat → Prop}, Rdd w L S → (∀ i b cs t, Blk.blk i b cs t ∈ L → cs.length ≤ 50) → ¬ S 0
  | [], _, hr, _ => hr 0
  | .blk i b cs t :: L, _, ⟨h1, T, h2, h3, h4⟩, hl => fun hs => by
    rcases (h4 0).1 hs with e | e
    · exact h.off h1 (hl i b cs t (by simp)) e
    · exact h.offL h2 (fun i b cs t hm => hl i b cs t (List.mem_cons_of_mem _ hm)) e
  | .ext _ _ :: _, _, hr, _ => hr.elim
theorem answerToEff18 {s t p g : Nat} {k : ByteArray} {dl : Int} (h : EffOk s t p) (hg : 1 ≤ g ∧ g ≤ 7) (hk : nameOk k = true) (hks : k.size ≤ 16) (hdl : dl ≠ 0) (hn : NumOk dl) {w : World} {d f to num e : Nat} {n gs tk rn : Int} {mp : Nat} {v rx : ByteArray} (hd : DAt w d n gs tk mp) (hka : KAt w) (hn7 : 1 ≤ n ∧ n ≤ 7) (hgs : g < gs) (hf : f < n) (hto : (to : Int) / n = g) (hto2 : to ≤ 55) (hft : f < to ∨ to < f) (hnum : (num : Int) = ((((s : Int) - 1) * 8 + t) * 3 + p - 1) * 7 + g) (hv : v.data.toList = uvar 1 ++ (uvar s ++ (uvar t ++ (uvar p ++ (uvar k.size ++ k.data.toList ++ (uvar (zigN dl) ++ [])))))) (hvs : v.size ≤ 65536) (he : 0 ≤ (e : Int) ∧ (e : Int) ≤ 18) (hrn : NumOk rn) (hrx : rx.size ≤ 65536) (hrl : (uvar e ++ uvar (zigN rn) ++ uvar rx.size ++ rx.data.toList).length ≤ 65536) : Pu Tryz.prog 11 #[pv d, .agg #[.int .i64 10, .int .i64 (f : Nat), .int .i64 (to : Nat), .int .i64 0, .int .i64 0, .int .i64 0, .int .i64 (num : Nat), .string v, .slice none 0 0], .agg #[.int .i64 (e : Nat), .int .i64 rn, .string rx]] w (.tuple #[.agg #[.int .i64 11, .int .i64 (to : Nat), .int .i64 (f : Nat), .int .i64 0, .int .i64 0, .int .i64 0, .int .i64 (num : Nat), .string ⟨(uvar e ++ uvar (zigN rn) ++ uvar rx.size ++ rx.data.toList).toArray⟩, .slice none 0 0], .int .i64 0]) := by
  have h0 := h
  unfold EffOk at h0
  have hne := hka.ne hd
  refine Pu.ofFrZ (enter_ro TBok (cs := DC n gs tk mp) hd Tryz.func11 rfl rfl Tryz.ntmps11 [.loc d 10 0, .agg [.v (.int .i64 10), .v (.int .i64 (f : Nat)), .v (.int .i64 (to : Nat)), .v (.int .i64 0), .v (.int .i64 0), .v (.int .i64 0), .v (.int .i64 (num : Nat)), .v (.string v), .v (.slice none 0 0)], .agg [.v (.int .i64 (e : Nat)), .v (.int .i64 rn), .v (.string rx)]] rfl rfl ?_)
  unfold DC
  conv => whnf
  repeat' (first
 | with_reducible (first | refine r_seq (fun KS hS => ?_) | (refine hS _ _ ?_; clear hS KS) | (refine hA _ ?_; clear hA KA) | (refine hB _ ?_; clear hB KB) | refine r_block ?_)
 | ((with_reducible (first | refine r_region ?_ | refine r_cond (fun KA hA KB hB => ?_) | refine r_ret ?_ | refine r_skip ?_ | refine r_exit ?_ | refine And.intro rfl ?_ | intro b)); conv => whnf)
 | ((with_reducible refine WrapK.i64 ?_ ?_); (focus omega); conv => whnf)
 | ((with_reducible refine CallK.at 27 ?_); refine CallK.puW (fun ms w hk => made45 (hk.got (by repeat (first | constructor | apply List.Mem.tail)))) ?_; conv => whnf)
 | ((with_reducible refine CallK.at 37 ?_); refine CallK.puW (fun ms w hkn => questionEff41 h hg hk hks hdl hn (hkn.got (by repeat (first | constructor | apply List.Mem.tail))) (hka.now hne hkn) hn7 hgs hf hto hto2 hft hnum hv hvs) ?_; conv => whnf)
 | ((with_reducible refine CallK.id ?_); refine CallK.fresh (fun ms w hk => reply46 he hrn hrx hrl w) ?_; conv => whnf)
 | (intro z; conv => whnf)
 | ((with_reducible refine OpK.id ?_); refine OpK.cvBS' rfl rfl rfl rfl rfl rfl rfl rfl (Sees.ext (by repeat (first | with_reducible apply At.head | apply At.tail))) rfl ?_; conv => whnf)
 | ((with_reducible apply OpK.more); (focus refine sok); (conv => whnf); fail_if_success guard_target =ₛ False)
 | ((with_reducible (first | refine InAt.mk (fun K' hK => ?_) | refine AnyAt.mk (fun K' hK => ?_) | (refine hK _ ?_; clear hK K') | (refine hK _ _ ?_; clear hK K'))); conv => whnf)
 | ((refine And.intro ?_ ?_); all_goals (conv => whnf))
 | (apply r_quiet; refine mixed; kernel_rfl; kernel_rfl; kernel_rfl; conv => whnf)
 | ((first | refine if_t (by decide) ?_ | refine if_f (by decide) ?_ | refine if_decT (by omega) ?_ | refine if_decF (by omega) ?_ | refine if_ndecT (by omega) ?_ | refine if_ndecF (by omega) ?_); conv => whnf)
 | ((first | refine if_dec (fun h => ?_) (fun h => ?_) | refine if_ndec (fun h => ?_) (fun h => ?_) | refine if_cond (fun h => ?_) (fun h => ?_)); all_goals (conv => whnf))
 | with_reducible apply_assumption -symm -exfalso)
  all_goals exact FinK.ro0 rfl (HSub.pick (by repeat (first | with_reducible apply At.head | apply At.tail)))
theorem serveEff14 {s t p g : Nat} {k : ByteArray} {dl : Int} (h : EffOk s t p) (hg : 1 ≤ g ∧ g ≤ 7) (hk : nameOk k = true) (hks : k.size ≤ 16) (hdl : dl ≠ 0) (hn : NumOk dl) {w : World} {d f to num : Nat} {n gs tk : Int} {mp : Nat} {v : ByteArray} (hd : DAt w d n gs tk mp) (hka : KAt w) (hn7 : 1 ≤ n ∧ n ≤ 7) (hgs : g < gs) (hf : f < n) (hto : (to : Int) / n = g) (hto2 : to ≤ 55) (hft : f < to ∨ to < f) (hnum : (num : Int) = ((((s : Int) - 1) * 8 + t) * 3 + p - 1) * 7 + g) (hv : v.data.toList = uvar 1 ++ (uvar s ++ (uvar t ++ (uvar p ++ (uvar k.size ++ k.data.toList ++ (uvar (zigN dl) ++ [])))))) (hvs : v.size ≤ 65536) : Pu Tryz.prog 10 #[pv d, .agg #[.int .i64 10, .int .i64 (f : Nat), .int .i64 (to : Nat), .int .i64 0, .int .i64 0, .int .i64 0, .int .i64 (num : Nat), .string v, .slice none 0 0], .nilFunc] w (.tuple #[.agg #[.int .i64 1, .int .i64 0, .int .i64 0, .int .i64 (s : Nat), .int .i64 (t : Nat), .int .i64 (p : Nat), .string k, .int .i64 dl, .int .i64 0, .string ⟨#[]⟩, .string ⟨#[]⟩, .int .i64 0, .string ⟨#[]⟩, .int .i64 0, .int .i64 0, .slice none 0 0, .int .i64 0, .int .i64 0, .int .i64 0, .int .i64 0, .bool false, .int .i64 0, .int .i64 0, .string ⟨#[]⟩], .agg #[.int .i64 0, .int .i64 0, .int .i64 0, .int .i64 0, .int .i64 0, .int .i64 0, .int .i64 0, .string ⟨#[]⟩, .slice none 0 0], .bool true, .bool false]) := by
  have h0 := h
  unfold EffOk at h0
  have hne := hka.ne hd
  refine Pu.ofFrZ (enter_ro TBok (cs := DC n gs tk mp) hd Tryz.func10 rfl rfl Tryz.ntmps10 [.loc d 10 0, .agg [.v (.int .i64 10), .v (.int .i64 (f : Nat)), .v (.int .i64 (to : Nat)), .v (.int .i64 0), .v (.int .i64 0), .v (.int .i64 0), .v (.int .i64 (num : Nat)), .v (.string v), .v (.slice none 0 0)], .v .nilFunc] rfl rfl ?_)
  unfold DC
  conv => whnf
  repeat' (first
 | with_reducible (first | refine r_seq (fun KS hS => ?_) | (refine hS _ _ ?_; clear hS KS) | (refine hA _ ?_; clear hA KA) | (refine hB _ ?_; clear hB KB) | refine r_block ?_)
 | ((with_reducible (first | refine r_region ?_ | refine r_cond (fun KA hA KB hB => ?_) | refine r_ret ?_ | refine r_skip ?_ | refine r_exit ?_ | refine And.intro rfl ?_ | intro b)); conv => whnf)
 | ((with_reducible refine WrapK.i64 ?_ ?_); (focus omega); conv => whnf)
 | ((with_reducible refine CallK.at 37 ?_); refine CallK.puW (fun ms w hkn => questionEff41 h hg hk hks hdl hn (hkn.got (by repeat (first | constructor | apply List.Mem.tail))) (hka.now hne hkn) hn7 hgs hf hto hto2 hft hnum hv hvs) ?_; conv => whnf)
 | ((with_reducible refine QK.id ?_); (refine QK.eqV sok rfl rfl rfl ?_); conv => whnf)
 | ((with_reducible refine IK.id ?_); (refine IK.eqV sok rfl rfl rfl ?_); conv => whnf)
 | ((with_reducible apply OpK.more); (focus refine sok); (conv => whnf); fail_if_success guard_target =ₛ False)
 | ((with_reducible (first | refine InAt.mk (fun K' hK => ?_) | refine AnyAt.mk (fun K' hK => ?_) | (refine hK _ ?_; clear hK K') | (refine hK _ _ ?_; clear hK K'))); conv => whnf)
 | ((refine And.intro ?_ ?_); all_goals (conv => whnf))
 | (apply r_quiet; refine mixed; kernel_rfl; kernel_rfl; kernel_rfl; conv => whnf)
 | ((first | refine if_t (by decide) ?_ | refine if_f (by decide) ?_ | refine if_decT (by omega) ?_ | refine if_decF (by omega) ?_ | refine if_ndecT (by omega) ?_ | refine if_ndecF (by omega) ?_); conv => whnf)
 | ((first | refine if_dec (fun h => ?_) (fun h => ?_) | refine if_ndec (fun h => ?_) (fun h => ?_) | refine if_cond (fun h => ?_) (fun h => ?_)); all_goals (conv => whnf))
 | with_reducible apply_assumption -symm -exfalso)
  all_goals exact FinK.ro0 rfl (HSub.pick (by repeat (first | with_reducible apply At.head | apply At.tail)))
theorem serveDoneEff14 {s t p g : Nat} {k : ByteArray} {dl : Int} (h : EffOk s t p) (hg : 1 ≤ g ∧ g ≤ 7) (hk : nameOk k = true) (hks : k.size ≤ 16) (hdl : dl ≠ 0) (hn : NumOk dl) {w : World} {d f to num e F : Nat} {n gs tk rn : Int} {mp : Nat} {v rx : ByteArray} (hd : DAt w d n gs tk mp) (hka : KAt w) (hn7 : 1 ≤ n ∧ n ≤ 7) (hgs : g < gs) (hf : f < n) (hto : (to : Int) / n = g) (hto2 : to ≤ 55) (hft : f < to ∨ to < f) (hnum : (num : Int) = ((((s : Int) - 1) * 8 + t) * 3 + p - 1) * 7 + g) (hv : v.data.toList = uvar 1 ++ (uvar s ++ (uvar t ++ (uvar p ++ (uvar k.size ++ k.data.toList ++ (uvar (zigN dl) ++ [])))))) (hvs : v.size ≤ 65536) (hF : ∀ w, Pu Tryz.prog F #[.agg #[.int .i64 (s : Nat), .int .i64 (t : Nat), .int .i64 (p : Nat)]] w (.tuple #[.agg #[.int .i64 (e : Nat), .int .i64 rn, .string rx], .bool true])) (he : 0 ≤ (e : Int) ∧ (e : Int) ≤ 18) (hrn : NumOk rn) (hrx : rx.size ≤ 65536) (hrl : (uvar e ++ uvar (zigN rn) ++ uvar rx.size ++ rx.data.toList).length ≤ 65536) : Pu Tryz.prog 10 #[pv d, .agg #[.int .i64 10, .int .i64 (f : Nat), .int .i64 (to : Nat), .int .i64 0, .int .i64 0, .int .i64 0, .int .i64 (num : Nat), .string v, .slice none 0 0], .func (.func F) #[] #[]] w (.tuple #[.agg #[.int .i64 0, .int .i64 0, .int .i64 0, .int .i64 0, .int .i64 0, .int .i64 0, .string ⟨#[]⟩, .int .i64 0, .int .i64 0, .string ⟨#[]⟩, .string ⟨#[]⟩, .int .i64 0, .string ⟨#[]⟩, .int .i64 0, .int .i64 0, .slice none 0 0, .int .i64 0, .int .i64 0, .int .i64 0, .int .i64 0, .bool false, .int .i64 0, .int .i64 0, .string ⟨#[]⟩], .agg #[.int .i64 11, .int .i64 (to : Nat), .int .i64 (f : Nat), .int .i64 0, .int .i64 0, .int .i64 0, .int .i64 (num : Nat), .string ⟨(uvar e ++ uvar (zigN rn) ++ uvar rx.size ++ rx.data.toList).toArray⟩, .slice none 0 0], .bool false, .bool true]) := by
  have h0 := h
  unfold EffOk at h0
  have hne := hka.ne hd
  refine Pu.ofFrZ (enter_ro TBok (cs := DC n gs tk mp) hd Tryz.func10 rfl rfl Tryz.ntmps10 [.loc d 10 0, .agg [.v (.int .i64 10), .v (.int .i64 (f : Nat)), .v (.int .i64 (to : Nat)), .v (.int .i64 0), .v (.int .i64 0), .v (.int .i64 0), .v (.int .i64 (num : Nat)), .v (.string v), .v (.slice none 0 0)], .fn F []] rfl rfl ?_)
  unfold DC
  conv => whnf
  repeat' (first
 | with_reducible (first | refine r_seq (fun KS hS => ?_) | (refine hS _ _ ?_; clear hS KS) | (refine hA _ ?_; clear hA KA) | (refine hB _ ?_; clear hB KB) | refine r_block ?_)
 | ((with_reducible (first | refine r_region ?_ | refine r_cond (fun KA hA KB hB => ?_) | refine r_ret ?_ | refine r_skip ?_ | refine r_exit ?_ | refine And.intro rfl ?_ | intro b)); conv => whnf)
 | ((with_reducible refine WrapK.i64 ?_ ?_); (focus omega); conv => whnf)
 | (apply r_any (id := 9); refine mixed; kernel_rfl; kernel_rfl; conv => whnf)
 | ((with_reducible refine CallK.at 37 ?_); refine CallK.puW (fun ms w hkn => questionEff41 h hg hk hks hdl hn (hkn.got (by repeat (first | constructor | apply List.Mem.tail))) (hka.now hne hkn) hn7 hgs hf hto hto2 hft hnum hv hvs) ?_; conv => whnf)
 | ((with_reducible refine CallK.at 11 ?_); refine CallK.puW (fun ms w hkn => answerToEff18 h hg hk hks hdl hn (hkn.got (by repeat (first | constructor | apply List.Mem.tail))) (hka.now hne hkn) hn7 hgs hf hto hto2 hft hnum hv hvs he hrn hrx hrl) ?_; conv => whnf)
 | ((with_reducible refine CallK.id ?_); refine CallK.pu (fun w => (hF w)) ?_; conv => whnf)
 | ((with_reducible refine QK.id ?_); (refine QK.bld rfl ?_); conv => whnf)
 | ((with_reducible refine IK.id ?_); (refine IK.bld rfl ?_); conv => whnf)
 | ((with_reducible refine QK.id ?_); (refine QK.eqV sok rfl rfl rfl ?_); conv => whnf)
 | ((with_reducible refine IK.id ?_); (refine IK.eqV sok rfl rfl rfl ?_); conv => whnf)
 | ((with_reducible apply OpK.more); (focus refine sok); (conv => whnf); fail_if_success guard_target =ₛ False)
 | ((with_reducible (first | refine InAt.mk (fun K' hK => ?_) | refine AnyAt.mk (fun K' hK => ?_) | (refine hK _ ?_; clear hK K') | (refine hK _ _ ?_; clear hK K'))); conv => whnf)
 | ((refine And.intro ?_ ?_); all_goals (conv => whnf))
 | (apply r_quiet; refine mixed; kernel_rfl; kernel_rfl; kernel_rfl; conv => whnf)
 | ((first | refine if_t (by decide) ?_ | refine if_f (by decide) ?_ | refine if_decT (by omega) ?_ | refine if_decF (by omega) ?_ | refine if_ndecT (by omega) ?_ | refine if_ndecF (by omega) ?_); conv => whnf)
 | ((first | refine if_dec (fun h => ?_) (fun h => ?_) | refine if_ndec (fun h => ?_) (fun h => ?_) | refine if_cond (fun h => ?_) (fun h => ?_)); all_goals (conv => whnf))
 | with_reducible apply_assumption -symm -exfalso)
  all_goals exact FinK.ro0 rfl (HSub.pick (by repeat (first | with_reducible apply At.head | apply At.tail)))
theorem answerEff31 {s t p g : Nat} {k : ByteArray} {dl : Int} (h : EffOk s t p) (hg : 1 ≤ g ∧ g ≤ 7) (hk : nameOk k = true) (hks : k.size ≤ 16) (hdl : dl ≠ 0) (hn : NumOk dl) {w : World} {d bi f to num e : Nat} {n gs tk rn : Int} {mp : Nat} {rx : ByteArray} {S0 : Nat → Prop} (hd : Rdd w [.blk 9 bi [.v (.int .i64 (s : Nat)), .v (.int .i64 (t : Nat)), .v (.int .i64 (p : Nat)), .v (.int .i64 0), .v (.bool false), .v (.int .i64 (g : Nat))] 47, .blk 3 d (DC n gs tk mp) 80] S0) (hka : KAt w) (hn7 : 1 ≤ n ∧ n ≤ 7) (hgs : g < gs) (hf : f < n) (hto : (to : Int) / n = g) (hto2 : to ≤ 55) (hft : f < to ∨ to < f) (hnum : (num : Int) = ((((s : Int) - 1) * 8 + t) * 3 + p - 1) * 7 + g) (he : 0 ≤ (e : Int) ∧ (e : Int) ≤ 18) (hrn : NumOk rn) (hrx : rx.size ≤ 65536) (hrl : (uvar e ++ uvar (zigN rn) ++ uvar rx.size ++ rx.data.toList).length ≤ 65536) : Pu Tryz.prog 12 #[pv d, .agg #[.int .i64 11, .int .i64 (to : Nat), .int .i64 (f : Nat), .int .i64 0, .int .i64 0, .int .i64 0, .int .i64 (num : Nat), .string ⟨(uvar e ++ uvar (zigN rn) ++ uvar rx.size ++ rx.data.toList).toArray⟩, .slice none 0 0], .slice (some ⟨bi, 0, none⟩) 1 1] w (.tuple #[.agg #[.int .i64 15, .int .i64 0, .int .i64 0, .int .i64 0, .int .i64 0, .int .i64 0, .string ⟨#[]⟩, .int .i64 0, .int .i64 0, .string ⟨#[]⟩, .string ⟨#[]⟩, .int .i64 0, .string ⟨#[]⟩, .int .i64 0, .int .i64 0, .slice none 0 0, .int .i64 (s : Nat), .int .i64 (t : Nat), .int .i64 (p : Nat), .int .i64 0, .bool false, .int .i64 (g : Nat), .int .i64 (e : Nat), .string ⟨#[]⟩], .bool true]) := by
  have h0 := h
  unfold EffOk at h0
  have hne := hka.offL hd (by simp [DC]; rintro i b cs t (⟨-, -, rfl, -⟩ | ⟨-, -, rfl, -⟩) <;> simp)
  have hok : ItemOk s t p 0 false g := okEff h hg hk hks hdl hn
  have hq : IntKind.i64.wrap ((to : Int).tdiv n) = (g : Int) := by rw [IntWalk.i64_quo _ _ (by omega), hto]
  have hnum' : itemNum s t p 0 false g = (num : Int) := by rw [hnum]; unfold itemNum; rw [if_pos rfl]
  have hv' : (ByteArray.mk (uvar e ++ uvar (zigN rn) ++ uvar rx.size ++ rx.data.toList).toArray).data.toList = uvar e ++ (uvar (zigN rn) ++ (uvar rx.size ++ rx.data.toList ++ [])) := by simp
  refine Pu.ofFrZ (enter_roL TBok hd Tryz.func12 rfl rfl Tryz.ntmps12 [.loc d 3 0, .agg [.v (.int .i64 11), .v (.int .i64 (to : Nat)), .v (.int .i64 (f : Nat)), .v (.int .i64 0), .v (.int .i64 0), .v (.int .i64 0), .v (.int .i64 (num : Nat)), .v (.string ⟨(uvar e ++ uvar (zigN rn) ++ uvar rx.size ++ rx.data.toList).toArray⟩), .v (.slice none 0 0)], .slc bi 9 0 1 1] rfl rfl ?_)
  unfold DC
  conv => whnf
  repeat' (first
 | with_reducible (first | refine r_seq (fun KS hS => ?_) | (refine hS _ _ ?_; clear hS KS) | (refine hA _ ?_; clear hA KA) | (refine hB _ ?_; clear hB KB) | refine r_block ?_)
 | ((with_reducible (first | refine r_region ?_ | refine r_cond (fun KA hA KB hB => ?_) | refine r_ret ?_ | refine r_skip ?_ | refine r_exit ?_ | refine And.intro rfl ?_ | intro b)); conv => whnf)
 | ((with_reducible refine WrapK.i64 ?_ ?_); (focus omega); conv => whnf)
 | ((with_reducible refine CallK.id ?_); (first | apply in68 | apply in69); rfl; rfl; rfl; intro A; conv => whnf)
 | ((with_reducible refine CallK.at 39 ?_); refine CallK.puW (fun ms w hkn => check_ans28 (hka.now hne hkn) (by omega) (by omega) (by omega) (by omega) (by show List.length _ ≤ _; exact hrl)) ?_; conv => whnf)
 | ((with_reducible refine CallK.at 27 ?_); refine CallK.puW (fun ms w hkn => made45 (hkn.got (by repeat (first | constructor | apply List.Mem.tail)))) ?_; conv => whnf)
 | ((with_reducible refine CallQ.at 27 ?_); refine CallQ.puW (fun ms w hkn => made45 (hkn.got (by repeat (first | constructor | apply List.Mem.tail)))) ?_; conv => whnf)
 | ((with_reducible refine CallK.at 20 ?_); refine CallK.pu (fun w => numOk70 hok w) ?_; rw [hnum']; conv => whnf)
 | ((with_reducible refine QuoK.id ?_); refine QuoK.eq (by omega) hq ?_; conv => whnf)
 | ((with_reducible refine OpK.id ?_); refine OpK.cvSB rfl rfl rfl rfl rfl rfl rfl rfl ?_; rw [hv']; conv => whnf)
 | (intro a' cap'; conv => whnf)
 | ((with_reducible refine CallK.at 42 ?_); refine CallK.puW (fun ms w hkn => parse71 (Sees.rd (Sees.ext (by repeat (first | with_reducible apply At.head | apply At.tail))) hkn) he hrn hrx (by exact hrl)) ?_; conv => whnf)
 | ((with_reducible apply OpK.more); (focus refine sok); (conv => whnf); fail_if_success guard_target =ₛ False)
 | with_reducible (first | refine Rounds.step (fun KL hL => ?_) | (refine hL _ _ ?_; clear hL KL) | refine r_rounds 100 ?_)
 | ((with_reducible (first | refine InAt.mk (fun K' hK => ?_) | refine AnyAt.mk (fun K' hK => ?_) | (refine hK _ ?_; clear hK K') | (refine hK _ _ ?_; clear hK K'))); conv => whnf)
 | ((refine And.intro ?_ ?_); all_goals (conv => whnf))
 | (apply r_quiet; refine mixed; kernel_rfl; kernel_rfl; kernel_rfl; conv => whnf)
 | ((first | refine if_t (by decide) ?_ | refine if_f (by decide) ?_ | refine if_decT (by omega) ?_ | refine if_decF (by omega) ?_ | refine if_ndecT (by omega) ?_ | refine if_ndecF (by omega) ?_); conv => whnf)
 | ((first | refine if_dec (fun h => ?_) (fun h => ?_) | refine if_ndec (fun h => ?_) (fun h => ?_) | refine if_cond (fun h => ?_) (fun h => ?_)); all_goals (conv => whnf))
 | with_reducible apply_assumption -symm -exfalso)
  all_goals exact FinK.roL0 rfl (by (try dsimp only [List.cons_append, List.nil_append, den, denL]); refine SelI.spec ?_; (repeat (first | refine SelI.blk (by repeat (first | with_reducible apply Rm.head | apply Rm.tail)) ?_ | refine SelI.ext (by repeat (first | with_reducible apply Rm.head | apply Rm.tail)) ?_ | (refine SelI.blk' (by repeat (first | with_reducible apply Rm.head | apply Rm.tail)) ?_ ?_; focus rfl) | (refine SelI.ext' (by repeat (first | with_reducible apply Rm.head | apply Rm.tail)) ?_ ?_; focus rfl))); exact SelI.nil)
end Go.Proofs.YthmjkaljkgjicaaGreatDoor

namespace Go.Proofs.YthmjkaljkgjicaaGreatDoor
open Go Go.X
set_option maxRecDepth 100000
set_option maxHeartbeats 0
def qv : ByteArray := ⟨(uvar 1 ++ uvar 7 ++ uvar 0 ++ uvar 1 ++ uvar 1 ++ [107] ++ uvar (zigN (1 + ((0 : Nat) : Int)))).toArray⟩
theorem qvEq : qv = ⟨#[1, 7, 0, 1, 1, 107, 2]⟩ := by decide +kernel
def rv : ByteArray := ⟨(uvar 0 ++ uvar (zigN 8) ++ uvar (ByteArray.mk #[]).size ++ (ByteArray.mk #[]).data.toList).toArray⟩
theorem eff701 : EffOk 7 0 1 := by unfold EffOk; omega
theorem item701 : ItemOk 7 0 1 0 false 1 := ⟨by omega, by omega, .inl ⟨rfl, rfl, eff701⟩⟩
def qM (to : Int) : List Value := [.int .i64 10, .int .i64 1, .int .i64 to, .int .i64 0, .int .i64 0, .int .i64 0, .int .i64 1009, .string qv, .slice none 0 0]
def itW : List SV := [.v (.int .i64 7), .v (.int .i64 0), .v (.int .i64 1), .v (.int .i64 0), .v (.bool false), .v (.int .i64 1)]
section
variable {nn : Nat} {W : World} {S : Nat → Prop} {r : Option Nat} {H R : List Blk} {nx : K1}
theorem wTickFirst {d mp bi bn i1 i1' i2 i2' i3 i4 : Nat} {c1 c2 c3 : List SV} (hs : Sel H [.blk i1 bi c1 47, .blk i2 bn c2 5, .ext i4 (MpA mp [] 0), .blk i3 d c3 80] R) (e1 : denL c1 = denL itW) (e2 : denL c2 = denL [.v (.int .u8 9)]) (e3 : denL c3 = denL (DC 3 3 0 mp))
    (hn : ∀ z : Option Addr × Nat, nx (.v (.slice z.1 1 z.2)) (.ext 70 (SlA 38 9 z.1 1 z.2 (qM 3)) :: .blk i1 bi c1 47 :: .blk i2 bn c2 5 :: .ext i4 (MpA mp [⟨.int .i64 1009, .agg #[.int .i64 1, .int .i64 1], 0⟩] 1) :: .blk i3 d (DC 3 3 1 mp) 80 :: R)) : CallK ⟨Tryz.prog, TB, nn, W, S, r, TBok⟩ 7 [.v (pv d), .v (.int .i64 1), .slc bi i1' 0 1 1, .fn 58 [.loc bn i2' 0]] H nx :=
  CallK.frL (v := fun z : Option Addr × Nat => .slice z.1 1 z.2) (L0 := [.blk 9 bi itW 47, .blk 8 bn [.v (.int .u8 9)] 5, .ext 4 (MpA mp [] 0), .blk 3 d (DC 3 3 0 mp) 80]) hs (HSub.keep e1 (HSub.keep e2 (HSub.ext (fun _ _ h => h) (HSub.keep e3 HSub.nil)))) (fun _ w _ => tickFirstEff24 (s := 7) (t := 0) (p := 1) (g := 1) (num := 1009) (n := 3) (gs := 3) (tk := 0) (me := 1) (clk := 0) eff701 (by omega) (by omega) (by omega) (by omega) (by omega) (by unfold itemNum; rfl) w)
    (M' := fun z => [.ext 70 (SlA 38 9 z.1 1 z.2 (qM 3)), .blk i1 bi c1 47, .blk i2 bn c2 5, .ext i4 (MpA mp [⟨.int .i64 1009, .agg #[.int .i64 1, .int .i64 1], 0⟩] 1), .blk i3 d (DC 3 3 1 mp) 80]) (fun z => HSub.ext (fun _ _ h => h) (HSub.keep e1.symm (HSub.keep e2.symm (HSub.ext (fun _ _ h => h) (HSub.keep rfl HSub.nil))))) hn
theorem wTickNot {d mp bi bn i1 i1' i2 i2' i3 i4 : Nat} {tk : Int} (htk : 1 ≤ tk ∧ tk ≤ 3) {c1 c2 c3 : List SV} (hs : Sel H [.blk i1 bi c1 47, .blk i2 bn c2 5, .ext i4 (MpA mp [⟨.int .i64 1009, .agg #[.int .i64 1, .int .i64 1], 0⟩] 1), .blk i3 d c3 80] R) (e1 : denL c1 = denL itW) (e2 : denL c2 = denL [.v (.int .u8 9)]) (e3 : denL c3 = denL (DC 3 3 tk mp))
    (hn : ∀ z : Option Addr × Nat, nx (.v (.slice z.1 0 z.2)) (.ext 70 (SlA 38 9 z.1 0 z.2 []) :: .blk i1 bi c1 47 :: .blk i2 bn c2 5 :: .ext i4 (MpA mp [⟨.int .i64 1009, .agg #[.int .i64 1, .int .i64 1], 0⟩] 1) :: .blk i3 d (DC 3 3 (tk + 1) mp) 80 :: R)) : CallK ⟨Tryz.prog, TB, nn, W, S, r, TBok⟩ 7 [.v (pv d), .v (.int .i64 1), .slc bi i1' 0 1 1, .fn 58 [.loc bn i2' 0]] H nx :=
  CallK.frL (v := fun z : Option Addr × Nat => .slice z.1 0 z.2) (L0 := [.blk 9 bi itW 47, .blk 8 bn [.v (.int .u8 9)] 5, .ext 4 (MpA mp [⟨.int .i64 1009, .agg #[.int .i64 1, .int .i64 1], 0⟩] 1), .blk 3 d (DC 3 3 tk mp) 80]) hs (HSub.keep e1 (HSub.keep e2 (HSub.ext (fun _ _ h => h) (HSub.keep e3 HSub.nil)))) (fun _ w _ => tickNotEff24 (s := 7) (t := 0) (p := 1) (g := 1) (num := 1009) (n := 3) (gs := 3) (tk := tk) (me := 1) (al := 1) (ll := 1) (clk := 1) (bo := 0) eff701 (by omega) (by omega) (by omega) (by omega) (by omega) (by unfold itemNum; rfl) (by omega) (by omega) (by omega) w)
    (M' := fun z => [.ext 70 (SlA 38 9 z.1 0 z.2 []), .blk i1 bi c1 47, .blk i2 bn c2 5, .ext i4 (MpA mp [⟨.int .i64 1009, .agg #[.int .i64 1, .int .i64 1], 0⟩] 1), .blk i3 d (DC 3 3 (tk + 1) mp) 80]) (fun z => HSub.ext (fun _ _ h => h) (HSub.keep e1.symm (HSub.keep e2.symm (HSub.ext (fun _ _ h => h) (HSub.keep rfl HSub.nil))))) hn
theorem wTickAgain {d mp bi bn i1 i1' i2 i2' i3 i4 : Nat} {c1 c2 c3 : List SV} (hs : Sel H [.blk i1 bi c1 47, .blk i2 bn c2 5, .ext i4 (MpA mp [⟨.int .i64 1009, .agg #[.int .i64 1, .int .i64 1], 0⟩] 1), .blk i3 d c3 80] R) (e1 : denL c1 = denL itW) (e2 : denL c2 = denL [.v (.int .u8 9)]) (e3 : denL c3 = denL (DC 3 3 4 mp))
    (hn : ∀ z : Option Addr × Nat, nx (.v (.slice z.1 1 z.2)) (.ext 70 (SlA 38 9 z.1 1 z.2 (qM 4)) :: R)) : CallK ⟨Tryz.prog, TB, nn, W, S, r, TBok⟩ 7 [.v (pv d), .v (.int .i64 1), .slc bi i1' 0 1 1, .fn 58 [.loc bn i2' 0]] H nx :=
  CallK.frL (v := fun z : Option Addr × Nat => .slice z.1 1 z.2) (L0 := [.blk 9 bi itW 47, .blk 8 bn [.v (.int .u8 9)] 5, .ext 4 (MpA mp [⟨.int .i64 1009, .agg #[.int .i64 1, .int .i64 1], 0⟩] 1), .blk 3 d (DC 3 3 4 mp) 80]) hs (HSub.keep e1 (HSub.keep e2 (HSub.ext (fun _ _ h => h) (HSub.keep e3 HSub.nil)))) (fun _ w _ => tickAgainEff24 (s := 7) (t := 0) (p := 1) (g := 1) (num := 1009) (n := 3) (gs := 3) (tk := 4) (me := 1) (al := 1) (ll := 1) (clk := 1) (bo := 0) eff701 (by omega) (by omega) (by omega) (by omega) (by omega) (by unfold itemNum; rfl) (by omega) (by omega) (by omega) (by omega) w)
    (M' := fun z => [.ext 70 (SlA 38 9 z.1 1 z.2 (qM 4))]) (fun z => HSub.ext (fun _ _ h => h) (HSub.drop (HSub.drop (HSub.drop (HSub.drop HSub.nil))))) hn
theorem wNew (hn : ∀ z : Nat × Nat, nx (.v (.tuple #[pv z.1, .int .i64 0])) (.blk 3 z.1 (DC 3 3 0 z.2) 80 :: .ext 4 (MpA z.2 [] 0) :: H)) : CallK ⟨Tryz.prog, TB, nn, W, S, r, TBok⟩ 6 [.v (.int .i64 3), .v (.int .i64 3)] H nx :=
  CallK.frL (v := fun z : Nat × Nat => .tuple #[pv z.1, .int .i64 0]) (L0 := []) (L := []) (R := H) Sel.nil HSub.nil (fun _ w _ => FrZ.pre (new11 (n := 3) (gs := 3) (by omega) (by omega) w) (fun S h => by cases h; exact fun _ h => h))
    (M' := fun z => [.blk 3 z.1 (DC 3 3 0 z.2) 80, .ext 4 (MpA z.2 [] 0)]) (fun z => HSub.keep rfl (HSub.ext (fun _ _ h => h) HSub.nil)) hn
theorem wWait {d mp i3 i4 : Nat} {c3 : List SV} (hs : Sel H [.ext i4 (MpA mp [⟨.int .i64 1009, .agg #[.int .i64 1, .int .i64 1], 0⟩] 1), .blk i3 d c3 80] R) (e3 : denL c3 = denL (DC 3 3 1 mp))
    (hn : ∀ z : Option Addr × Nat, nx (.v (.slice z.1 1 z.2)) (.ext 60 (SlA 3 1 z.1 1 z.2 [.int .i64 1009]) :: .ext i4 (MpA mp [⟨.int .i64 1009, .agg #[.int .i64 1, .int .i64 1], 0⟩] 1) :: .blk i3 d c3 80 :: R)) : CallK ⟨Tryz.prog, TB, nn, W, S, r, TBok⟩ 9 [.v (pv d)] H nx :=
  CallK.frL (v := fun z : Option Addr × Nat => .slice z.1 1 z.2) (L0 := [.ext 4 (MpA mp [⟨.int .i64 1009, .agg #[.int .i64 1, .int .i64 1], 0⟩] 1), .blk 3 d (DC 3 3 1 mp) 80]) hs (HSub.ext (fun _ _ h => h) (HSub.keep e3 HSub.nil)) (fun _ w _ => waiting25 (by omega) w)
    (M' := fun z => [.ext 60 (SlA 3 1 z.1 1 z.2 [.int .i64 1009]), .ext i4 (MpA mp [⟨.int .i64 1009, .agg #[.int .i64 1, .int .i64 1], 0⟩] 1), .blk i3 d c3 80]) (fun z => HSub.ext (fun _ _ h => h) (HSub.ext (fun _ _ h => h) (HSub.keep e3.symm HSub.nil))) hn
end
theorem wNum (w : World) : Pu Tryz.prog 45 #[.agg #[.int .i64 7, .int .i64 0, .int .i64 1, .int .i64 0, .bool false, .int .i64 1]] w (.tuple #[.int .i64 1009, .int .i64 0]) := numOk38 item701 w
theorem i9M (to : Int) : (List.drop ((0 : Int).toNat * 9) (qM to)).take 9 = denL [.v (.int .i64 10), .v (.int .i64 1), .v (.int .i64 to), .v (.int .i64 0), .v (.int .i64 0), .v (.int .i64 0), .v (.int .i64 1009), .v (.string qv), .v (.slice none 0 0)] := rfl
theorem wServe {w : World} {d mp : Nat} (hd : DAt w d 3 3 4 mp) (hka : KAt w) : Pu Tryz.prog 10 #[pv d, .agg #[.int .i64 10, .int .i64 1, .int .i64 3, .int .i64 0, .int .i64 0, .int .i64 0, .int .i64 1009, .string qv, .slice none 0 0], .nilFunc] w (.tuple #[.agg #[.int .i64 1, .int .i64 0, .int .i64 0, .int .i64 7, .int .i64 0, .int .i64 1, .string ⟨#[107]⟩, .int .i64 1, .int .i64 0, .string ⟨#[]⟩, .string ⟨#[]⟩, .int .i64 0, .string ⟨#[]⟩, .int .i64 0, .int .i64 0, .slice none 0 0, .int .i64 0, .int .i64 0, .int .i64 0, .int .i64 0, .bool false, .int .i64 0, .int .i64 0, .string ⟨#[]⟩], .agg #[.int .i64 0, .int .i64 0, .int .i64 0, .int .i64 0, .int .i64 0, .int .i64 0, .int .i64 0, .string ⟨#[]⟩, .slice none 0 0], .bool true, .bool false]) :=
  serveEff14 (s := 7) (t := 0) (p := 1) (g := 1) (k := ⟨#[107]⟩) (dl := 1) (f := 1) (to := 3) (num := 1009) eff701 (by omega) (by decide +kernel) (by decide) (by omega) (by unfold NumOk; omega) hd hka (by omega) (by omega) (by omega) (by decide) (by omega) (by omega) (by omega) (by rw [qvEq]; decide +kernel) (by rw [qvEq]; decide)
theorem wDone (w : World) : Pu Tryz.prog 46 #[.agg #[.int .i64 ((7 : Nat) : Int), .int .i64 ((0 : Nat) : Int), .int .i64 ((1 : Nat) : Int)]] w (.tuple #[.agg #[.int .i64 ((0 : Nat) : Int), .int .i64 8, .string ⟨#[]⟩], .bool true]) := by
  refine enter_sound TBok Tryz.func46 rfl rfl Tryz.ntmps46 [.agg [.v (.int .i64 7), .v (.int .i64 0), .v (.int .i64 1)]] (Kn.start w noS) rfl rfl ?_
  conv => whnf
  repeat' (first
 | with_reducible (first | refine r_seq (fun KS hS => ?_) | (refine hS _ _ ?_; clear hS KS) | (refine hA _ ?_; clear hA KA) | (refine hB _ ?_; clear hB KB) | refine r_block ?_)
 | ((with_reducible (first | refine r_region ?_ | refine r_cond (fun KA hA KB hB => ?_) | refine r_ret ?_ | refine r_skip ?_ | refine r_exit ?_ | refine And.intro rfl ?_ | intro b)); conv => whnf)
 | ((with_reducible refine WrapK.i64 ?_ ?_); (focus omega); conv => whnf)
 | ((with_reducible apply OpK.more); (focus refine sok); (conv => whnf); fail_if_success guard_target =ₛ False)
 | ((with_reducible (first | refine InAt.mk (fun K' hK => ?_) | refine AnyAt.mk (fun K' hK => ?_) | (refine hK _ ?_; clear hK K') | (refine hK _ _ ?_; clear hK K'))); conv => whnf)
 | ((refine And.intro ?_ ?_); all_goals (conv => whnf))
 | (apply r_quiet; refine mixed; kernel_rfl; kernel_rfl; kernel_rfl; conv => whnf)
 | ((first | refine if_t (by decide) ?_ | refine if_f (by decide) ?_ | refine if_decT (by omega) ?_ | refine if_decF (by omega) ?_ | refine if_ndecT (by omega) ?_ | refine if_ndecF (by omega) ?_); conv => whnf)
 | ((first | refine if_dec (fun h => ?_) (fun h => ?_) | refine if_ndec (fun h => ?_) (fun h => ?_) | refine if_cond (fun h => ?_) (fun h => ?_)); all_goals (conv => whnf))
 | with_reducible apply_assumption -symm -exfalso)
  exact FinK.pu rfl
theorem wServeDone {w : World} {d mp : Nat} (hd : DAt w d 3 3 4 mp) (hka : KAt w) : Pu Tryz.prog 10 #[pv d, .agg #[.int .i64 10, .int .i64 1, .int .i64 3, .int .i64 0, .int .i64 0, .int .i64 0, .int .i64 1009, .string qv, .slice none 0 0], .func (.func 46) #[] #[]] w (.tuple #[.agg #[.int .i64 0, .int .i64 0, .int .i64 0, .int .i64 0, .int .i64 0, .int .i64 0, .string ⟨#[]⟩, .int .i64 0, .int .i64 0, .string ⟨#[]⟩, .string ⟨#[]⟩, .int .i64 0, .string ⟨#[]⟩, .int .i64 0, .int .i64 0, .slice none 0 0, .int .i64 0, .int .i64 0, .int .i64 0, .int .i64 0, .bool false, .int .i64 0, .int .i64 0, .string ⟨#[]⟩], .agg #[.int .i64 11, .int .i64 3, .int .i64 1, .int .i64 0, .int .i64 0, .int .i64 0, .int .i64 1009, .string rv, .slice none 0 0], .bool false, .bool true]) :=
  serveDoneEff14 (s := 7) (t := 0) (p := 1) (g := 1) (k := ⟨#[107]⟩) (dl := 1) (f := 1) (to := 3) (num := 1009) (e := 0) (rn := 8) (rx := ⟨#[]⟩) eff701 (by omega) (by decide +kernel) (by decide) (by omega) (by unfold NumOk; omega) hd hka (by omega) (by omega) (by omega) (by decide) (by omega) (by omega) (by omega) (by rw [qvEq]; decide +kernel) (by rw [qvEq]; decide) wDone (by omega) (by unfold NumOk; omega) (by decide) (by decide +kernel)
theorem wAnswer {w : World} {d bi mp : Nat} {S0 : Nat → Prop} (hd : Rdd w [.blk 9 bi itW 47, .blk 3 d (DC 3 3 4 mp) 80] S0) (hka : KAt w) : Pu Tryz.prog 12 #[pv d, .agg #[.int .i64 11, .int .i64 3, .int .i64 1, .int .i64 0, .int .i64 0, .int .i64 0, .int .i64 1009, .string rv, .slice none 0 0], .slice (some ⟨bi, 0, none⟩) 1 1] w (.tuple #[.agg #[.int .i64 15, .int .i64 0, .int .i64 0, .int .i64 0, .int .i64 0, .int .i64 0, .string ⟨#[]⟩, .int .i64 0, .int .i64 0, .string ⟨#[]⟩, .string ⟨#[]⟩, .int .i64 0, .string ⟨#[]⟩, .int .i64 0, .int .i64 0, .slice none 0 0, .int .i64 7, .int .i64 0, .int .i64 1, .int .i64 0, .bool false, .int .i64 1, .int .i64 0, .string ⟨#[]⟩], .bool true]) :=
  answerEff31 (s := 7) (t := 0) (p := 1) (g := 1) (k := ⟨#[107]⟩) (dl := 1) (f := 1) (to := 3) (num := 1009) (e := 0) (rn := 8) (rx := ⟨#[]⟩) eff701 (by omega) (by decide +kernel) (by decide) (by omega) (by unfold NumOk; omega) hd hka (by omega) (by omega) (by omega) (by decide) (by omega) (by omega) (by omega) (by omega) (by unfold NumOk; omega) (by decide) (by decide +kernel)
end Go.Proofs.YthmjkaljkgjicaaGreatDoor

namespace Go.Proofs.YthmjkaljkgjicaaGreatDoor
open Go Go.X
set_option maxRecDepth 100000
theorem in36 : InSt 34 Tryz.f34 4 := InSt.mk' Tryz.func34 rfl Tryz.ntmps34
end Go.Proofs.YthmjkaljkgjicaaGreatDoor
