/- Contracts and lemmas for the claim (part 17); no condition of its own. -/
import Derived.Test.YtjkmpaggfbghiaaGreatDoorYQC516
set_option linter.all false
set_option maxRecDepth 100000
set_option maxHeartbeats 0
set_option linter.unusedVariables false
set_option linter.unusedSimpArgs false
set_option linter.unnecessarySimpa false
namespace Go.Proofs.YtjkmpaggfbghiaaGreatDoor
open Go Go.X
theorem orchRoutes1005 {l1 : List (Nat × Nat)} {a1 : Option Addr} {cap1 kd n : Nat} {o0 o1 : Obj} {w : World} (hko : KObj o0 o1)
    (hr1 : RdB w a1 (lmC l1)) (hcap1 : l1.length ≤ cap1) (hll1 : l1.length ≤ 9223372036854775807) (hl1 : ∀ m ∈ l1, m.1 ≤ 255 ∧ m.2 ≤ 65535) (hkd : kd ≤ 255) (hn : n ≤ 65535) :
    FrZ Tryz.prog 5 #[.slice a1 l1.length cap1, .agg #[.int .u8 (kd : Nat), .int .u16 (n : Nat)]] w (AssL [.ext 9 (GlX o0 o1)]) (fun _ : Unit => .bool true) (fun _ => AssL [.ext 9 (GlA o0 o1)]) := by
  refine enter_frZ TBok (H := [.ext 9 (GlX o0 o1)]) all_foot Tryz.func5 rfl rfl Tryz.ntmps5 [.v (.slice a1 l1.length cap1), .agg [.v (.int .u8 (kd : Nat)), .v (.int .u16 (n : Nat))]] rfl rfl ?_
  intro S hA hlt
  obtain ⟨hSx, hh0, hh1⟩ := GlX.only hA
  have hng1 := notGl hko hh0 hh1 hr1
  have sa := fun n' r H => SeesB.oldX (c := ⟨Tryz.prog, TB, n', w, S, r, TBok⟩) (H := H) hr1 (fun i v b off h1 h2 hb => by
    have := hng1 i v b off h1 h2
    rcases hSx b hb with e | e <;> omega)
  clear hA hlt hSx hng1
  obtain ⟨o, ho⟩ : ∃ o, OM.playF (OM.init 4) (l1.take 60) = o := ⟨_, rfl⟩
  have hIo : OM.Inv o := by rw [← ho]; exact (OM.Inv.init (g := 4) (by decide)).play _
  have hgo : o.groups = 4 := by rw [← ho, OM.play_groups]; rfl
  have hpl1011 := fun (w : World) (hr : RdB w a1 (lmC l1)) => played1011 hko hr hcap1 hll1 hl1
  simp only [ho] at hpl1011
  clear ho
  have hc8_1018 := fun d w => cmd8_1018 (d := d) (n := n) hko hIo hn w
  conv => whnf
  repeat' (first
 | with_reducible refine r_stop 7 ?_
 | with_reducible ((first | refine r_seq (fun KS hS => ?_) | (refine hS _ _ ?_; clear hS KS) | (refine hB _ ?_; clear hB KB)))
 | ((with_reducible (first | refine r_region ?_ | refine r_cond (fun KA hA KB hB => ?_) | refine r_skip ?_ | refine And.intro rfl ?_ | intro b)); conv => whnf)
 | ((with_reducible refine CallK.id ?_); (first | refine CallK.s1 (by repeat (first | with_reducible apply Rm.head | apply Rm.tail)) (fun ms w hk => hpl1011 w (sa _ _ _ ms w hk)) ?_ | (refine CallK.selS (.agg (cmV (OM.mvCmd n) none 0 0)) rfl (by apply Sel.cons; (case h => repeat (first | with_reducible apply Rm.head | apply Rm.tail)); apply Sel.cons; (case h => repeat (first | with_reducible apply Rm.head | apply Rm.tail)); exact Sel.nil) (fun ms w hk => hc8_1018 _ w) ?_)); conv => whnf)
 | ((with_reducible refine OpK.id ?_); refine OpK.mkMKT rfl ?_; conv => whnf)
 | ((with_reducible apply OpK.more); (focus refine sok); (conv => whnf); fail_if_success guard_target =ₛ False)
 | with_reducible apply_assumption -symm -exfalso)
  refine StopR.mk ?_
  rename_i bx d _ _ b6
  obtain ⟨mm, hmm⟩ : ∃ x, x = b := ⟨b, rfl⟩
  subst hmm
  clear sa hpl1011 hc8_1018 hr1
  repeat' (first
 | with_reducible ((first | refine r_seq (fun KS hS => ?_) | (refine hS _ _ ?_; clear hS KS) | refine r_block ?_))
 | ((with_reducible refine r_region ?_); conv => whnf))
  refine Run.weakenD (E' := [(5, .v (pv d)), (6, .loc b6 70 0), (7, .v (.map (some mm))), (37, .v (.int .i64 0))]) (H' := [.blk 70 b6 (cmV (OM.mvCmd n) none 0 0) 42, .ext 12 (OrchA d o), .ext 9 (GlA o0 o1), .ext 8 (dfA OM.zDef none 0), .ext 60 (MpKT mm fun _ => none)]) ?_ (by repeat' (first | exact SubD.nil | (refine SubD.cons rfl rfl ?_))) (by (try dsimp only [List.cons_append, List.nil_append, den, denL]); refine SelI.spec ?_; (repeat (first | refine SelI.blk (by repeat (first | with_reducible apply Rm.head | apply Rm.tail)) ?_ | refine SelI.ext (by repeat (first | with_reducible apply Rm.head | apply Rm.tail)) ?_ | (refine SelI.blk' (by repeat (first | with_reducible apply Rm.head | apply Rm.tail)) ?_ ?_; focus rfl) | (refine SelI.ext' (by repeat (first | with_reducible apply Rm.head | apply Rm.tail)) ?_ ?_; focus rfl))); exact SelI.nil)
  refine r_loop (α := Nat) (fun i => [(5, .v (pv d)), (6, .loc b6 70 0), (7, .v (.map (some mm))), (37, .v (.int .i64 (i : Nat)))]) (fun i => [.blk 70 b6 (cmV (OM.mvCmd n) none 0 0) 42, .ext 12 (OrchA d o), .ext 9 (GlA o0 o1), .ext 8 (dfA OM.zDef none 0), .ext 60 (MpKT mm (oldF o i))]) (fun i => i ≤ 16) (fun i => 16 - i) 0 (Nat.zero_le _) (by repeat' (first | exact Sub.nil | (refine Sub.cons rfl rfl ?_))) (by (try dsimp only); rw [oldF_zero]; exact (by (try dsimp only [List.cons_append, List.nil_append, den, denL]); refine SelI.spec ?_; (repeat (first | refine SelI.blk (by repeat (first | with_reducible apply Rm.head | apply Rm.tail)) ?_ | refine SelI.ext (by repeat (first | with_reducible apply Rm.head | apply Rm.tail)) ?_ | (refine SelI.blk' (by repeat (first | with_reducible apply Rm.head | apply Rm.tail)) ?_ ?_; focus rfl) | (refine SelI.ext' (by repeat (first | with_reducible apply Rm.head | apply Rm.tail)) ?_ ?_; focus rfl))); exact SelI.nil)) ?_
  intro i hi KL hL2
  by_cases hlt : i < 16
  · have hnm1022 := fun w => name1022 i (by omega) w
    have hrt1021 := fun w => route1021 (d := d) (key := OM.nameB i) hIo (OM.nmOk_nameB i) w
    repeat' (first
 | with_reducible ((first | refine r_seq (fun KS hS => ?_) | (refine hS _ _ ?_; clear hS KS) | (refine hA _ ?_; clear hA KA) | (refine hB _ ?_; clear hB KB) | refine r_block ?_))
 | ((with_reducible (first | refine r_region ?_ | refine r_cond (fun KA hA KB hB => ?_) | refine r_skip ?_)); conv => whnf)
 | ((with_reducible refine WrapK.i64 ?_ ?_); (focus omega); conv => whnf)
 | ((with_reducible refine CallK.at 22 ?_); refine CallK.pu (fun w => hnm1022 w) ?_; conv => whnf)
 | ((with_reducible refine CallK.id ?_); refine CallK.s1V (by repeat (first | with_reducible apply Rm.head | apply Rm.tail)) (fun ms w hk => hrt1021 w) ?_; conv => whnf)
 | ((with_reducible refine OpK.id ?_); refine OpK.upKT rfl rfl rfl rfl rfl rfl rfl rfl (by repeat (first | with_reducible apply At.head | apply At.tail)) ?_; conv => whnf)
 | (refine hL2 (i + 1) _ _ (by show i + 1 ≤ _; omega) (by show 16 - (i + 1) < 16 - i; omega) (by repeat' (first | exact Sub.nil | (refine Sub.cons rfl rfl ?_))) (by rw [← oldF_put]; exact (by (try dsimp only [List.cons_append, List.nil_append, den, denL]); refine SelI.spec ?_; (repeat (first | refine SelI.blk (by repeat (first | with_reducible apply Rm.head | apply Rm.tail)) ?_ | refine SelI.ext (by repeat (first | with_reducible apply Rm.head | apply Rm.tail)) ?_ | (refine SelI.blk' (by repeat (first | with_reducible apply Rm.head | apply Rm.tail)) ?_ ?_; focus rfl) | (refine SelI.ext' (by repeat (first | with_reducible apply Rm.head | apply Rm.tail)) ?_ ?_; focus rfl))); exact SelI.nil)))
 | (refine if_decT (by omega) ?_; conv => whnf)
 | with_reducible apply_assumption -symm -exfalso)
  obtain rfl : i = 16 := by omega
  clear hL2 hlt hi
  have hok8 : (OM.mvCmd n).ok = true := by rw [← OM.cmdOf8 o n]; exact OM.cmdOf_ok hIo 8 n
  have hap0 := fun w => apply1014 (d := d) (a := none) (cap := 0) (c := OM.mvCmd n) hko hIo hok8 (fun _ => rfl) w
  have hIs0 := hIo.apply (OM.mvCmd n)
  rcases OM.move_cases hIo hgo n with ⟨e, he, hrep⟩ | ⟨fr, how, hfr, hrep, hst⟩
  · rw [hrep] at hap0
    generalize (o.apply (OM.mvCmd n)).1 = s0 at hap0
    have hap1014 : ∀ w, Fr Tryz.prog 14 #[pv d, .agg (denL (cmV (OM.mvCmd n) none 0 0)).toArray] w (AssL [.ext 12 (OrchA d o), .ext 9 (GlA o0 o1), .ext 8 (dfA OM.zDef none 0)]) (rpV ⟨e, 0⟩) (AssL [.ext 12 (OrchA d s0), .ext 9 (GlA o0 o1), .ext 8 (dfA OM.zDef none 0)]) := hap0
    clear hap0
    rcases he with rfl | rfl | rfl
    · repeat' (first
 | with_reducible ((first | refine r_seq (fun KS hS => ?_) | (refine hS _ _ ?_; clear hS KS) | (refine hA _ ?_; clear hA KA) | (refine hB _ ?_; clear hB KB)))
 | ((with_reducible (first | refine r_region ?_ | refine r_cond (fun KA hA KB hB => ?_) | refine r_ret ?_ | refine r_exit ?_ | refine And.intro rfl ?_ | intro b)); conv => whnf)
 | ((with_reducible refine CallK.id ?_); (first | (refine CallK.selS (.agg [.v (.int .i64 9), .v (.int .i64 0), .v (.string ⟨#[]⟩)]) rfl (by apply Sel.cons; (case h => repeat (first | with_reducible apply Rm.head | apply Rm.tail)); apply Sel.cons; (case h => repeat (first | with_reducible apply Rm.head | apply Rm.tail)); apply Sel.cons; (case h => repeat (first | with_reducible apply Rm.head | apply Rm.tail)); exact Sel.nil) (fun ms w hk => hap1014 w) ?_) | refine CallK.s1V (by repeat (first | with_reducible apply Rm.head | apply Rm.tail)) (fun ms w hk => works1013 hko w) ?_); conv => whnf)
 | with_reducible apply_assumption -symm -exfalso)
      exact FinK.frZL () rfl (by (try dsimp only [List.cons_append, List.nil_append, den, denL]); refine SelI.spec ?_; (repeat (first | refine SelI.blk (by repeat (first | with_reducible apply Rm.head | apply Rm.tail)) ?_ | refine SelI.ext (by repeat (first | with_reducible apply Rm.head | apply Rm.tail)) ?_ | (refine SelI.blk' (by repeat (first | with_reducible apply Rm.head | apply Rm.tail)) ?_ ?_; focus rfl) | (refine SelI.ext' (by repeat (first | with_reducible apply Rm.head | apply Rm.tail)) ?_ ?_; focus rfl))); exact SelI.nil)
    · repeat' (first
 | with_reducible ((first | refine r_seq (fun KS hS => ?_) | (refine hS _ _ ?_; clear hS KS) | (refine hA _ ?_; clear hA KA) | (refine hB _ ?_; clear hB KB)))
 | ((with_reducible (first | refine r_region ?_ | refine r_cond (fun KA hA KB hB => ?_) | refine r_ret ?_ | refine r_exit ?_ | refine And.intro rfl ?_ | intro b)); conv => whnf)
 | ((with_reducible refine CallK.id ?_); (first | (refine CallK.selS (.agg [.v (.int .i64 17), .v (.int .i64 0), .v (.string ⟨#[]⟩)]) rfl (by apply Sel.cons; (case h => repeat (first | with_reducible apply Rm.head | apply Rm.tail)); apply Sel.cons; (case h => repeat (first | with_reducible apply Rm.head | apply Rm.tail)); apply Sel.cons; (case h => repeat (first | with_reducible apply Rm.head | apply Rm.tail)); exact Sel.nil) (fun ms w hk => hap1014 w) ?_) | refine CallK.s1V (by repeat (first | with_reducible apply Rm.head | apply Rm.tail)) (fun ms w hk => works1013 hko w) ?_); conv => whnf)
 | with_reducible apply_assumption -symm -exfalso)
      exact FinK.frZL () rfl (by (try dsimp only [List.cons_append, List.nil_append, den, denL]); refine SelI.spec ?_; (repeat (first | refine SelI.blk (by repeat (first | with_reducible apply Rm.head | apply Rm.tail)) ?_ | refine SelI.ext (by repeat (first | with_reducible apply Rm.head | apply Rm.tail)) ?_ | (refine SelI.blk' (by repeat (first | with_reducible apply Rm.head | apply Rm.tail)) ?_ ?_; focus rfl) | (refine SelI.ext' (by repeat (first | with_reducible apply Rm.head | apply Rm.tail)) ?_ ?_; focus rfl))); exact SelI.nil)
    · repeat' (first
 | with_reducible ((first | refine r_seq (fun KS hS => ?_) | (refine hS _ _ ?_; clear hS KS) | (refine hA _ ?_; clear hA KA) | (refine hB _ ?_; clear hB KB)))
 | ((with_reducible (first | refine r_region ?_ | refine r_cond (fun KA hA KB hB => ?_) | refine r_ret ?_ | refine r_exit ?_ | refine And.intro rfl ?_ | intro b)); conv => whnf)
 | ((with_reducible refine CallK.id ?_); (first | (refine CallK.selS (.agg [.v (.int .i64 4), .v (.int .i64 0), .v (.string ⟨#[]⟩)]) rfl (by apply Sel.cons; (case h => repeat (first | with_reducible apply Rm.head | apply Rm.tail)); apply Sel.cons; (case h => repeat (first | with_reducible apply Rm.head | apply Rm.tail)); apply Sel.cons; (case h => repeat (first | with_reducible apply Rm.head | apply Rm.tail)); exact Sel.nil) (fun ms w hk => hap1014 w) ?_) | refine CallK.s1V (by repeat (first | with_reducible apply Rm.head | apply Rm.tail)) (fun ms w hk => works1013 hko w) ?_); conv => whnf)
 | with_reducible apply_assumption -symm -exfalso)
      exact FinK.frZL () rfl (by (try dsimp only [List.cons_append, List.nil_append, den, denL]); refine SelI.spec ?_; (repeat (first | refine SelI.blk (by repeat (first | with_reducible apply Rm.head | apply Rm.tail)) ?_ | refine SelI.ext (by repeat (first | with_reducible apply Rm.head | apply Rm.tail)) ?_ | (refine SelI.blk' (by repeat (first | with_reducible apply Rm.head | apply Rm.tail)) ?_ ?_; focus rfl) | (refine SelI.ext' (by repeat (first | with_reducible apply Rm.head | apply Rm.tail)) ?_ ?_; focus rfl))); exact SelI.nil)
  rw [hrep] at hap0
  rw [hst] at hap0 hIs0
  have hmid := OM.Mid.start hIs0
  generalize ({ o with moves := o.moves ++ [⟨OM.rgB n, fr, ((1 + n / 512 % 3 : Nat) : Int), 1, OM.eps⟩], done := OM.bump o } : OM.St) = s0 at hap0 hmid hIs0
  have hap1014 : ∀ w, Fr Tryz.prog 14 #[pv d, .agg (denL (cmV (OM.mvCmd n) none 0 0)).toArray] w (AssL [.ext 12 (OrchA d o), .ext 9 (GlA o0 o1), .ext 8 (dfA OM.zDef none 0)]) (rpV ⟨0, o.moves.length + 1⟩) (AssL [.ext 12 (OrchA d s0), .ext 9 (GlA o0 o1), .ext 8 (dfA OM.zDef none 0)]) := hap0
  clear hap0 hst hrep
  repeat' (first
 | with_reducible ((first | refine r_seq (fun KS hS => ?_) | (refine hS _ _ ?_; clear hS KS) | (refine hB _ ?_; clear hB KB) | refine r_block ?_))
 | ((with_reducible (first | refine r_region ?_ | refine r_cond (fun KA hA KB hB => ?_) | refine r_skip ?_ | refine r_exit ?_ | refine And.intro rfl ?_ | intro b)); conv => whnf)
 | ((with_reducible refine CallK.id ?_); refine CallK.selS (.agg [.v (.int .i64 0), .v (.int .i64 ((o.moves.length : Int) + 1)), .v (.string ⟨#[]⟩)]) rfl (by apply Sel.cons; (case h => repeat (first | with_reducible apply Rm.head | apply Rm.tail)); apply Sel.cons; (case h => repeat (first | with_reducible apply Rm.head | apply Rm.tail)); apply Sel.cons; (case h => repeat (first | with_reducible apply Rm.head | apply Rm.tail)); exact Sel.nil) (fun ms w hk => hap1014 w) ?_; conv => whnf)
 | with_reducible apply_assumption -symm -exfalso)
  refine r_loop (α := Nat) (fun i => [(5, .v (pv d)), (6, .loc b6 70 0), (7, .v (.map (some mm))), (12, .v (.int .i64 ((o.moves.length : Int) + 1))), (13, .v (.int .i64 (OM.fromF (OM.rgB n) fr i))), (78, .v (.int .i64 (i : Nat)))]) (fun _ => [.blk 70 b6 (cmV (OM.mvCmd n) none 0 0) 42, .ext 12 (OrchA d s0), .ext 9 (GlA o0 o1), .ext 8 (dfA OM.zDef none 0), .ext 60 (MpKT mm (oldF o 16))]) (fun i => i ≤ 16) (fun i => 16 - i) 0 (Nat.zero_le _) (by repeat' (first | exact Sub.nil | (refine Sub.cons rfl rfl ?_))) (by (try dsimp only [List.cons_append, List.nil_append, den, denL]); refine SelI.spec ?_; (repeat (first | refine SelI.blk (by repeat (first | with_reducible apply Rm.head | apply Rm.tail)) ?_ | refine SelI.ext (by repeat (first | with_reducible apply Rm.head | apply Rm.tail)) ?_ | (refine SelI.blk' (by repeat (first | with_reducible apply Rm.head | apply Rm.tail)) ?_ ?_; focus rfl) | (refine SelI.ext' (by repeat (first | with_reducible apply Rm.head | apply Rm.tail)) ?_ ?_; focus rfl))); exact SelI.nil) ?_
  clear hap1014
  intro i hi KL hL3
  have hrok := OM.rgB_ok n
  by_cases hlt : i < 16
  · have hnm1022 := fun w => name1022 i (by omega) w
    have hhas1023 := fun w => has1023 (r := OM.rgB n) (k := OM.nameB i) hrok (rsz hrok).lo (rsz hrok).hi (by have := sz_nm (OM.nmOk_nameB i); omega) w
    cases hh : (OM.rgB n).has (OM.nameB i) with
    | false =>
      rw [hh] at hhas1023
      have hfy := OM.fromF_no (fr := fr) hh
      repeat' (first
 | with_reducible ((first | refine r_seq (fun KS hS => ?_) | (refine hS _ _ ?_; clear hS KS) | (refine hA _ ?_; clear hA KA) | (refine hB _ ?_; clear hB KB) | refine r_block ?_))
 | ((with_reducible (first | refine r_region ?_ | refine r_cond (fun KA hA KB hB => ?_) | refine r_skip ?_ | refine And.intro rfl ?_)); conv => whnf)
 | ((with_reducible refine WrapK.i64 ?_ ?_); (focus omega); conv => whnf)
 | ((with_reducible refine CallK.at 22 ?_); refine CallK.pu (fun w => hnm1022 w) ?_; conv => whnf)
 | ((with_reducible refine CallK.at 23 ?_); refine CallK.pu (fun w => hhas1023 w) ?_; conv => whnf)
 | (refine hL3 (i + 1) _ _ (by show i + 1 ≤ _; omega) (by show 16 - (i + 1) < 16 - i; omega) (by dsimp only; rw [hfy]; exact (by repeat' (first | exact Sub.nil | (refine Sub.cons rfl rfl ?_)))) (by (try dsimp only [List.cons_append, List.nil_append, den, denL]); refine SelI.spec ?_; (repeat (first | refine SelI.blk (by repeat (first | with_reducible apply Rm.head | apply Rm.tail)) ?_ | refine SelI.ext (by repeat (first | with_reducible apply Rm.head | apply Rm.tail)) ?_ | (refine SelI.blk' (by repeat (first | with_reducible apply Rm.head | apply Rm.tail)) ?_ ?_; focus rfl) | (refine SelI.ext' (by repeat (first | with_reducible apply Rm.head | apply Rm.tail)) ?_ ?_; focus rfl))); exact SelI.nil))
 | (apply r_any (id := 23); refine mixed; kernel_rfl; kernel_rfl; conv => whnf)
 | ((with_reducible ((first | refine InAt.mk (fun K' hK => ?_) | refine AnyAt.mk (fun K' hK => ?_) | (refine hK _ ?_; clear hK K') | (refine hK _ _ ?_; clear hK K')))); conv => whnf)
 | (refine And.intro ?_ ?_; all_goals (conv => whnf))
 | (refine if_decT (by omega) ?_; conv => whnf)
 | with_reducible apply_assumption -symm -exfalso)
    | true =>
      rw [hh] at hhas1023
      have hfy := OM.fromF_yes (fr := fr) hh
      have hro : o.route (OM.nameB i) = fr := OM.owner_route hIo (OM.ok_iff.1 hrok) how (OM.nmOk_nameB i) hh
      have hog : oldF o 16 (OM.nameB i) = some (.int .i64 fr) := by rw [oldF_get hlt, hro]
      rcases OM.fromF_or (OM.rgB n) fr i with e | e
      · rw [e]
        repeat' (first
 | with_reducible ((first | refine r_seq (fun KS hS => ?_) | (refine hS _ _ ?_; clear hS KS) | (refine hA _ ?_; clear hA KA) | (refine hB _ ?_; clear hB KB) | refine r_block ?_))
 | ((with_reducible (first | refine r_region ?_ | refine r_cond (fun KA hA KB hB => ?_) | refine r_skip ?_ | refine And.intro rfl ?_)); conv => whnf)
 | ((with_reducible refine WrapK.i64 ?_ ?_); (focus omega); conv => whnf)
 | ((with_reducible refine CallK.at 22 ?_); refine CallK.pu (fun w => hnm1022 w) ?_; conv => whnf)
 | ((with_reducible refine CallK.at 23 ?_); refine CallK.pu (fun w => hhas1023 w) ?_; conv => whnf)
 | ((with_reducible refine OpK.id ?_); refine OpK.lkST rfl rfl rfl rfl rfl rfl rfl (by repeat (first | with_reducible apply At.head | apply At.tail)) hog ?_; conv => whnf)
 | (refine hL3 (i + 1) _ _ (by show i + 1 ≤ _; omega) (by show 16 - (i + 1) < 16 - i; omega) (by dsimp only; rw [hfy]; exact (by repeat' (first | exact Sub.nil | (refine Sub.cons rfl rfl ?_)))) (by (try dsimp only [List.cons_append, List.nil_append, den, denL]); refine SelI.spec ?_; (repeat (first | refine SelI.blk (by repeat (first | with_reducible apply Rm.head | apply Rm.tail)) ?_ | refine SelI.ext (by repeat (first | with_reducible apply Rm.head | apply Rm.tail)) ?_ | (refine SelI.blk' (by repeat (first | with_reducible apply Rm.head | apply Rm.tail)) ?_ ?_; focus rfl) | (refine SelI.ext' (by repeat (first | with_reducible apply Rm.head | apply Rm.tail)) ?_ ?_; focus rfl))); exact SelI.nil))
 | (apply r_any (id := 23); refine mixed; kernel_rfl; kernel_rfl; conv => whnf)
 | ((with_reducible ((first | refine InAt.mk (fun K' hK => ?_) | refine AnyAt.mk (fun K' hK => ?_) | (refine hK _ ?_; clear hK K') | (refine hK _ _ ?_; clear hK K')))); conv => whnf)
 | (refine And.intro ?_ ?_; all_goals (conv => whnf))
 | (refine if_decT (by omega) ?_; conv => whnf)
 | with_reducible apply_assumption -symm -exfalso)
      · rw [e]
        repeat' (first
 | with_reducible ((first | refine r_seq (fun KS hS => ?_) | (refine hS _ _ ?_; clear hS KS) | (refine hA _ ?_; clear hA KA) | (refine hB _ ?_; clear hB KB) | refine r_block ?_))
 | ((with_reducible (first | refine r_region ?_ | refine r_cond (fun KA hA KB hB => ?_) | refine r_skip ?_ | refine And.intro rfl ?_)); conv => whnf)
 | ((with_reducible refine WrapK.i64 ?_ ?_); (focus omega); conv => whnf)
 | ((with_reducible refine CallK.at 22 ?_); refine CallK.pu (fun w => hnm1022 w) ?_; conv => whnf)
 | ((with_reducible refine CallK.at 23 ?_); refine CallK.pu (fun w => hhas1023 w) ?_; conv => whnf)
 | ((with_reducible refine OpK.id ?_); refine OpK.lkST rfl rfl rfl rfl rfl rfl rfl (by repeat (first | with_reducible apply At.head | apply At.tail)) hog ?_; conv => whnf)
 | (((refine if_f ?_ ?_); (focus (simp only [eq_self, decide_true, Bool.and_true, Bool.and_self, Bool.not_true, beq_self_eq_true] <;> fail)); conv => whnf))
 | (refine hL3 (i + 1) _ _ (by show i + 1 ≤ _; omega) (by show 16 - (i + 1) < 16 - i; omega) (by dsimp only; rw [hfy]; exact (by repeat' (first | exact Sub.nil | (refine Sub.cons rfl rfl ?_)))) (by (try dsimp only [List.cons_append, List.nil_append, den, denL]); refine SelI.spec ?_; (repeat (first | refine SelI.blk (by repeat (first | with_reducible apply Rm.head | apply Rm.tail)) ?_ | refine SelI.ext (by repeat (first | with_reducible apply Rm.head | apply Rm.tail)) ?_ | (refine SelI.blk' (by repeat (first | with_reducible apply Rm.head | apply Rm.tail)) ?_ ?_; focus rfl) | (refine SelI.ext' (by repeat (first | with_reducible apply Rm.head | apply Rm.tail)) ?_ ?_; focus rfl))); exact SelI.nil))
 | (apply r_any (id := 23); refine mixed; kernel_rfl; kernel_rfl; conv => whnf)
 | ((with_reducible ((first | refine InAt.mk (fun K' hK => ?_) | refine AnyAt.mk (fun K' hK => ?_) | (refine hK _ ?_; clear hK K') | (refine hK _ _ ?_; clear hK K')))); conv => whnf)
 | (refine And.intro ?_ ?_; all_goals (conv => whnf))
 | ((first | refine if_decT (by omega) ?_ | refine if_ndecT (by omega) ?_); conv => whnf)
 | with_reducible apply_assumption -symm -exfalso)
  obtain rfl : i = 16 := by omega
  clear hL3 hlt hi
  rw [OM.fromF_end]
  repeat' (first
 | with_reducible ((first | refine r_seq (fun KS hS => ?_) | (refine hS _ _ ?_; clear hS KS) | (refine hB _ ?_; clear hB KB) | refine r_block ?_))
 | ((with_reducible (first | refine r_region ?_ | refine r_cond (fun KA hA KB hB => ?_) | refine r_exit ?_ | refine And.intro rfl ?_ | intro b)); conv => whnf)
 | with_reducible apply_assumption -symm -exfalso)
  obtain ⟨b14, hb14⟩ : ∃ x, x = b := ⟨b, rfl⟩
  subst hb14
  refine Run.weakenD (E' := [(5, .v (pv d)), (6, .loc b6 70 0), (7, .v (.map (some mm))), (12, .v (.int .i64 ((o.moves.length : Int) + 1))), (108, .slc b14 74 0 2 2), (109, .v (.int .i64 ((2 : Nat) : Int))), (110, .v (.int .i64 0))]) (H' := [.blk 74 b14 (itV (OM.outX o fr) ++ itV (OM.inX o ((1 + n / 512 % 3 : Nat) : Int))) 31, .blk 70 b6 (cmV (OM.mvCmd n) none 0 0) 42, .ext 12 (OrchA d s0), .ext 9 (GlA o0 o1), .ext 8 (dfA OM.zDef none 0), .ext 60 (MpKT mm (oldF o 16))]) ?_ (by repeat' (first | exact SubD.nil | (refine SubD.cons rfl rfl ?_))) (by (try dsimp only [List.cons_append, List.nil_append, den, denL]); refine SelI.spec ?_; (repeat (first | refine SelI.blk (by repeat (first | with_reducible apply Rm.head | apply Rm.tail)) ?_ | refine SelI.ext (by repeat (first | with_reducible apply Rm.head | apply Rm.tail)) ?_ | (refine SelI.blk' (by repeat (first | with_reducible apply Rm.head | apply Rm.tail)) ?_ ?_; focus rfl) | (refine SelI.ext' (by repeat (first | with_reducible apply Rm.head | apply Rm.tail)) ?_ ?_; focus rfl))); exact SelI.nil)
  refine r_loop (α := Nat × OM.St) (fun z => [(5, .v (pv d)), (6, .loc b6 70 0), (7, .v (.map (some mm))), (12, .v (.int .i64 ((o.moves.length : Int) + 1))), (108, .slc b14 74 0 2 2), (109, .v (.int .i64 ((2 : Nat) : Int))), (110, .v (.int .i64 (z.1 : Nat)))]) (fun z => [.blk 74 b14 (itV (OM.outX o fr) ++ itV (OM.inX o ((1 + n / 512 % 3 : Nat) : Int))) 31, .blk 70 b6 (cmV (OM.mvCmd n) none 0 0) 42, .ext 12 (OrchA d z.2), .ext 9 (GlA o0 o1), .ext 8 (dfA OM.zDef none 0), .ext 60 (MpKT mm (oldF o 16))]) (fun z => z.1 ≤ 2 ∧ (z.1 = 0 → OM.Mid o z.2 (OM.rgB n) fr ((1 + n / 512 % 3 : Nat) : Int) 1 OM.eps) ∧ (z.1 = 1 → OM.Mid o z.2 (OM.rgB n) fr ((1 + n / 512 % 3 : Nat) : Int) 2 OM.dataS) ∧ (z.1 = 2 → OM.Inv z.2 ∧ ∀ k, OM.nmOk k = true → z.2.route k = if (OM.rgB n).has k = true then ((1 + n / 512 % 3 : Nat) : Int) else o.route k)) (fun z => 2 - z.1) (0, s0) ⟨Nat.zero_le _, fun _ => hmid, fun h => absurd h (by show ¬ (0 : Nat) = 1; decide), fun h => absurd h (by show ¬ (0 : Nat) = 2; decide)⟩ (by repeat' (first | exact Sub.nil | (refine Sub.cons rfl rfl ?_))) (by (try dsimp only [List.cons_append, List.nil_append, den, denL]); refine SelI.spec ?_; (repeat (first | refine SelI.blk (by repeat (first | with_reducible apply Rm.head | apply Rm.tail)) ?_ | refine SelI.ext (by repeat (first | with_reducible apply Rm.head | apply Rm.tail)) ?_ | (refine SelI.blk' (by repeat (first | with_reducible apply Rm.head | apply Rm.tail)) ?_ ?_; focus rfl) | (refine SelI.ext' (by repeat (first | with_reducible apply Rm.head | apply Rm.tail)) ?_ ?_; focus rfl))); exact SelI.nil) ?_
  clear hmid hIs0
  rintro ⟨i, s⟩ ⟨hi, hm0, hm1, hm2⟩ KL hL4
  dsimp only at hi hm0 hm1 hm2 ⊢
  have hrok := OM.rgB_ok n
  have hcases : i = 0 ∨ i = 1 ∨ i = 2 := by omega
  rcases hcases with rfl | rfl | rfl
  · exact routes_b0 (rg := OM.rgB n) hko hIo (OM.rgB_ok n) (hm0 rfl) (fun s2 h2 E' H' h3 h4 => hL4 (1, s2) E' H' ⟨by show 1 ≤ 2; decide, fun h => absurd h (by show ¬ (1 : Nat) = 0; decide), fun _ => h2, fun h => absurd h (by show ¬ (1 : Nat) = 2; decide)⟩ (by show 2 - 1 < 2 - 0; decide) h3 h4)
  · exact routes_b1 (rg := OM.rgB n) hko hIo (OM.rgB_ok n) (hm1 rfl) (fun s2 h2 E' H' h3 h4 => hL4 (2, s2) E' H' ⟨by show 2 ≤ 2; decide, fun h => absurd h (by show ¬ (2 : Nat) = 0; decide), fun h => absurd h (by show ¬ (2 : Nat) = 1; decide), fun _ => h2⟩ (by show 2 - 2 < 2 - 1; decide) h3 h4)
  · clear hL4 hm0 hm1
    obtain ⟨hIs, hrts⟩ := hm2 rfl
    clear hm2
    repeat' (first
 | (refine Run.weakenD (routes_rest (w := w) (S := S) (d := d) (b6 := b6) (b14 := b14) (mm := mm) (rg := OM.rgB n) (fr := fr) (to := ((1 + n / 512 % 3 : Nat) : Int)) (o := o) (s := s) hko hIo (OM.rgB_ok n) hIs hrts) (by repeat' (first | exact SubD.nil | (refine SubD.cons rfl rfl ?_))) (by (try dsimp only [List.cons_append, List.nil_append, den, denL]); refine SelI.spec ?_; (repeat (first | refine SelI.blk (by repeat (first | with_reducible apply Rm.head | apply Rm.tail)) ?_ | refine SelI.ext (by repeat (first | with_reducible apply Rm.head | apply Rm.tail)) ?_ | (refine SelI.blk' (by repeat (first | with_reducible apply Rm.head | apply Rm.tail)) ?_ ?_; focus rfl) | (refine SelI.ext' (by repeat (first | with_reducible apply Rm.head | apply Rm.tail)) ?_ ?_; focus rfl))); exact SelI.nil))
 | with_reducible ((first | refine r_seq (fun KS hS => ?_) | (refine hS _ _ ?_; clear hS KS) | (refine hB _ ?_; clear hB KB)))
 | ((with_reducible (first | refine r_region ?_ | refine r_cond (fun KA hA KB hB => ?_) | refine r_exit ?_)); conv => whnf)
 | with_reducible apply_assumption -symm -exfalso)
end Go.Proofs.YtjkmpaggfbghiaaGreatDoor

namespace Go.Proofs.YtjkmpaggfbghiaaGreatDoor
open Go Go.X Go.ChangeShapes Go.WideShapes Go.RowKit
set_option maxRecDepth 1000000
noncomputable def plainLaid5 : List (String × DataW Unit) := Rows.orchRoutesRow.laid.filter fun x => x.2.handleName?.isNone
noncomputable def witW5 (os : Os) : World :=
  { World.laidAll Tryz.prog os plainLaid5 with heap := (World.laidAll Tryz.prog os plainLaid5).heap.setIfInBounds 1 (.cells #[.nilFunc, .func (.func 366) #[] #[], .func (.func 367) #[] #[], .func (.func 368) #[] #[]] 282) }
theorem metAll5 (os : Os) (args : Array Value) : laidMetH Tryz.prog Rows.orchRoutesRow.laid ((witW5 os).forCall (fun _ _ => 0) ⟨#[], args, []⟩).memory :=
  laidMetH_of_parts3 (fuel := 8) (laidMet_of_run' 8 (by kernel_rfl) (by kernel_rfl)) (by kernel_rfl) (by kernel_rfl)
theorem shaped5 (os : Os) : (witW5 os).Shaped Tryz.prog := World.shaped_of_ZipB (by kernel_rfl) (by kernel_rfl)
theorem contract5 (H : Type) (enc : TypeId × Value → H) (W : World) (base : Nat) (args : Array Value) (ds gs : List (DataW H)) (before : List MemPlace)
    (hval : ∀ (j : Nat) t v, Tryz.f5.params[j]? = some t → args[j]? = some v → Value.okWide Tryz.prog W .any base t v)
    (hW : DataW.Whole enc Tryz.prog Tryz.f5.params.toList Rows.orchRoutesSpec.vars false W args.toList ds gs before) (hL : laidMetH Tryz.prog Rows.orchRoutesRow.laid W) :
    Calls Tryz.prog 5 args W fun e W' => ∃ v, e = .returned v ∧ Rows.orchRoutesSpec.post enc Tryz.prog Tryz.f5 false true false false W args v W' := by
  obtain ⟨o0, o1, hko, hh0, hh1⟩ := KObj.of_laid hL (by simp [Rows.orchRoutesRow]) (by simp [Rows.orchRoutesRow])
  have hW' := hW
  obtain ⟨p, q, hA0, hV, _, _, _⟩ := hW
  have hA : DataW.TrodAll enc Tryz.prog W 0 (fun _ => true) true Tryz.f5.params.toList args.toList ds p := hA0
  clear hA0
  rw [Tryz.params5] at hA hval
  obtain ⟨rfl, _⟩ := trodVars_none hV
  obtain ⟨v0, vs0, d0, ds0, p0, q0, e0, rfl, _, h0, r0⟩ := trodAll_cons hA
  obtain ⟨v1, vs1, d1, ds1, p1, q1, e1, rfl, _, h1, r1⟩ := trodAll_cons r0
  subst e1
  obtain ⟨e2, rfl, _⟩ := trodAll_nil r1
  subst e2
  obtain rfl : args = #[v0, v1] := by cases args; exact congrArg Array.mk e0
  obtain ⟨sa0, sl0, sc0, rfl, r0z, c0, m0, k0⟩ := moves_arg (hval 0 22 v0 rfl rfl) h0
  obtain ⟨cs1, rfl, _⟩ := okWide_struct Tryz.underlying46 (hval 1 46 v1 rfl rfl)
  obtain ⟨fu1, h1⟩ := h1
  obtain ⟨x1, y1, hc1, k1, n1⟩ := move_cells h1
  obtain rfl : cs1 = #[.int .u8 (x1 : Nat), .int .u16 (y1 : Nat)] := by cases cs1; exact congrArg Array.mk hc1
  refine (Pu.calls (pu_of_gl hh0 hh1 (orchRoutes1005 hko r0z c0 m0 k0 k1 n1))).mono fun e W' ⟨he, hb⟩ => ?_
  subst he
  exact ⟨_, rfl, law_post laidOut Tryz.underlying4 (by kernel_rfl) rfl rfl hW' rfl hb⟩
theorem lifted5 (os : Os) (started : os.Started) (H : Type) (enc : TypeId × Value → H) :
    ReturnsInHanded {} Tryz.checked os 5 .any (fun w args => (Rows.orchRoutesSpec.pre enc Tryz.prog Tryz.f5 Rows.orchRoutesRow.domain false w args ∧ laidMetH Tryz.prog Rows.orchRoutesRow.laid w) ∧ sizedMet enc Tryz.prog Tryz.f5 (OpenSpec.ofChange Rows.orchRoutesSpec) false w args)
      (Rows.orchRoutesSpec.post enc Tryz.prog Tryz.f5 false true false false) := by
  refine returnsInHanded_of_change_and (C := Tryz.checked) (X := fun w _ => laidMetH Tryz.prog Rows.orchRoutesRow.laid w) (fun _ _ _ hh h => h.of_heap hh) own started (by kernel_rfl) Tryz.func5
    (ChangeSpec.witness_shaped (enc := enc) (C := Tryz.checked) (os := os) (X := fun w _ => laidMetH Tryz.prog Rows.orchRoutesRow.laid w) false (witW5 os) #[.slice none 0 0, .agg #[.int .u8 0, .int .u16 0]] 8 (World.laidAll_os _ _ _)
      (shaped5 os) (by kernel_rfl) (by kernel_rfl) (by kernel_rfl)
      (metAll5 os _)) ?_
  intro W base args ds gs before hval0 hW _ _ hL _
  exact contract5 H enc W base args ds gs before hval0 hW hL
end Go.Proofs.YtjkmpaggfbghiaaGreatDoor

namespace Go.Proofs.YtjkmpaggfbghiaaGreatDoor
open Go Go.X Go.ChangeShapes Go.WideShapes Go.RowKit
set_option maxRecDepth 1000000
theorem facts5 : joinedFacts Tryz.pinned.checked.prog 5 Tryz.f5 Rows.orchRoutesSpec Rows.orchRoutesRow = true := by
  unfold joinedFacts
  repeat' (with_reducible refine and_t ?_ ?_)
  all_goals (as_aux_lemma => kernel_rfl)
end Go.Proofs.YtjkmpaggfbghiaaGreatDoor

namespace Go.Proofs.YtjkmpaggfbghiaaGreatDoor
open Go Go.X Go.ChangeShapes Go.WideShapes Go.RowKit
set_option maxRecDepth 1000000
theorem said5 : Rows.OrchRoutesSaid :=
  OpenClaim.holds_of_wide 5 Tryz.f5 rfl rfl rfl rfl rfl rfl rfl ⟨rfl, rfl, rfl, rfl, rfl⟩ rfl rfl rfl rfl rfl (by as_aux_lemma => kernel_rfl) Tryz.func5 facts5
    (of_decide_eq_true (by kernel_rfl)) (by unfold Func.isWrapper; first | (rw [if_pos (by decide +kernel)]; kernel_rfl) | (rw [if_neg (by decide +kernel)]; exact ⟨rfl, rfl⟩))
    (fun os started H enc _ => lifted5 os started H enc)
end Go.Proofs.YtjkmpaggfbghiaaGreatDoor
