/- Contracts and lemmas for the claim (part 14); no condition of its own. -/
import Derived.Test.YtjkmpaggfbghiaaGreatDoorYQC1013
import Derived.Test.YtjkmpaggfbghiaaGreatDoorYQC1006
import Derived.Test.YtjkmpaggfbghiaaGreatDoorYQC1000
import Derived.Test.YtjkmpaggfbghiaaGreatDoorCards
import Derived.Test.YtjkmpaggfbghiaaGreatDoorTie
import Derived.ProofKit
import Derived.OpenShut
import Derived.Lay
import Derived.LaidMore
import Derived.LaidHandle
import Derived.Carry
import Derived.MakeChecks
import Derived.Deep.DeepHandedRow
import Derived.ChangeMaps5
import Derived.ChangeSlices
set_option linter.all false
set_option maxRecDepth 100000
set_option maxHeartbeats 0
set_option linter.unusedVariables false
set_option linter.unusedSimpArgs false
set_option linter.unnecessarySimpa false
namespace Go.Proofs.YtjkmpaggfbghiaaGreatDoor
open Go Go.X
theorem _root_.Go.X.HSub.addSlL {i e k : Nat} {L' L : List Blk} (h : HSub L' L) : HSub (L' ++ [.ext i (SlA e k Option.none 0 0 [])]) L :=
  HSub.trans (HSub.perm List.perm_append_comm) (HSub.addSl (i := i) (e := e) (k := k) h)
theorem flat_len {α : Type} {g : α → List Value} {k : Nat} (hg : ∀ x, (g x).length = k) (l : List α) : (l.flatMap g).length = l.length * k := by
  induction l with
  | nil => simp
  | cons x l ih => rw [List.flatMap_cons, List.length_append, hg, ih, List.length_cons, Nat.add_mul]; omega
theorem def1055 (n : Nat) (hn : n ≤ 65535) (w : World) :
    FrZ Tryz.prog 55 #[.int .u16 (n : Nat)] w emp (fun z : Option Addr × Nat => .agg #[.string (OM.defOf n).name, .int .i64 (OM.defOf n).retries, .int .i64 (OM.defOf n).deadline, .slice z.1 (OM.defOf n).steps.length z.2]) (fun z => dfA (OM.defOf n) z.1 z.2) := by
  obtain ⟨L, hL⟩ : ∃ L, OM.stepsF (n % 4) (n / 4 % 16) (n / 64 % 3) = L := ⟨_, rfl⟩
  have hlen : L.length = 1 + n % 4 := by rw [← hL]; unfold OM.stepsF; simp
  have h4 := Nat.mod_lt n (show 4 > 0 by decide)
  have h16 := Nat.mod_lt (n / 4) (show 16 > 0 by decide)
  have h3 := Nat.mod_lt (n / 64) (show 3 > 0 by decide)
  refine enter_frZ TBok (H := []) emp_foot Tryz.func55 rfl rfl Tryz.ntmps55 [.v (.int .u16 (n : Nat))] rfl rfl ?_
  intro S _ hz9; clear hz9
  conv => whnf
  repeat' (first
 | with_reducible ((first | refine r_seq (fun KS hS => ?_) | (refine hS _ _ ?_; clear hS KS) | refine r_block ?_))
 | ((with_reducible (first | refine r_region ?_ | refine And.intro rfl ?_ | intro b)); conv => whnf)
 | ((with_reducible refine WrapK.i64 ?_ ?_); (focus omega); conv => whnf)
 | ((with_reducible refine RemK.id ?_); refine RemK.eq (by decide) (tm4 _) ?_; conv => whnf)
 | ((with_reducible refine OpK.id ?_); (first | refine OpK.shr rfl rfl rfl (by decide) (sh12 n) ?_ | refine OpK.shr rfl rfl rfl (by decide) (sh10 n) ?_); conv => whnf))
  rename_i b2
  refine r_loop (α := Nat × Option Addr × Nat) (fun z => [(0, .v (.int .u16 (n : Nat))), (2, .loc b2 0 0), (3, .loc b 1 0), (18, .v (.int .i64 (1 + ((n % 4 : Nat) : Int)))), (19, .v (.int .i64 (z.1 : Nat)))])
    (fun z => [.ext 5 (SlA 80 2 z.2.1 z.1 z.2.2 (stepCells (L.take z.1))), .blk 0 b2 [.v (.string ⟨#[]⟩), .v (.int .i64 0), .v (.int .i64 0), .v (.slice none 0 0)] 40, .blk 1 b [.v (.string ⟨#[115]⟩), .v (.int .i64 ((n / 4096 % 4 : Nat) : Int)), .v (.int .i64 ((n / 1024 % 4 * 20 : Nat) : Int)), .v (.slice z.2.1 z.1 z.2.2)] 40])
    (fun z => z.1 ≤ 1 + n % 4) (fun z => 1 + n % 4 - z.1) (0, none, 0) (Nat.zero_le _) suG (HSub.addSl seG) ?_
  rintro ⟨k, a, cap⟩ hk KL hL2
  dsimp only at hk ⊢
  by_cases hlt : k < 1 + n % 4
  · have hmul : k * (1 + n / 64 % 3) ≤ 9 := Nat.le_trans (Nat.mul_le_mul (show k ≤ 3 by omega) (show 1 + n / 64 % 3 ≤ 3 by omega)) (by decide)
    have hw : IntKind.i64.wrap (((k : Nat) : Int) * (1 + ((n / 64 % 3 : Nat) : Int))) = ((k * (1 + n / 64 % 3) : Nat) : Int) := by
      rw [show ((k : Nat) : Int) * (1 + ((n / 64 % 3 : Nat) : Int)) = ((k * (1 + n / 64 % 3) : Nat) : Int) by push_cast; rfl]
      exact IntWalk.i64_in _ (by omega)
    have hx : L[k]? = some ⟨OM.nameB (n / 4 % 16 + k * (1 + n / 64 % 3)), ((1 + k : Nat) : Int)⟩ := by
      rw [← hL]; unfold OM.stepsF
      rw [List.getElem?_map, List.getElem?_range (by omega)]; rfl
    have hsn : stepCells (L.take k) ++ [Value.string (OM.nameB (n / 4 % 16 + k * (1 + n / 64 % 3))), Value.int .i64 ((1 + k : Nat) : Int)] = stepCells (L.take (k + 1)) := flat_snoc (g := fun s : OM.Stp => [Value.string s.key, Value.int .i64 s.delta]) hx
    have hnm1022 := fun w => name1022 (n / 4 % 16 + k * (1 + n / 64 % 3)) (by omega) w
    repeat' (first
 | with_reducible refine r_stopE 5 ?_
 | with_reducible ((first | refine r_seq (fun KS hS => ?_) | (refine hS _ _ ?_; clear hS KS) | (refine hA _ ?_; clear hA KA) | refine r_block ?_))
 | ((with_reducible (first | refine r_region ?_ | refine r_cond (fun KA hA KB hB => ?_) | refine r_skip ?_)); conv => whnf)
 | (refine if_decT (by omega) ?_; conv => whnf)
 | with_reducible apply_assumption -symm -exfalso)
    refine StopR.mk ?_
    refine r_par (β := Nat) (id := 5) [nq 0 [] (.loc b 1 3), nq 1 [0] (.v (.slice a k cap)), nq 2 [] (.v (.int .u16 ((n : Nat) : Int))), nq 3 [2] (.v (.int .u16 ((n / 4 : Nat) : Int))), nq 4 [3] (.v (.int .u16 ((n / 4 % 16 : Nat) : Int))), nq 5 [4] (.v (.int .i64 ((n / 4 % 16 : Nat) : Int))), nq 6 [] (.v (.int .i64 ((k : Nat) : Int))), nq 7 [] (.v (.int .u16 ((n : Nat) : Int))), nq 8 [7] (.v (.int .u16 ((n / 64 : Nat) : Int))), nq 9 [8] (.v (.int .u16 ((n / 64 % 3 : Nat) : Int))), nq 10 [9] (.v (.int .i64 ((n / 64 % 3 : Nat) : Int))), nq 11 [10] (.v (.int .i64 ((1 + n / 64 % 3 : Nat) : Int))), nq 12 [6, 11] (.v (.int .i64 ((k * (1 + n / 64 % 3) : Nat) : Int))), nq 13 [5, 12] (.v (.int .i64 ((n / 4 % 16 + k * (1 + n / 64 % 3) : Nat) : Int))), nq 14 [13] (.v (.string (OM.nameB (n / 4 % 16 + k * (1 + n / 64 % 3))))), nq 15 [] (.v (.int .i64 ((k : Nat) : Int))), nq 16 [15] (.v (.int .i64 ((1 + k : Nat) : Int))), nq 17 [14, 16] (.agg [.v (.string (OM.nameB (n / 4 % 16 + k * (1 + n / 64 % 3)))), .v (.int .i64 ((1 + k : Nat) : Int))]), ⟨18, [17], none, fun _ q2 => .slc q2 90 0 1 1, fun _ q2 => [.blk 90 q2 [.v (.string (OM.nameB (n / 4 % 16 + k * (1 + n / 64 % 3)))), .v (.int .i64 ((1 + k : Nat) : Int))] 80]⟩] [] 3 _ mixed (by kernel_rfl) (by kernel_rfl) (HSub.refl _) ?_ ?_
    · conv => whnf
      repeat' (first | ((with_reducible refine And.intro ?_ ?_); all_goals (conv => whnf)) | ((with_reducible intro zz AA KP hP); conv => whnf))
      repeat' (first
 | ((with_reducible intro b); conv => whnf)
 | ((with_reducible refine WrapK.i64 ?_ ?_); (focus omega); conv => whnf)
 | ((with_reducible refine RemK.id ?_); (first | refine RemK.eq (by decide) (tm16 _) ?_ | refine RemK.eq (by decide) (tm3 _) ?_); conv => whnf)
 | ((with_reducible refine OpK.id ?_); (first | refine OpK.shr rfl rfl rfl (by decide) (sh2 n) ?_ | refine OpK.shr rfl rfl rfl (by decide) (sh6 n) ?_); conv => whnf)
 | ((with_reducible refine CallK.at 22 ?_); refine CallK.pu (fun w => hnm1022 w) ?_; conv => whnf)
 | ((with_reducible apply hP); all_goals (first | exact (0 : Nat) | ((repeat' (first | exact SubD.nil | (refine SubD.cons rfl rfl ?_))); done) | exact seZ)))
    conv => whnf
    intro zz
    conv => whnf
    try dsimp only
    repeat' (first
 | with_reducible (refine hS _ _ ?_; clear hS KS)
 | ((with_reducible (first | refine r_region ?_ | refine And.intro rfl ?_)); conv => whnf)
 | ((with_reducible refine WrapK.i64 ?_ ?_); (focus omega); conv => whnf)
 | ((with_reducible refine OpK.id ?_); refine OpK.app (k := 2) rfl rfl rfl rfl rfl rfl rfl rfl atG (SrcK.slc rfl rfl lmG (Nat.le_refl _) rfl) (big_ok (by omega) (by decide)) (fun a' cap' => ?_); conv => whnf)
 | (refine hL2 (k + 1, a', cap') _ _ (by show k + 1 ≤ 1 + n % 4; omega) (by show 1 + n % 4 - (k + 1) < 1 + n % 4 - k; omega) suG (HSub.trans (HSub.ext (i := 5) (j := 5) (B := SlA 80 2 a' (k + 1) cap' (stepCells (L.take k) ++ [Value.string (OM.nameB (n / 4 % 16 + k * (1 + n / 64 % 3))), Value.int .i64 ((1 + k : Nat) : Int)])) (fun w S h => by rw [hsn] at h; exact h) (HSub.refl _)) seG))
 | ((with_reducible ((first | refine InAt.mk (fun K' hK => ?_) | refine AnyAt.mk (fun K' hK => ?_) | (refine hK _ ?_; clear hK K') | (refine hK _ _ ?_; clear hK K')))); conv => whnf))
  · obtain rfl : k = 1 + n % 4 := by omega
    repeat' (first
 | with_reducible ((first | refine r_seq (fun KS hS => ?_) | (refine hS _ _ ?_; clear hS KS) | (refine hB _ ?_; clear hB KB)))
 | ((with_reducible (first | refine r_region ?_ | refine r_cond (fun KA hA KB hB => ?_) | refine r_ret ?_ | refine r_exit ?_ | refine And.intro rfl ?_)); conv => whnf)
 | (refine if_decF (by omega) ?_; conv => whnf)
 | with_reducible apply_assumption -symm -exfalso)
    have hst : (OM.defOf n).steps = L := hL
    have htk : L.take (1 + n % 4) = L := List.take_of_length_le (by omega)
    rw [htk]
    exact FinK.frZ (i := 5) (a, cap) (by rw [hst, hlen]; rfl) (HSub.trans (HSub.ext (i := 5) (j := 5) (fun w S h => by show (SlA 80 2 a (OM.defOf n).steps.length cap (stepCells (OM.defOf n).steps)).holds w S; rw [hst, hlen]; exact h) HSub.nil) seG)
theorem it_at {l : List OM.Item} {i : Nat} {x : OM.Item} (h : l[i]? = some x) : ((l.flatMap itC).drop ((i : Int).toNat * 6)).take 6 = denL (itV x) := flat_at (k := 6) (fun _ => rfl) h
theorem items_le {o : OM.St} (h : OM.Inv o) : o.items.length ≤ 1000 := by
  have := wanted_le h
  unfold OM.St.items
  rw [List.length_map]
  omega
theorem command1018 {d : Nat} {o : OM.St} {kd n : Nat} {o0 o1 : Obj} (hko : KObj o0 o1) (hI : OM.Inv o) (hkd : kd ≤ 255) (hn : n ≤ 65535) (w : World) :
    FrZ Tryz.prog 18 #[.agg #[.int .u8 (kd : Nat), .int .u16 (n : Nat)], pv d] w (AssL [.ext 12 (OrchA d o), .ext 9 (GlA o0 o1)])
      (fun z : {z : Option Addr × Nat // (OM.cmdOf o kd n).kind ≠ 11 → z = (none, 0)} => .agg (denL (cmV (OM.cmdOf o kd n) z.1.1 (OM.cmdOf o kd n).d.steps.length z.1.2)).toArray) (fun z => AssL [.ext 12 (OrchA d o), .ext 9 (GlA o0 o1), .ext 8 (dfA (OM.cmdOf o kd n).d z.1.1 z.1.2)]) := by
  have hK := Nat.mod_lt kd (show 32 > 0 by decide)
  have hid := Nat.mod_lt n (show 12 > 0 by decide)
  have hgrp := Nat.mod_lt (n / 512) (show 3 > 0 by decide)
  obtain ⟨C, hc⟩ : ∃ C, OM.cmdOf o kd n = C := ⟨_, rfl⟩
  rw [hc]
  unfold OM.cmdOf at hc
  by_cases h1 : kd % 32 < 6
  · rw [if_pos h1] at hc
    subst hc
    refine enter_frZ TBok (H := [.ext 12 (OrchA d o), .ext 9 (GlA o0 o1)]) all_foot Tryz.func18 rfl rfl Tryz.ntmps18 [.agg [.v (.int .u8 (kd : Nat)), .v (.int .u16 (n : Nat))], .loc d 0 0] rfl rfl ?_
    intro S hz8 hz9
    clear hz8 hz9
    conv => whnf
    repeat' (first
 | with_reducible ((first | refine r_seq (fun KS hS => ?_) | (refine hS _ _ ?_; clear hS KS) | (refine hA _ ?_; clear hA KA) | refine r_block ?_))
 | ((with_reducible (first | refine r_region ?_ | refine r_cond (fun KA hA KB hB => ?_) | refine r_ret ?_ | refine And.intro rfl ?_ | intro b)); conv => whnf)
 | ((with_reducible refine WrapK.i64 ?_ ?_); (focus omega); conv => whnf)
 | ((with_reducible refine RemK.id ?_); (first | refine RemK.eq (by decide) (tm12 n) ?_ | refine RemK.eq (by decide) (tm32 kd) ?_); conv => whnf)
 | ((with_reducible refine CallK.id ?_); refine CallK.fresh (fun ms w hk => def1055 n hn w) ?_; conv => whnf)
 | (refine if_decT (by omega) ?_; conv => whnf))
    exact FinK.frZL ⟨b, fun h => absurd rfl h⟩ rfl seG
  rw [if_neg h1] at hc
  by_cases h2 : kd % 32 = 6
  · rw [if_pos h2] at hc
    subst hc
    refine enter_frZ TBok (H := [.ext 12 (OrchA d o), .ext 9 (GlA o0 o1)]) all_foot Tryz.func18 rfl rfl Tryz.ntmps18 [.agg [.v (.int .u8 (kd : Nat)), .v (.int .u16 (n : Nat))], .loc d 0 0] rfl rfl ?_
    intro S hz8 hz9
    clear hz8 hz9
    conv => whnf
    repeat' (first
 | with_reducible ((first | refine r_seq (fun KS hS => ?_) | (refine hS _ _ ?_; clear hS KS) | (refine hA _ ?_; clear hA KA) | (refine hB _ ?_; clear hB KB) | refine r_block ?_))
 | ((with_reducible (first | refine r_region ?_ | refine r_cond (fun KA hA KB hB => ?_) | refine r_ret ?_ | refine And.intro rfl ?_ | intro b)); conv => whnf)
 | ((with_reducible refine WrapK.i64 ?_ ?_); (focus omega); conv => whnf)
 | ((with_reducible refine RemK.id ?_); (first | refine RemK.eq (by decide) (tm12 n) ?_ | refine RemK.eq (by decide) (tm32 kd) ?_); conv => whnf)
 | ((first | refine if_decT (by omega) ?_ | refine if_decF (by omega) ?_); conv => whnf))
    exact FinK.frZL ⟨(none, 0), fun _ => rfl⟩ rfl (HSub.addSlL (L' := [.ext 12 (OrchA d o), .ext 9 (GlA o0 o1)]) seG)
  rw [if_neg h2] at hc
  by_cases h3 : kd % 32 = 7
  · rw [if_pos h3] at hc
    subst hc
    refine enter_frZ TBok (H := [.ext 12 (OrchA d o), .ext 9 (GlA o0 o1)]) all_foot Tryz.func18 rfl rfl Tryz.ntmps18 [.agg [.v (.int .u8 (kd : Nat)), .v (.int .u16 (n : Nat))], .loc d 0 0] rfl rfl ?_
    intro S hz8 hz9
    clear hz8 hz9
    conv => whnf
    repeat' (first
 | with_reducible ((first | refine r_seq (fun KS hS => ?_) | (refine hS _ _ ?_; clear hS KS) | (refine hA _ ?_; clear hA KA) | (refine hB _ ?_; clear hB KB) | refine r_block ?_))
 | ((with_reducible (first | refine r_region ?_ | refine r_cond (fun KA hA KB hB => ?_) | refine r_ret ?_ | refine And.intro rfl ?_ | intro b)); conv => whnf)
 | ((with_reducible refine WrapK.i64 ?_ ?_); (focus omega); conv => whnf)
 | ((with_reducible refine RemK.id ?_); (first | refine RemK.eq (by decide) (tm12 n) ?_ | refine RemK.eq (by decide) (tm32 kd) ?_); conv => whnf)
 | ((first | refine if_decT (by omega) ?_ | refine if_decF (by omega) ?_); conv => whnf))
    exact FinK.frZL ⟨(none, 0), fun _ => rfl⟩ rfl (HSub.addSlL (L' := [.ext 12 (OrchA d o), .ext 9 (GlA o0 o1)]) seG)
  rw [if_neg h3] at hc
  by_cases h4 : kd % 32 < 11
  · rw [if_pos h4] at hc
    have hn1 := fun w => name1022 n (by omega) w
    have hn2 := fun w => name1022 (n / 16 + 1) (by omega) w
    unfold OM.rgB OM.toB at hc
    by_cases ht : ltS (OM.nameB n) (OM.nameB (n / 16 + 1)) = true
    · rw [if_pos ht] at hc
      subst hc
      refine enter_frZ TBok (H := [.ext 12 (OrchA d o), .ext 9 (GlA o0 o1)]) all_foot Tryz.func18 rfl rfl Tryz.ntmps18 [.agg [.v (.int .u8 (kd : Nat)), .v (.int .u16 (n : Nat))], .loc d 0 0] rfl rfl ?_
      intro S hz8 hz9
      clear hz8 hz9
      conv => whnf
      repeat' (first
 | with_reducible ((first | refine r_seq (fun KS hS => ?_) | (refine hS _ _ ?_; clear hS KS) | (refine hA _ ?_; clear hA KA) | (refine hB _ ?_; clear hB KB) | refine r_block ?_))
 | ((with_reducible (first | refine r_region ?_ | refine r_cond (fun KA hA KB hB => ?_) | refine r_ret ?_ | refine And.intro rfl ?_ | intro b)); conv => whnf)
 | ((with_reducible refine WrapK.i64 ?_ ?_); (focus omega); conv => whnf)
 | ((with_reducible refine RemK.id ?_); (first | refine RemK.eq (by decide) (tm12 n) ?_ | refine RemK.eq (by decide) (tm3 _) ?_ | refine RemK.eq (by decide) (tm32 kd) ?_); conv => whnf)
 | ((with_reducible refine OpK.id ?_); (first | refine OpK.shr rfl rfl rfl (by decide) (sh4 n) ?_ | refine OpK.shr rfl rfl rfl (by decide) (sh9 n) ?_); conv => whnf)
 | ((with_reducible refine CallK.at 22 ?_); (first | refine CallK.pu (fun w => name1022 n (by omega) w) ?_ | refine CallK.pu (fun w => name1022 (n / 16 + 1) (by omega) w) ?_); conv => whnf)
 | ((with_reducible refine OpK.id ?_); refine OpK.gtS rfl rfl rfl ?_; rw [ht]; conv => whnf)
 | ((first | refine if_decT (by omega) ?_ | refine if_decF (by omega) ?_); conv => whnf)
 | with_reducible apply_assumption -symm -exfalso)
      exact FinK.frZL ⟨(none, 0), fun _ => rfl⟩ rfl (HSub.addSlL (L' := [.ext 12 (OrchA d o), .ext 9 (GlA o0 o1)]) seG)
    · rw [if_neg ht] at hc
      have ht : ltS (OM.nameB n) (OM.nameB (n / 16 + 1)) = false := by simpa using ht
      subst hc
      refine enter_frZ TBok (H := [.ext 12 (OrchA d o), .ext 9 (GlA o0 o1)]) all_foot Tryz.func18 rfl rfl Tryz.ntmps18 [.agg [.v (.int .u8 (kd : Nat)), .v (.int .u16 (n : Nat))], .loc d 0 0] rfl rfl ?_
      intro S hz8 hz9
      clear hz8 hz9
      conv => whnf
      repeat' (first
 | with_reducible ((first | refine r_seq (fun KS hS => ?_) | (refine hS _ _ ?_; clear hS KS) | (refine hA _ ?_; clear hA KA) | (refine hB _ ?_; clear hB KB) | refine r_block ?_))
 | ((with_reducible (first | refine r_region ?_ | refine r_cond (fun KA hA KB hB => ?_) | refine r_ret ?_ | refine r_skip ?_ | refine And.intro rfl ?_ | intro b)); conv => whnf)
 | ((with_reducible refine WrapK.i64 ?_ ?_); (focus omega); conv => whnf)
 | ((with_reducible refine RemK.id ?_); (first | refine RemK.eq (by decide) (tm12 n) ?_ | refine RemK.eq (by decide) (tm3 _) ?_ | refine RemK.eq (by decide) (tm32 kd) ?_); conv => whnf)
 | ((with_reducible refine OpK.id ?_); (first | refine OpK.shr rfl rfl rfl (by decide) (sh4 n) ?_ | refine OpK.shr rfl rfl rfl (by decide) (sh9 n) ?_); conv => whnf)
 | ((with_reducible refine CallK.at 22 ?_); (first | refine CallK.pu (fun w => name1022 n (by omega) w) ?_ | refine CallK.pu (fun w => name1022 (n / 16 + 1) (by omega) w) ?_); conv => whnf)
 | ((with_reducible refine OpK.id ?_); refine OpK.gtS rfl rfl rfl ?_; rw [ht]; conv => whnf)
 | ((first | refine if_decT (by omega) ?_ | refine if_decF (by omega) ?_); conv => whnf)
 | with_reducible apply_assumption -symm -exfalso)
      exact FinK.frZL ⟨(none, 0), fun _ => rfl⟩ rfl (HSub.addSlL (L' := [.ext 12 (OrchA d o), .ext 9 (GlA o0 o1)]) seG)
  rw [if_neg h4] at hc
  by_cases he : o.items.length = 0
  · rw [List.getElem?_eq_none (by omega)] at hc
    subst hc
    refine enter_frZ TBok (H := [.ext 12 (OrchA d o), .ext 9 (GlA o0 o1)]) all_foot Tryz.func18 rfl rfl Tryz.ntmps18 [.agg [.v (.int .u8 (kd : Nat)), .v (.int .u16 (n : Nat))], .loc d 0 0] rfl rfl ?_
    intro S hz8 hz9
    clear hz8 hz9
    conv => whnf
    repeat' (first
 | with_reducible ((first | refine r_seq (fun KS hS => ?_) | (refine hS _ _ ?_; clear hS KS) | (refine hA _ ?_; clear hA KA) | (refine hB _ ?_; clear hB KB) | refine r_block ?_))
 | ((with_reducible (first | refine r_region ?_ | refine r_cond (fun KA hA KB hB => ?_) | refine r_ret ?_ | refine And.intro rfl ?_ | intro b)); conv => whnf)
 | ((with_reducible refine WrapK.i64 ?_ ?_); (focus omega); conv => whnf)
 | ((with_reducible refine RemK.id ?_); (first | refine RemK.eq (by decide) (tm12 n) ?_ | refine RemK.eq (by decide) (tm32 kd) ?_); conv => whnf)
 | ((with_reducible refine CallK.id ?_); refine CallK.s2 rmG rmG (fun ms w hk => items1012 hko hI w) ?_; conv => whnf)
 | ((first | refine if_decT (by omega) ?_ | refine if_decF (by omega) ?_); conv => whnf))
    exact FinK.frZL ⟨(none, 0), fun _ => rfl⟩ rfl (HSub.addSlL (L' := [.ext 12 (OrchA d o), .ext 9 (GlA o0 o1)]) seG)
  have hnl : n % o.items.length < o.items.length := Nat.mod_lt _ (by omega)
  obtain ⟨x, hx⟩ : ∃ x, o.items[n % o.items.length]? = some x := ⟨_, List.getElem?_eq_getElem hnl⟩
  rw [hx] at hc
  dsimp only at hc
  have hil := items_le hI
  by_cases h5 : kd % 32 ≤ 24
  · have hr0 : OM.resOf (kd % 32) = 0 := by
      have : ∀ k : Fin 25, OM.resOf k.val = 0 := by decide
      exact this ⟨kd % 32, by omega⟩
    rw [hr0] at hc
    subst hc
    refine enter_frZ TBok (H := [.ext 12 (OrchA d o), .ext 9 (GlA o0 o1)]) all_foot Tryz.func18 rfl rfl Tryz.ntmps18 [.agg [.v (.int .u8 (kd : Nat)), .v (.int .u16 (n : Nat))], .loc d 0 0] rfl rfl ?_
    intro S hz8 hz9
    clear hz8 hz9
    conv => whnf
    repeat' (first
 | with_reducible ((first | refine r_seq (fun KS hS => ?_) | (refine hS _ _ ?_; clear hS KS) | (refine hB _ ?_; clear hB KB) | refine r_block ?_))
 | ((with_reducible (first | refine r_region ?_ | refine r_cond (fun KA hA KB hB => ?_) | refine r_ret ?_ | refine r_skip ?_ | refine And.intro rfl ?_ | intro b)); conv => whnf)
 | ((with_reducible refine WrapK.i64 ?_ ?_); (focus omega); conv => whnf)
 | ((with_reducible refine RemK.id ?_); (first | refine RemK.eq (by omega) (tmN n o.items.length) ?_ | refine RemK.eq (by decide) (tm12 n) ?_ | refine RemK.eq (by decide) (tm32 kd) ?_); conv => whnf)
 | ((with_reducible refine CallK.id ?_); refine CallK.s2 rmG rmG (fun ms w hk => items1012 hko hI w) ?_; conv => whnf)
 | ((with_reducible refine OpK.id ?_); (first | refine OpK.idx (k := 6) rfl rfl rfl rfl rfl rfl rfl (Sees.ext atG) (by omega) (by omega) (it_at hx) (fun b off hp => ?_) | refine OpK.ldp rfl rfl hp (List.cons_ne_nil _ _) ?_); conv => whnf)
 | ((with_reducible refine CallK.at 15 ?_); refine CallK.pu (fun w => result1015 x 0 OM.dataS w) ?_; conv => whnf)
 | (refine if_decF (by omega) ?_; conv => whnf)
 | with_reducible apply_assumption -symm -exfalso)
    exact FinK.frZL ⟨(none, 0), fun _ => rfl⟩ rfl (HSub.addSlL (L' := [.ext 12 (OrchA d o), .ext 9 (GlA o0 o1)]) seG)
  obtain ⟨q, hq⟩ : ∃ q, kd % 32 = q := ⟨_, rfl⟩
  have hrem : ((kd : Nat) : Int).tmod 32 = ((q : Nat) : Int) := by rw [tm32, hq]
  rw [hq] at hc
  have hq2 : q = 25 ∨ q = 26 ∨ q = 27 ∨ q = 28 ∨ q = 29 ∨ q = 30 ∨ q = 31 := by omega
  clear hq h1 h2 h3 h4 h5 hK
  rcases hq2 with rfl | rfl | rfl | rfl | rfl | rfl | rfl
  all_goals subst hc
  all_goals (
    refine enter_frZ TBok (H := [.ext 12 (OrchA d o), .ext 9 (GlA o0 o1)]) all_foot Tryz.func18 rfl rfl Tryz.ntmps18 [.agg [.v (.int .u8 (kd : Nat)), .v (.int .u16 (n : Nat))], .loc d 0 0] rfl rfl ?_
    intro S hz8 hz9
    clear hz8 hz9
    conv => whnf
    repeat' (first
 | with_reducible ((first | refine r_seq (fun KS hS => ?_) | (refine hS _ _ ?_; clear hS KS) | (refine hA _ ?_; clear hA KA) | (refine hB _ ?_; clear hB KB) | refine r_block ?_))
 | ((with_reducible (first | refine r_region ?_ | refine r_cond (fun KA hA KB hB => ?_) | refine r_ret ?_ | refine r_skip ?_ | refine And.intro rfl ?_ | intro b)); conv => whnf)
 | ((with_reducible refine WrapK.i64 ?_ ?_); (focus omega); conv => whnf)
 | ((with_reducible refine WrapK.id ?_); (first | refine WrapK.eq (z' := 0) (by decide) ?_ | refine WrapK.eq (z' := 1) (by decide) ?_ | refine WrapK.eq (z' := 2) (by decide) ?_ | refine WrapK.eq (z' := 3) (by decide) ?_ | refine WrapK.eq (z' := 4) (by decide) ?_ | refine WrapK.eq (z' := 5) (by decide) ?_ | refine WrapK.eq (z' := 6) (by decide) ?_); conv => whnf)
 | ((with_reducible refine RemK.id ?_); (first | refine RemK.eq (by omega) (tmN n o.items.length) ?_ | refine RemK.eq (by decide) (tm12 n) ?_ | refine RemK.eq (by decide) hrem ?_); conv => whnf)
 | ((with_reducible refine CallK.id ?_); refine CallK.s2 rmG rmG (fun ms w hk => items1012 hko hI w) ?_; conv => whnf)
 | ((with_reducible refine OpK.id ?_); (first | refine OpK.idx (k := 6) rfl rfl rfl rfl rfl rfl rfl (Sees.ext atG) (by omega) (by omega) (it_at hx) (fun b off hp => ?_) | refine OpK.ldp rfl rfl hp (List.cons_ne_nil _ _) ?_); conv => whnf)
 | ((with_reducible refine CallK.at 15 ?_); refine CallK.pu (fun w => result1015 x _ OM.dataS w) ?_; conv => whnf)
 | ((with_reducible apply OpK.more); (focus refine sok); (conv => whnf); fail_if_success guard_target =ₛ False)
 | (refine if_decF (by omega) ?_; conv => whnf)
 | with_reducible apply_assumption -symm -exfalso)
    exact FinK.frZL ⟨(none, 0), fun _ => rfl⟩ rfl (HSub.addSlL (L' := [.ext 12 (OrchA d o), .ext 9 (GlA o0 o1)]) seG))
theorem apply1014 {d : Nat} {o : OM.St} {c : OM.Cmd} {a : Option Addr} {cap : Nat} {o0 o1 : Obj} (hko : KObj o0 o1) (hI : OM.Inv o) (hok : c.ok = true) (ha : c.kind ≠ 11 → (a, cap) = (none, 0)) (w : World) :
    Fr Tryz.prog 14 #[pv d, .agg (denL (cmV c a c.d.steps.length cap)).toArray] w (AssL [.ext 12 (OrchA d o), .ext 9 (GlA o0 o1), .ext 8 (dfA c.d a cap)]) (rpV (o.apply c).2) (AssL [.ext 12 (OrchA d (o.apply c).1), .ext 9 (GlA o0 o1), .ext 8 (dfA c.d a cap)]) := by
  have hdn0 := hI.dn
  cases OM.ok_cases hok with
  | noop =>
    have hdx : o.dox OM.zCmd = (o, ⟨0, 0⟩) := OM.dox_noop o
    have hdn := OM.dox_done o OM.zCmd
    obtain ⟨hd1, hd2⟩ := hdn
    unfold OM.St.apply
    rw [hdx] at hd1 hd2 ⊢
    cases ha (by show (0 : Int) ≠ 11; decide)
    refine enter_fr TBok (H := [.ext 12 (OrchA d o), .ext 9 (GlA o0 o1), .ext 8 (dfA OM.zDef none 0)]) all_foot Tryz.func14 rfl rfl Tryz.ntmps14 [.loc d 0 0, .agg (cmV OM.zCmd none 0 0)] rfl rfl ?_
    intro S
    conv => whnf
    repeat' (first
 | with_reducible refine r_stop 7 ?_
 | with_reducible ((first | refine r_seq (fun KS hS => ?_) | (refine hS _ _ ?_; clear hS KS) | (refine hA _ ?_; clear hA KA) | (refine hB _ ?_; clear hB KB)))
 | ((with_reducible (first | refine r_region ?_ | refine r_cond (fun KA hA KB hB => ?_) | refine r_skip ?_ | refine And.intro rfl ?_ | intro b)); conv => whnf)
 | ((with_reducible refine CallK.id ?_); refine CallK.s1V rmG (fun ms w hk => made1041 (by have := hI.gr; omega) w) ?_; conv => whnf)
 | ((with_reducible refine OpK.id ?_); refine OpK.mkMK rfl ?_; conv => whnf)
 | ((with_reducible refine OpK.id ?_); (first | refine OpK.inK rfl rfl rfl rfl rfl rfl rfl rfl atG ⟨by decide, by decide⟩ ?_ | refine OpK.lkV (s := .fn 47 []) rfl rfl rfl rfl rfl rfl rfl rfl (SeesM.ext atG) rfl ?_); conv => whnf)
 | ((with_reducible refine CallK.at 46 ?_); refine CallK.pu (fun w => refuse1046 w) ?_; conv => whnf)
 | ((with_reducible refine CallK.at 53 ?_); refine CallK.pu (fun w => ckNoop1053 w) ?_; conv => whnf)
 | ((with_reducible refine CallK.at 47 ?_); refine CallK.pu (fun w => noop1047 (c := OM.zCmd) w) ?_; conv => whnf)
 | ((with_reducible apply OpK.more); (focus refine sok); (conv => whnf); fail_if_success guard_target =ₛ False)
 | with_reducible apply_assumption -symm -exfalso)
    refine StopR.mk ?_
    refine Run.ex (A := orH d o) (i := 12) rmG ?_
    rintro ⟨t1, t2, t3⟩
    dsimp only [orH, layF]
    repeat' (first
 | with_reducible ((first | refine r_seq (fun KS hS => ?_) | (refine hS _ _ ?_; clear hS KS)))
 | ((with_reducible (first | refine r_region ?_ | refine r_ret ?_ | refine And.intro rfl ?_)); conv => whnf)
 | ((with_reducible refine WrapK.i64 ?_ ?_); (focus omega); conv => whnf)
 | ((with_reducible refine OpK.id ?_); refine OpK.minI rfl rfl rfl ?_; conv => whnf))
    all_goals exact FinK.frL rfl (HSub.trans (HSub.app2 (A' := [.ext 12 (OrchA d { o with done := min (o.done + 1) 1099511627776 })]) (or_id (i := 0) (j := 1) (k := 2) (l := 3) (d := d) (s := { o with done := min (o.done + 1) 1099511627776 }) (t1 := t1) (t2 := t2) (t3 := t3)) (HSub.refl [.ext 9 (GlA o0 o1), .ext 8 (dfA OM.zDef none 0)])) seG)
  | start x y df hx hy hd =>
    have hdx : o.dox { OM.zCmd with kind := 11, call := x, saga := y, d := df } = o.doStart { OM.zCmd with kind := 11, call := x, saga := y, d := df } := OM.dox_start o x y df hok
    have hdn := OM.dox_done o { OM.zCmd with kind := 11, call := x, saga := y, d := df }
    obtain ⟨hd1, hd2⟩ := hdn
    unfold OM.St.apply
    rw [hdx] at hd1 hd2 ⊢
    have hst1048 := fun w => start1048 (d := d) (a := a) (cap := cap) (c := { OM.zCmd with kind := 11, call := x, saga := y, d := df }) hI hd hy w
    clear hdx
    generalize o.doStart { OM.zCmd with kind := 11, call := x, saga := y, d := df } = X at hst1048 hd1 hd2 ⊢
    obtain ⟨⟨gr, dn, sg, mv, pt⟩, rep⟩ := X
    dsimp only at hst1048 hd1 hd2 ⊢
    subst hd1 hd2
    refine enter_fr TBok (H := [.ext 12 (OrchA d o), .ext 9 (GlA o0 o1), .ext 8 (dfA df a cap)]) all_foot Tryz.func14 rfl rfl Tryz.ntmps14 [.loc d 0 0, .agg (cmV { OM.zCmd with kind := 11, call := x, saga := y, d := df } a df.steps.length cap)] rfl rfl ?_
    intro S
    conv => whnf
    repeat' (first
 | with_reducible refine r_stop 7 ?_
 | with_reducible ((first | refine r_seq (fun KS hS => ?_) | (refine hS _ _ ?_; clear hS KS) | (refine hA _ ?_; clear hA KA) | (refine hB _ ?_; clear hB KB)))
 | ((with_reducible (first | refine r_region ?_ | refine r_cond (fun KA hA KB hB => ?_) | refine r_skip ?_ | refine And.intro rfl ?_ | intro b)); conv => whnf)
 | ((with_reducible refine CallK.id ?_); refine CallK.s1V rmG (fun ms w hk => made1041 (by have := hI.gr; omega) w) ?_; conv => whnf)
 | ((with_reducible refine OpK.id ?_); refine OpK.mkMK rfl ?_; conv => whnf)
 | ((with_reducible refine OpK.id ?_); (first | refine OpK.inK rfl rfl rfl rfl rfl rfl rfl rfl atG ⟨by decide, by decide⟩ ?_ | refine OpK.lkV (s := .fn 48 []) rfl rfl rfl rfl rfl rfl rfl rfl (SeesM.ext atG) rfl ?_); conv => whnf)
 | ((with_reducible refine CallK.at 46 ?_); refine CallK.pu (fun w => refuse1046 w) ?_; conv => whnf)
 | ((with_reducible refine CallK.at 53 ?_); refine CallK.puW (fun ms w hk => ckStart1053 (c := { OM.zCmd with kind := 11, call := x, saga := y, d := df }) hx hy hd (Sees.rd (Sees.ext atG) hk)) ?_; conv => whnf)
 | ((with_reducible refine CallK.id ?_); refine CallK.s2V rmG rmG (fun ms w hk => hst1048 w) ?_; conv => whnf)
 | ((with_reducible apply OpK.more); (focus refine sok); (conv => whnf); fail_if_success guard_target =ₛ False)
 | with_reducible apply_assumption -symm -exfalso)
    refine StopR.mk ?_
    refine Run.ex (A := orH d ⟨o.groups, o.done, sg, mv, pt⟩) (i := 12) rmG ?_
    rintro ⟨t1, t2, t3⟩
    dsimp only [orH, layF]
    repeat' (first
 | with_reducible ((first | refine r_seq (fun KS hS => ?_) | (refine hS _ _ ?_; clear hS KS)))
 | ((with_reducible (first | refine r_region ?_ | refine r_ret ?_ | refine And.intro rfl ?_)); conv => whnf)
 | ((with_reducible refine WrapK.i64 ?_ ?_); (focus omega); conv => whnf)
 | ((with_reducible refine OpK.id ?_); refine OpK.minI rfl rfl rfl ?_; conv => whnf))
    all_goals exact FinK.frL rfl (HSub.trans (HSub.app2 (A' := [.ext 12 (OrchA d ⟨o.groups, min (o.done + 1) 1099511627776, sg, mv, pt⟩)]) (or_id (i := 0) (j := 1) (k := 2) (l := 3) (d := d) (s := ⟨o.groups, min (o.done + 1) 1099511627776, sg, mv, pt⟩) (t1 := t1) (t2 := t2) (t3 := t3)) (HSub.refl [.ext 9 (GlA o0 o1), .ext 8 (dfA df a cap)])) seG)
  | status x y hx hy =>
    have hdx : o.dox { OM.zCmd with kind := 12, call := x, saga := y } = (o, o.told y) := OM.dox_status o x y hok
    have hdn := OM.dox_done o { OM.zCmd with kind := 12, call := x, saga := y }
    obtain ⟨hd1, hd2⟩ := hdn
    unfold OM.St.apply
    rw [hdx] at hd1 hd2 ⊢
    cases ha (by show (12 : Int) ≠ 11; decide)
    have hsu1049 := fun w => status1049 (d := d) (a := none) (n := 0) (cap := 0) (c := { OM.zCmd with kind := 12, call := x, saga := y }) hI w
    refine enter_fr TBok (H := [.ext 12 (OrchA d o), .ext 9 (GlA o0 o1), .ext 8 (dfA OM.zDef none 0)]) all_foot Tryz.func14 rfl rfl Tryz.ntmps14 [.loc d 0 0, .agg (cmV { OM.zCmd with kind := 12, call := x, saga := y } none 0 0)] rfl rfl ?_
    intro S
    conv => whnf
    repeat' (first
 | with_reducible refine r_stop 7 ?_
 | with_reducible ((first | refine r_seq (fun KS hS => ?_) | (refine hS _ _ ?_; clear hS KS) | (refine hA _ ?_; clear hA KA) | (refine hB _ ?_; clear hB KB)))
 | ((with_reducible (first | refine r_region ?_ | refine r_cond (fun KA hA KB hB => ?_) | refine r_skip ?_ | refine And.intro rfl ?_ | intro b)); conv => whnf)
 | ((with_reducible refine CallK.id ?_); refine CallK.s1V rmG (fun ms w hk => made1041 (by have := hI.gr; omega) w) ?_; conv => whnf)
 | ((with_reducible refine OpK.id ?_); refine OpK.mkMK rfl ?_; conv => whnf)
 | ((with_reducible refine OpK.id ?_); (first | refine OpK.inK rfl rfl rfl rfl rfl rfl rfl rfl atG ⟨by decide, by decide⟩ ?_ | refine OpK.lkV (s := .fn 49 []) rfl rfl rfl rfl rfl rfl rfl rfl (SeesM.ext atG) rfl ?_); conv => whnf)
 | ((with_reducible refine CallK.at 46 ?_); refine CallK.pu (fun w => refuse1046 w) ?_; conv => whnf)
 | ((with_reducible refine CallK.at 53 ?_); refine CallK.pu (fun w => ckAskA1053 (c := { OM.zCmd with kind := 12, call := x, saga := y }) hx hy w) ?_; conv => whnf)
 | ((with_reducible refine CallK.id ?_); refine CallK.s1V rmG (fun ms w hk => hsu1049 w) ?_; conv => whnf)
 | ((with_reducible apply OpK.more); (focus refine sok); (conv => whnf); fail_if_success guard_target =ₛ False)
 | with_reducible apply_assumption -symm -exfalso)
    refine StopR.mk ?_
    refine Run.ex (A := orH d o) (i := 12) rmG ?_
    rintro ⟨t1, t2, t3⟩
    dsimp only [orH, layF]
    repeat' (first
 | with_reducible ((first | refine r_seq (fun KS hS => ?_) | (refine hS _ _ ?_; clear hS KS)))
 | ((with_reducible (first | refine r_region ?_ | refine r_ret ?_ | refine And.intro rfl ?_)); conv => whnf)
 | ((with_reducible refine WrapK.i64 ?_ ?_); (focus omega); conv => whnf)
 | ((with_reducible refine OpK.id ?_); refine OpK.minI rfl rfl rfl ?_; conv => whnf))
    all_goals exact FinK.frL rfl (HSub.trans (HSub.app2 (A' := [.ext 12 (OrchA d { o with done := min (o.done + 1) 1099511627776 })]) (or_id (i := 0) (j := 1) (k := 2) (l := 3) (d := d) (s := { o with done := min (o.done + 1) 1099511627776 }) (t1 := t1) (t2 := t2) (t3 := t3)) (HSub.refl [.ext 9 (GlA o0 o1), .ext 8 (dfA OM.zDef none 0)])) seG)
  | cancel x y hx hy =>
    have hdx : o.dox { OM.zCmd with kind := 13, call := x, saga := y } = o.doCancel { OM.zCmd with kind := 13, call := x, saga := y } := OM.dox_cancel o x y hok
    have hdn := OM.dox_done o { OM.zCmd with kind := 13, call := x, saga := y }
    obtain ⟨hd1, hd2⟩ := hdn
    unfold OM.St.apply
    rw [hdx] at hd1 hd2 ⊢
    cases ha (by show (13 : Int) ≠ 11; decide)
    have hca1050 := fun w => cancel1050 (d := d) (a := none) (n := 0) (cap := 0) (c := { OM.zCmd with kind := 13, call := x, saga := y }) hI w
    clear hdx
    generalize o.doCancel { OM.zCmd with kind := 13, call := x, saga := y } = X at hca1050 hd1 hd2 ⊢
    obtain ⟨⟨gr, dn, sg, mv, pt⟩, rep⟩ := X
    dsimp only at hca1050 hd1 hd2 ⊢
    subst hd1 hd2
    refine enter_fr TBok (H := [.ext 12 (OrchA d o), .ext 9 (GlA o0 o1), .ext 8 (dfA OM.zDef none 0)]) all_foot Tryz.func14 rfl rfl Tryz.ntmps14 [.loc d 0 0, .agg (cmV { OM.zCmd with kind := 13, call := x, saga := y } none 0 0)] rfl rfl ?_
    intro S
    conv => whnf
    repeat' (first
 | with_reducible refine r_stop 7 ?_
 | with_reducible ((first | refine r_seq (fun KS hS => ?_) | (refine hS _ _ ?_; clear hS KS) | (refine hA _ ?_; clear hA KA) | (refine hB _ ?_; clear hB KB)))
 | ((with_reducible (first | refine r_region ?_ | refine r_cond (fun KA hA KB hB => ?_) | refine r_skip ?_ | refine And.intro rfl ?_ | intro b)); conv => whnf)
 | ((with_reducible refine CallK.id ?_); refine CallK.s1V rmG (fun ms w hk => made1041 (by have := hI.gr; omega) w) ?_; conv => whnf)
 | ((with_reducible refine OpK.id ?_); refine OpK.mkMK rfl ?_; conv => whnf)
 | ((with_reducible refine OpK.id ?_); (first | refine OpK.inK rfl rfl rfl rfl rfl rfl rfl rfl atG ⟨by decide, by decide⟩ ?_ | refine OpK.lkV (s := .fn 50 []) rfl rfl rfl rfl rfl rfl rfl rfl (SeesM.ext atG) rfl ?_); conv => whnf)
 | ((with_reducible refine CallK.at 46 ?_); refine CallK.pu (fun w => refuse1046 w) ?_; conv => whnf)
 | ((with_reducible refine CallK.at 53 ?_); refine CallK.pu (fun w => ckAskB1053 (c := { OM.zCmd with kind := 13, call := x, saga := y }) hx hy w) ?_; conv => whnf)
 | ((with_reducible refine CallK.id ?_); refine CallK.s1V rmG (fun ms w hk => hca1050 w) ?_; conv => whnf)
 | ((with_reducible apply OpK.more); (focus refine sok); (conv => whnf); fail_if_success guard_target =ₛ False)
 | with_reducible apply_assumption -symm -exfalso)
    refine StopR.mk ?_
    refine Run.ex (A := orH d ⟨o.groups, o.done, sg, mv, pt⟩) (i := 12) rmG ?_
    rintro ⟨t1, t2, t3⟩
    dsimp only [orH, layF]
    repeat' (first
 | with_reducible ((first | refine r_seq (fun KS hS => ?_) | (refine hS _ _ ?_; clear hS KS)))
 | ((with_reducible (first | refine r_region ?_ | refine r_ret ?_ | refine And.intro rfl ?_)); conv => whnf)
 | ((with_reducible refine WrapK.i64 ?_ ?_); (focus omega); conv => whnf)
 | ((with_reducible refine OpK.id ?_); refine OpK.minI rfl rfl rfl ?_; conv => whnf))
    all_goals exact FinK.frL rfl (HSub.trans (HSub.app2 (A' := [.ext 12 (OrchA d ⟨o.groups, min (o.done + 1) 1099511627776, sg, mv, pt⟩)]) (or_id (i := 0) (j := 1) (k := 2) (l := 3) (d := d) (s := ⟨o.groups, min (o.done + 1) 1099511627776, sg, mv, pt⟩) (t1 := t1) (t2 := t2) (t3 := t3)) (HSub.refl [.ext 9 (GlA o0 o1), .ext 8 (dfA OM.zDef none 0)])) seG)
  | move x r g hx hr hg =>
    have hdx : o.dox { OM.zCmd with kind := 14, call := x, r := r, group := g } = o.doMove { OM.zCmd with kind := 14, call := x, r := r, group := g } := OM.dox_move o x r g hok
    have hdn := OM.dox_done o { OM.zCmd with kind := 14, call := x, r := r, group := g }
    obtain ⟨hd1, hd2⟩ := hdn
    unfold OM.St.apply
    rw [hdx] at hd1 hd2 ⊢
    cases ha (by show (14 : Int) ≠ 11; decide)
    have hmv1051 := fun w => move1051 (d := d) (a := none) (n := 0) (cap := 0) (c := { OM.zCmd with kind := 14, call := x, r := r, group := g }) hI hr hg w
    clear hdx
    generalize o.doMove { OM.zCmd with kind := 14, call := x, r := r, group := g } = X at hmv1051 hd1 hd2 ⊢
    obtain ⟨⟨gr, dn, sg, mv, pt⟩, rep⟩ := X
    dsimp only at hmv1051 hd1 hd2 ⊢
    subst hd1 hd2
    refine enter_fr TBok (H := [.ext 12 (OrchA d o), .ext 9 (GlA o0 o1), .ext 8 (dfA OM.zDef none 0)]) all_foot Tryz.func14 rfl rfl Tryz.ntmps14 [.loc d 0 0, .agg (cmV { OM.zCmd with kind := 14, call := x, r := r, group := g } none 0 0)] rfl rfl ?_
    intro S
    conv => whnf
    repeat' (first
 | with_reducible refine r_stop 7 ?_
 | with_reducible ((first | refine r_seq (fun KS hS => ?_) | (refine hS _ _ ?_; clear hS KS) | (refine hA _ ?_; clear hA KA) | (refine hB _ ?_; clear hB KB)))
 | ((with_reducible (first | refine r_region ?_ | refine r_cond (fun KA hA KB hB => ?_) | refine r_skip ?_ | refine And.intro rfl ?_ | intro b)); conv => whnf)
 | ((with_reducible refine CallK.id ?_); refine CallK.s1V rmG (fun ms w hk => made1041 (by have := hI.gr; omega) w) ?_; conv => whnf)
 | ((with_reducible refine OpK.id ?_); refine OpK.mkMK rfl ?_; conv => whnf)
 | ((with_reducible refine OpK.id ?_); (first | refine OpK.inK rfl rfl rfl rfl rfl rfl rfl rfl atG ⟨by decide, by decide⟩ ?_ | refine OpK.lkV (s := .fn 51 []) rfl rfl rfl rfl rfl rfl rfl rfl (SeesM.ext atG) rfl ?_); conv => whnf)
 | ((with_reducible refine CallK.at 46 ?_); refine CallK.pu (fun w => refuse1046 w) ?_; conv => whnf)
 | ((with_reducible refine CallK.at 53 ?_); refine CallK.pu (fun w => ckMove1053 (c := { OM.zCmd with kind := 14, call := x, r := r, group := g }) hx hr hg w) ?_; conv => whnf)
 | ((with_reducible refine CallK.id ?_); refine CallK.s1V rmG (fun ms w hk => hmv1051 w) ?_; conv => whnf)
 | ((with_reducible apply OpK.more); (focus refine sok); (conv => whnf); fail_if_success guard_target =ₛ False)
 | with_reducible apply_assumption -symm -exfalso)
    refine StopR.mk ?_
    refine Run.ex (A := orH d ⟨o.groups, o.done, sg, mv, pt⟩) (i := 12) rmG ?_
    rintro ⟨t1, t2, t3⟩
    dsimp only [orH, layF]
    repeat' (first
 | with_reducible ((first | refine r_seq (fun KS hS => ?_) | (refine hS _ _ ?_; clear hS KS)))
 | ((with_reducible (first | refine r_region ?_ | refine r_ret ?_ | refine And.intro rfl ?_)); conv => whnf)
 | ((with_reducible refine WrapK.i64 ?_ ?_); (focus omega); conv => whnf)
 | ((with_reducible refine OpK.id ?_); refine OpK.minI rfl rfl rfl ?_; conv => whnf))
    all_goals exact FinK.frL rfl (HSub.trans (HSub.app2 (A' := [.ext 12 (OrchA d ⟨o.groups, min (o.done + 1) 1099511627776, sg, mv, pt⟩)]) (or_id (i := 0) (j := 1) (k := 2) (l := 3) (d := d) (s := ⟨o.groups, min (o.done + 1) 1099511627776, sg, mv, pt⟩) (t1 := t1) (t2 := t2) (t3 := t3)) (HSub.refl [.ext 9 (GlA o0 o1), .ext 8 (dfA OM.zDef none 0)])) seG)
  | result i e s hi he hs =>
    have hdx : o.dox { OM.zCmd with kind := 15, item := i, res := e, data := s } = o.doResult { OM.zCmd with kind := 15, item := i, res := e, data := s } := OM.dox_result o i e s hok
    have hdn := OM.dox_done o { OM.zCmd with kind := 15, item := i, res := e, data := s }
    obtain ⟨hd1, hd2⟩ := hdn
    unfold OM.St.apply
    rw [hdx] at hd1 hd2 ⊢
    cases ha (by show (15 : Int) ≠ 11; decide)
    have hre1052 := fun w => result1052 (d := d) (a := none) (n := 0) (cap := 0) (c := { OM.zCmd with kind := 15, item := i, res := e, data := s }) hko hI he hs w
    clear hdx
    generalize o.doResult { OM.zCmd with kind := 15, item := i, res := e, data := s } = X at hre1052 hd1 hd2 ⊢
    obtain ⟨⟨gr, dn, sg, mv, pt⟩, rep⟩ := X
    dsimp only at hre1052 hd1 hd2 ⊢
    subst hd1 hd2
    refine enter_fr TBok (H := [.ext 12 (OrchA d o), .ext 9 (GlA o0 o1), .ext 8 (dfA OM.zDef none 0)]) all_foot Tryz.func14 rfl rfl Tryz.ntmps14 [.loc d 0 0, .agg (cmV { OM.zCmd with kind := 15, item := i, res := e, data := s } none 0 0)] rfl rfl ?_
    intro S
    conv => whnf
    repeat' (first
 | with_reducible refine r_stop 7 ?_
 | with_reducible ((first | refine r_seq (fun KS hS => ?_) | (refine hS _ _ ?_; clear hS KS) | (refine hA _ ?_; clear hA KA) | (refine hB _ ?_; clear hB KB)))
 | ((with_reducible (first | refine r_region ?_ | refine r_cond (fun KA hA KB hB => ?_) | refine r_skip ?_ | refine And.intro rfl ?_ | intro b)); conv => whnf)
 | ((with_reducible refine CallK.id ?_); refine CallK.s1V rmG (fun ms w hk => made1041 (by have := hI.gr; omega) w) ?_; conv => whnf)
 | ((with_reducible refine OpK.id ?_); refine OpK.mkMK rfl ?_; conv => whnf)
 | ((with_reducible refine OpK.id ?_); (first | refine OpK.inK rfl rfl rfl rfl rfl rfl rfl rfl atG ⟨by decide, by decide⟩ ?_ | refine OpK.lkV (s := .fn 52 []) rfl rfl rfl rfl rfl rfl rfl rfl (SeesM.ext atG) rfl ?_); conv => whnf)
 | ((with_reducible refine CallK.at 46 ?_); refine CallK.pu (fun w => refuse1046 w) ?_; conv => whnf)
 | ((with_reducible refine CallK.at 53 ?_); refine CallK.pu (fun w => ckResult1053 (c := { OM.zCmd with kind := 15, item := i, res := e, data := s }) hi he hs w) ?_; conv => whnf)
 | ((with_reducible refine CallK.id ?_); refine CallK.s2V rmG rmG (fun ms w hk => hre1052 w) ?_; conv => whnf)
 | ((with_reducible apply OpK.more); (focus refine sok); (conv => whnf); fail_if_success guard_target =ₛ False)
 | with_reducible apply_assumption -symm -exfalso)
    refine StopR.mk ?_
    refine Run.ex (A := orH d ⟨o.groups, o.done, sg, mv, pt⟩) (i := 12) rmG ?_
    rintro ⟨t1, t2, t3⟩
    dsimp only [orH, layF]
    repeat' (first
 | with_reducible ((first | refine r_seq (fun KS hS => ?_) | (refine hS _ _ ?_; clear hS KS)))
 | ((with_reducible (first | refine r_region ?_ | refine r_ret ?_ | refine And.intro rfl ?_)); conv => whnf)
 | ((with_reducible refine WrapK.i64 ?_ ?_); (focus omega); conv => whnf)
 | ((with_reducible refine OpK.id ?_); refine OpK.minI rfl rfl rfl ?_; conv => whnf))
    all_goals exact FinK.frL rfl (HSub.trans (HSub.app2 (A' := [.ext 12 (OrchA d ⟨o.groups, min (o.done + 1) 1099511627776, sg, mv, pt⟩)]) (or_id (i := 0) (j := 1) (k := 2) (l := 3) (d := d) (s := ⟨o.groups, min (o.done + 1) 1099511627776, sg, mv, pt⟩) (t1 := t1) (t2 := t2) (t3 := t3)) (HSub.refl [.ext 9 (GlA o0 o1), .ext 8 (dfA OM.zDef none 0)])) seG)
abbrev lmC (l : List (Nat × Nat)) : List Value := l.flatMap fun m => [.int .u8 ((m.1 : Nat) : Int), .int .u16 ((m.2 : Nat) : Int)]
theorem notGl {w : World} {o0 o1 : Obj} {a : Option Addr} {l : List (Nat × Nat)} (hko : KObj o0 o1) (h0 : w.heap[0]? = some o0) (h1 : w.heap[1]? = some o1) (hr : RdB w a (lmC l)) :
    ∀ (i : Nat) v b off, (lmC l)[i]? = some v → a = some ⟨b, off, none⟩ → b ≠ 0 ∧ b ≠ 1 := by
  intro i v b off hi ha
  obtain ⟨b', off', C, t, f, h2, h3, h4⟩ := hr i v hi
  rw [ha] at h2
  cases h2
  have hm : v ∈ lmC l := List.mem_of_getElem? hi
  obtain ⟨m, _, hv⟩ := List.mem_flatMap.1 hm
  obtain ⟨⟨t0, f0, rfl⟩, ⟨t1, f1, rfl⟩⟩ := hko
  refine ⟨fun e => ?_, fun e => ?_⟩
  · subst e
    rw [h0] at h3
    cases h3
    have hc : v ∈ denL phC := by
      have := Array.mem_of_getElem? h4
      simpa using this
    simp only [List.mem_cons, List.not_mem_nil, or_false] at hv
    simp only [phC, denL, den, List.mem_cons, List.not_mem_nil, or_false] at hc
    rcases hv with rfl | rfl <;> rcases hc with hc | hc | hc | hc <;> cases hc
  · subst e
    rw [h1] at h3
    cases h3
    have hc : v ∈ denL foC := by
      have := Array.mem_of_getElem? h4
      simpa using this
    simp only [List.mem_cons, List.not_mem_nil, or_false] at hv
    simp only [foC, denL, den, List.mem_cons, List.not_mem_nil, or_false] at hc
    rcases hv with rfl | rfl <;> rcases hc with hc | hc | hc | hc <;> cases hc
theorem lm_at {l : List (Nat × Nat)} {i : Nat} {m : Nat × Nat} (h : l[i]? = some m) : ((lmC l).drop (i * 2)).take 2 = denL [.v (.int .u8 ((m.1 : Nat) : Int)), .v (.int .u16 ((m.2 : Nat) : Int))] :=
  flat_sub (enc := fun m : Nat × Nat => [Value.int .u8 ((m.1 : Nat) : Int), Value.int .u16 ((m.2 : Nat) : Int)]) (k := 2) (fun _ => rfl) l i m h
theorem played1011 {l : List (Nat × Nat)} {a : Option Addr} {cap : Nat} {o0 o1 : Obj} {w : World} (hko : KObj o0 o1) (hr : RdB w a (lmC l)) (hcap : l.length ≤ cap) (hll : l.length ≤ 9223372036854775807) (hl : ∀ m ∈ l, m.1 ≤ 255 ∧ m.2 ≤ 65535) :
    FrZ Tryz.prog 11 #[.slice a l.length cap] w (AssL [.ext 9 (GlX o0 o1)]) (fun d : Nat => pv d) (fun d => AssL [.ext 9 (GlA o0 o1), .ext 12 (OrchA d (OM.playF (OM.init 4) (l.take 60)))]) := by
  refine enter_frZ TBok (H := [.ext 9 (GlX o0 o1)]) all_foot Tryz.func11 rfl rfl Tryz.ntmps11 [.v (.slice a l.length cap)] rfl rfl ?_
  intro S hA hlt
  obtain ⟨hSx, hh0, hh1⟩ := GlX.only hA
  have hng := notGl hko hh0 hh1 hr
  have sa := fun n' r H => SeesB.oldX (c := ⟨Tryz.prog, TB, n', w, S, r, TBok⟩) (H := H) hr (fun i v b off h1 h2 hb => by
    have := hng i v b off h1 h2
    rcases hSx b hb with e | e <;> omega)
  clear hA hlt hSx
  conv => whnf
  repeat' (first
 | with_reducible ((first | refine r_seq (fun KS hS => ?_) | (refine hS _ _ ?_; clear hS KS) | (refine hB _ ?_; clear hB KB) | refine r_block ?_))
 | ((with_reducible (first | refine r_region ?_ | refine r_cond (fun KA hA KB hB => ?_) | refine r_skip ?_ | intro b)); conv => whnf)
 | ((with_reducible refine CallK.id ?_); refine CallK.fresh (fun ms w hk => new1030 (g := 4) (by decide) w) ?_; conv => whnf)
 | ((with_reducible refine OpK.id ?_); (first | refine OpK.minN (b := 60) rfl rfl rfl ?_ | refine OpK.slB rfl rfl rfl rfl rfl rfl (Nat.le_trans (Nat.min_le_left _ _) hcap) ?_); conv => whnf)
 | with_reducible apply_assumption -symm -exfalso)
  refine r_loop (α := Nat) (fun i => [(3, .v (pv b)), (17, .v (.slice a (Nat.min l.length 60) cap)), (18, .v (.int .i64 ((Nat.min l.length 60 : Nat) : Int))), (19, .v (.int .i64 (i : Nat)))]) (fun i => [.ext 12 (OrchA b (OM.playF (OM.init 4) (l.take i))), .ext 9 (GlA o0 o1)]) (fun i => i ≤ Nat.min l.length 60) (fun i => Nat.min l.length 60 - i) 0 (Nat.zero_le _) suG (HSub.ext (fun _ _ h => h) (HSub.ext (fun _ _ h => h.2) HSub.nil)) ?_
  intro i hi KL hL2
  have hm1 : Nat.min l.length 60 ≤ l.length := Nat.min_le_left _ _
  have hm2 : Nat.min l.length 60 ≤ 60 := Nat.min_le_right _ _
  by_cases hlt : i < Nat.min l.length 60
  · obtain ⟨m, hx⟩ : ∃ m, l[i]? = some m := ⟨_, List.getElem?_eq_getElem (by omega)⟩
    obtain ⟨hm3, hm4⟩ := hl m (List.mem_of_getElem? hx)
    have hI := (OM.Inv.init (g := 4) (by decide)).play (l.take i)
    have hap := @OM.playF_take (OM.init 4) l i m hx
    obtain ⟨o, ho⟩ : ∃ o, OM.playF (OM.init 4) (l.take i) = o := ⟨_, rfl⟩
    obtain ⟨o2, ho2⟩ : ∃ o2, OM.playF (OM.init 4) (l.take (i + 1)) = o2 := ⟨_, rfl⟩
    rw [ho] at hI hap ⊢
    have hok := OM.cmdOf_ok hI m.1 m.2
    have hcm1018 := fun w => command1018 (d := b) hko hI hm3 hm4 w
    have hap1014 := fun a cap ha w => apply1014 (d := b) (a := a) (cap := cap) (c := OM.cmdOf o m.1 m.2) hko hI hok ha w
    rw [ho2] at hap
    simp only [← hap] at hap1014
    repeat' (first
 | with_reducible ((first | refine r_seq (fun KS hS => ?_) | (refine hS _ _ ?_; clear hS KS) | (refine hA _ ?_; clear hA KA) | refine r_block ?_))
 | ((with_reducible (first | refine r_region ?_ | refine r_cond (fun KA hA KB hB => ?_) | refine r_skip ?_ | refine And.intro rfl ?_ | intro b)); conv => whnf)
 | ((with_reducible refine WrapK.i64 ?_ ?_); (focus omega); conv => whnf)
 | ((with_reducible refine OpK.id ?_); (first | refine OpK.idxBk (k := 2) rfl rfl rfl rfl rfl rfl rfl (sa _ _ _) (by omega) (by exact Nat.succ_pos _) (lm_at hx) (fun b off hp => ?_) | refine OpK.ldp rfl rfl hp (List.cons_ne_nil _ _) ?_); conv => whnf)
 | ((with_reducible refine CallK.id ?_); (first | refine CallK.s2 rmG rmG (fun ms w hk => hcm1018 w) ?_ | (refine CallK.selV (by apply Sel.cons; (case h => exact rmG); apply Sel.cons; (case h => exact rmG); apply Sel.cons; (case h => exact rmG); exact Sel.nil) (fun ms w hk => hap1014 b.1.1 b.1.2 b.2 w) ?_; dsimp only [layF])); conv => whnf)
 | (refine hL2 (i + 1) _ _ (by show i + 1 ≤ _; omega) (by show _ - (i + 1) < _ - i; omega) suG (by rw [ho2]; exact seG))
 | (refine if_decT (by omega) ?_; conv => whnf)
 | with_reducible apply_assumption -symm -exfalso)
  · obtain rfl : i = Nat.min l.length 60 := by omega
    clear hL2
    have htk : l.take (Nat.min l.length 60) = l.take 60 := by
      rw [List.take_eq_take_iff]
      show min (min l.length 60) l.length = min 60 l.length
      omega
    rw [htk]
    repeat' (first
 | with_reducible ((first | refine r_seq (fun KS hS => ?_) | (refine hS _ _ ?_; clear hS KS) | (refine hB _ ?_; clear hB KB)))
 | ((with_reducible (first | refine r_region ?_ | refine r_cond (fun KA hA KB hB => ?_) | refine r_ret ?_ | refine r_exit ?_)); conv => whnf)
 | (refine if_decF (by omega) ?_; conv => whnf)
 | with_reducible apply_assumption -symm -exfalso)
    exact FinK.frZL b rfl seG
theorem sok2 : SOk Tryz.prog [29, 31, 33, 34, 37] := sokB_spec (by kernel_rfl)
theorem eqItems1028 {L : List OM.Item} {a a' : Option Addr} {cap cap' : Nat} {w : World} (hr : RdS w 31 6 a L.length cap (L.flatMap itC)) (hr' : RdS w 31 6 a' L.length cap' (L.flatMap itC)) (hl : L.length ≤ 1000) :
    Pu Tryz.prog 28 #[.slice a L.length cap, .slice a' L.length cap'] w (.bool true) := by
  have sa := fun n' r H => Sees.old (c := ⟨Tryz.prog, TB, n', w, noS, r, TBok⟩) (H := H) hr.old
  have sb := fun n' r H => Sees.old (c := ⟨Tryz.prog, TB, n', w, noS, r, TBok⟩) (H := H) hr'.old
  refine enter_sound TBok Tryz.func28 rfl rfl Tryz.ntmps28 [.v (.slice a L.length cap), .v (.slice a' L.length cap')] (Kn.start w noS) rfl rfl ?_
  conv => whnf
  repeat' (first
 | with_reducible ((first | refine r_seq (fun KS hS => ?_) | (refine hS _ _ ?_; clear hS KS) | (refine hB _ ?_; clear hB KB) | refine r_block ?_))
 | ((with_reducible (first | refine r_region ?_ | refine r_cond (fun KA hA KB hB => ?_) | refine r_skip ?_)); conv => whnf)
 | (refine if_ndecF (by omega) ?_; conv => whnf)
 | with_reducible apply_assumption -symm -exfalso)
  refine r_loop (α := Nat) (fun i => [(13, .v (.int .i64 (i : Nat))), (12, .v (.int .i64 L.length)), (0, .v (.slice a L.length cap)), (1, .v (.slice a' L.length cap'))]) (fun _ => []) (fun i => i ≤ L.length) (fun i => L.length - i) 0 (Nat.zero_le _) suG (HSub.none _) ?_
  intro i hi KL hL
  by_cases hlt : i < L.length
  · obtain ⟨y, hy⟩ : ∃ y, L[i]? = some y := ⟨_, List.getElem?_eq_getElem hlt⟩
    have hcomp : (!((decide (y.eff.saga = y.eff.saga) && (decide (y.eff.step = y.eff.step) && (decide (y.eff.phase = y.eff.phase) && true))) && (decide (y.move = y.move) && ((y.in_ == y.in_) && (decide (y.group = y.group) && true))))) = false := by
      rw [itEq y y]; simp
    repeat' (first
 | with_reducible ((first | refine r_seq (fun KS hS => ?_) | (refine hS _ _ ?_; clear hS KS) | (refine hA _ ?_; clear hA KA) | (refine hB _ ?_; clear hB KB) | refine r_block ?_))
 | ((with_reducible (first | refine r_region ?_ | refine r_cond (fun KA hA KB hB => ?_) | refine r_skip ?_)); conv => whnf)
 | ((with_reducible refine WrapK.i64 ?_ ?_); (focus omega); conv => whnf)
 | ((with_reducible refine QK.id ?_); (first | refine QK.idx (k := 6) rfl rfl rfl rfl rfl rfl rfl (sa _ _ _) (by omega) (by omega) (it_at hy) (fun b off hp => ?_) | refine QK.idx (k := 6) rfl rfl rfl rfl rfl rfl rfl (sb _ _ _) (by omega) (by omega) (it_at hy) (fun b off hp => ?_) | refine QK.ldp rfl rfl hp (List.cons_ne_nil _ _) ?_); conv => whnf)
 | ((with_reducible refine IK.id ?_); refine IK.neqV sok2 rfl rfl rfl ?_; conv => whnf)
 | (refine if_f hcomp ?_; conv => whnf)
 | (refine hL (i + 1) _ _ (by show i + 1 ≤ _; omega) (by show L.length - (i + 1) < L.length - i; omega) suG (HSub.none _))
 | (apply r_quiet; refine mixed; kernel_rfl; kernel_rfl; kernel_rfl; conv => whnf)
 | (refine if_decT (by omega) ?_; conv => whnf)
 | with_reducible apply_assumption -symm -exfalso)
  · obtain rfl : i = L.length := by omega
    repeat' (first
 | with_reducible ((first | refine r_seq (fun KS hS => ?_) | (refine hS _ _ ?_; clear hS KS) | (refine hB _ ?_; clear hB KB)))
 | ((with_reducible (first | refine r_region ?_ | refine r_cond (fun KA hA KB hB => ?_) | refine r_ret ?_ | refine r_exit ?_)); conv => whnf)
 | (refine if_decF (by omega) ?_; conv => whnf)
 | with_reducible apply_assumption -symm -exfalso)
    exact FinK.pu rfl
theorem pay1031 (w : World) : FrZ Tryz.prog 31 #[] w emp (fun b : Nat => .agg #[.string OM.payD.name, .int .i64 OM.payD.retries, .int .i64 OM.payD.deadline, .slice (some ⟨b, 0, none⟩) OM.payD.steps.length 2]) (fun b => dfA OM.payD (some ⟨b, 0, none⟩) 2) := by
  refine enter_frZ TBok (H := []) emp_foot Tryz.func31 rfl rfl Tryz.ntmps31 [] rfl rfl ?_
  intro S hz8 hz9
  clear hz8 hz9
  conv => whnf
  repeat' (first
 | with_reducible ((first | refine r_seq (fun KS hS => ?_) | (refine hS _ _ ?_; clear hS KS)))
 | ((with_reducible (first | refine r_region ?_ | refine r_ret ?_ | refine And.intro rfl ?_ | intro b)); conv => whnf))
  have hk : HSub [.ext 0 (dfA OM.payD (some ⟨b, 0, none⟩) 2)] [.blk 1 b [.v (.string ⟨#[97]⟩), .v (.int .i64 3), .v (.string ⟨#[98]⟩), .v (.int .i64 (-4))] 80] :=
    X.HSub.slc (i := 1) (i' := 0) (e := 80) (k := 2) (b := b) (len := 2) (cs := [.v (.string ⟨#[97]⟩), .v (.int .i64 3), .v (.string ⟨#[98]⟩), .v (.int .i64 (-4))]) rfl
  exact FinK.frZ (i := 0) b rfl (HSub.trans hk seG)
theorem effect1038 (a b c d : Int) (w : World) : Pu Tryz.prog 38 #[.int .i64 a, .int .i64 b, .int .i64 c, .int .i64 d] w (.agg (denL (itV (OM.effI a b c d))).toArray) := by
  refine enter_sound TBok Tryz.func38 rfl rfl Tryz.ntmps38 [.v (.int .i64 a), .v (.int .i64 b), .v (.int .i64 c), .v (.int .i64 d)] (Kn.start w noS) rfl rfl ?_
  conv => whnf
  repeat' (first
 | with_reducible ((first | refine r_seq (fun KS hS => ?_) | (refine hS _ _ ?_; clear hS KS)))
 | ((with_reducible (first | refine r_region ?_ | refine r_ret ?_ | refine And.intro rfl ?_ | intro b)); conv => whnf))
  all_goals exact FinK.pu rfl
def wkc (i : Nat) : OM.Cmd := match i with
  | 0 => { OM.zCmd with kind := 11, saga := 7, d := OM.payD }
  | 1 => { OM.zCmd with kind := 14, r := ⟨OM.sB, OM.sC⟩, group := 2 }
  | 2 => OM.resC (OM.effI 7 0 1 1) 0 OM.eps
  | 3 => OM.resC (OM.effI 7 0 1 1) 0 OM.eps
  | 4 => OM.resC OM.outI 0 OM.sX
  | 5 => OM.resC OM.inI 0 OM.eps
  | 6 => OM.resC (OM.effI 7 1 1 2) 7 OM.eps
  | _ => { OM.zCmd with kind := 12, saga := 7 }
def wkr (i : Nat) : OM.Rep := match i with
  | 1 => ⟨0, 1⟩
  | 3 => ⟨9, 0⟩
  | 7 => ⟨0, 3⟩
  | _ => ⟨0, 0⟩
def wki (i : Nat) : List OM.Item := match i with
  | 0 => [OM.effI 7 0 1 1]
  | 1 => [OM.effI 7 0 1 1, OM.outI]
  | 2 => [OM.outI]
  | 3 => [OM.outI]
  | 4 => [OM.inI]
  | 5 => [OM.effI 7 1 1 2]
  | _ => [OM.effI 7 0 2 1]
def wkT : Nat → OM.St
  | 0 => OM.init 3
  | i + 1 => ((wkT i).apply (wkc i)).1
theorem wk_facts : ∀ i : Fin 8, (wkc i.val).ok = true ∧ ((wkT i.val).apply (wkc i.val)).2 = wkr i.val ∧ (wkT (i.val + 1)).items = wki i.val ∧ (i.val ≠ 0 → (wkc i.val).kind ≠ 11) := by decide +kernel
theorem wk_end : (wkT 8).command (OM.effI 7 0 2 1) = some { OM.zCmd with kind := 1, eff := ⟨7, 0, 2⟩, key := OM.sA, delta := 3 } ∧ (wkT 8).done = 8 ∧ OQuiet (wkT 8) = false := by decide +kernel
theorem wk_inv : ∀ i, OM.Inv (wkT i)
  | 0 => OM.Inv.init (g := 3) (by decide)
  | i + 1 => (wk_inv i).apply _
def wkA (z : Nat → Nat) (i : Nat) : Option Addr × Nat := match i with
  | 0 => (some ⟨z 0, 0, none⟩, 2)
  | _ => (none, 0)
def zfW (z : Nat → Nat) (i : Nat) : Nat := match i with
  | 0 => z 4
  | 1 => z 11
  | 2 => z 17
  | 3 => z 23
  | 4 => z 29
  | 5 => z 35
  | 6 => z 41
  | _ => z 46
def itsL (z : Nat → Nat) : List Blk := [.blk 204 (z 4) (itV (OM.effI 7 0 1 1)) 31, .blk 211 (z 11) (itV (OM.effI 7 0 1 1) ++ itV OM.outI) 31, .blk 217 (z 17) (itV OM.outI) 31, .blk 223 (z 23) (itV OM.outI) 31, .blk 229 (z 29) (itV OM.inI) 31, .blk 235 (z 35) (itV (OM.effI 7 1 1 2)) 31, .blk 241 (z 41) (itV (OM.effI 7 0 2 1)) 31, .blk 246 (z 46) (itV (OM.effI 7 0 2 1)) 31]
def ItsA (z : Nat → Nat) : Ass := AssL (itsL z)
theorem its_mem (z : Nat → Nat) : ∀ i : Nat, i < 8 → ∃ k cs, Blk.blk k (zfW z i) cs 31 ∈ itsL z ∧ denL cs = (wki i).flatMap itC ∧ cs.length = (wki i).length * 6
  | 0, _ => ⟨204, _, List.Mem.head _, rfl, rfl⟩
  | 1, _ => ⟨211, _, .tail _ (.head _), rfl, rfl⟩
  | 2, _ => ⟨217, _, .tail _ (.tail _ (.head _)), rfl, rfl⟩
  | 3, _ => ⟨223, _, .tail _ (.tail _ (.tail _ (.head _))), rfl, rfl⟩
  | 4, _ => ⟨229, _, .tail _ (.tail _ (.tail _ (.tail _ (.head _)))), rfl, rfl⟩
  | 5, _ => ⟨235, _, .tail _ (.tail _ (.tail _ (.tail _ (.tail _ (.head _))))), rfl, rfl⟩
  | 6, _ => ⟨241, _, .tail _ (.tail _ (.tail _ (.tail _ (.tail _ (.tail _ (.head _)))))), rfl, rfl⟩
  | 7, _ => ⟨246, _, .tail _ (.tail _ (.tail _ (.tail _ (.tail _ (.tail _ (.tail _ (.head _))))))), rfl, rfl⟩
  | _ + 8, h => absurd h (by omega)
theorem its_sees {c : Cx} {H : List Blk} {j : Nat} {z : Nat → Nat} {f : Blk → List Blk} (hu : At H (.ext j (ItsA z)) f) {i : Nat} (hi : i < 8) : Sees c H 31 6 (some ⟨zfW z i, 0, none⟩) (wki i).length (wki i).length ((wki i).flatMap itC) := by
  intro ms w hk
  obtain ⟨k, cs, h1, h2, h3⟩ := its_mem z i hi
  have hk2 : Kn c.W c.S ms (itsL z) w := hk.hsub (HSub.trans HSub.unjoin (HSub.pick hu))
  have := RdS.ofGot (hk2.got h1) h3
  rwa [h2] at this
abbrev rowS (z : Nat → Nat) (i : Nat) : List SV := cmV (wkc i) (wkA z i).1 (wkc i).d.steps.length (wkA z i).2 ++ [.v (.int .i64 (wkr i).err), .v (.int .i64 (wkr i).num), .v (.string ⟨#[]⟩)] ++ [.v (.slice (some ⟨zfW z i, 0, none⟩) (wki i).length (wki i).length)]
def rowsC (z : Nat → Nat) : List Value := (List.range 8).flatMap fun i => denL (rowS z i)
theorem row_at (z : Nat → Nat) {i : Nat} (hi : i < 8) : ((rowsC z).drop ((i : Int).toNat * 28)).take 28 = denL (rowS z i) :=
  flat_at (k := 28) (g := fun i => denL (rowS z i)) (fun _ => rfl) (L := List.range 8) (i := i) (x := i) (by rw [List.getElem?_range hi])
theorem works1013 {o0 o1 : Obj} (hko : KObj o0 o1) (w : World) : Fr Tryz.prog 13 #[] w (AssL [.ext 9 (GlA o0 o1)]) (.bool true) (AssL [.ext 9 (GlA o0 o1)]) := by
  refine enter_fr TBok (H := [.ext 9 (GlA o0 o1)]) all_foot Tryz.func13 rfl rfl Tryz.ntmps13 [] rfl rfl ?_
  intro S
  conv => whnf
  repeat' (first
 | with_reducible refine r_stop 6 ?_
 | with_reducible ((first | refine r_seq (fun KS hS => ?_) | (refine hS _ _ ?_; clear hS KS) | (refine hB _ ?_; clear hB KB)))
 | ((with_reducible (first | refine r_region ?_ | refine r_cond (fun KA hA KB hB => ?_) | refine r_skip ?_ | refine And.intro rfl ?_ | intro b)); conv => whnf)
 | ((with_reducible refine CallK.id ?_); refine CallK.fresh (fun ms w hk => new1030 (g := 3) (by decide) w) ?_; conv => whnf)
 | with_reducible apply_assumption -symm -exfalso)
  refine StopR.mk ?_
  rename_i d _ _ b3 b4
  refine r_seq (fun KS2 hS2 => ?_)
  refine r_par (β := Nat) (id := 6) [⟨0, [], none, fun _ q2 => .v (.agg #[.string OM.payD.name, .int .i64 OM.payD.retries, .int .i64 OM.payD.deadline, .slice (some ⟨q2, 0, none⟩) OM.payD.steps.length 2]), fun _ q2 => [.ext 200 (dfA OM.payD (some ⟨q2, 0, none⟩) 2)]⟩,
    ⟨1, [0], none, fun l _ => match l with | [z0] => .agg (cmV (wkc 0) (some ⟨z0, 0, none⟩) 2 2) | _ => .v undef, fun _ _ => []⟩,
    nq 2 [] (.agg [.v (.int .i64 0), .v (.int .i64 0), .v (.string ⟨#[]⟩)]),
    nq 3 [] (.agg (itV (OM.effI 7 0 1 1))),
    ⟨4, [3], none, fun _ q2 => .slc q2 204 0 1 1, fun _ q2 => [.blk 204 q2 (itV (OM.effI 7 0 1 1)) 31]⟩,
    ⟨5, [1, 2, 4, 0], none, fun l _ => match l with | [_, _, z4, z0] => .agg (cmV (wkc 0) (some ⟨z0, 0, none⟩) 2 2 ++ [.v (.int .i64 0), .v (.int .i64 0), .v (.string ⟨#[]⟩)] ++ [.slc z4 204 0 1 1]) | _ => .v undef, fun _ _ => []⟩,
    nq 6 [] (.agg [.v (.string ⟨#[98]⟩), .v (.string ⟨#[99]⟩)]),
    nq 7 [6] (.agg (cmV (wkc 1) none 0 0)),
    nq 8 [] (.agg [.v (.int .i64 0), .v (.int .i64 1), .v (.string ⟨#[]⟩)]),
    nq 9 [] (.agg (itV (OM.effI 7 0 1 1))),
    nq 10 [] (.agg (itV (OM.outI))),
    ⟨11, [9, 10], none, fun _ q2 => .slc q2 211 0 2 2, fun _ q2 => [.blk 211 q2 (itV (OM.effI 7 0 1 1) ++ itV (OM.outI)) 31]⟩,
    ⟨12, [7, 8, 11], none, fun l _ => match l with | [_, _, z11] => .agg (cmV (wkc 1) none 0 0 ++ [.v (.int .i64 0), .v (.int .i64 1), .v (.string ⟨#[]⟩)] ++ [.slc z11 211 0 2 2]) | _ => .v undef, fun _ _ => []⟩,
    nq 13 [] (.agg (itV (OM.effI 7 0 1 1))),
    nq 14 [13] (.agg (cmV (wkc 2) none 0 0)),
    nq 15 [] (.agg [.v (.int .i64 0), .v (.int .i64 0), .v (.string ⟨#[]⟩)]),
    nq 16 [] (.agg (itV (OM.outI))),
    ⟨17, [16], none, fun _ q2 => .slc q2 217 0 1 1, fun _ q2 => [.blk 217 q2 (itV (OM.outI)) 31]⟩,
    ⟨18, [14, 15, 17], none, fun l _ => match l with | [_, _, z17] => .agg (cmV (wkc 2) none 0 0 ++ [.v (.int .i64 0), .v (.int .i64 0), .v (.string ⟨#[]⟩)] ++ [.slc z17 217 0 1 1]) | _ => .v undef, fun _ _ => []⟩,
    nq 19 [] (.agg (itV (OM.effI 7 0 1 1))),
    nq 20 [19] (.agg (cmV (wkc 3) none 0 0)),
    nq 21 [] (.agg [.v (.int .i64 9), .v (.int .i64 0), .v (.string ⟨#[]⟩)]),
    nq 22 [] (.agg (itV (OM.outI))),
    ⟨23, [22], none, fun _ q2 => .slc q2 223 0 1 1, fun _ q2 => [.blk 223 q2 (itV (OM.outI)) 31]⟩,
    ⟨24, [20, 21, 23], none, fun l _ => match l with | [_, _, z23] => .agg (cmV (wkc 3) none 0 0 ++ [.v (.int .i64 9), .v (.int .i64 0), .v (.string ⟨#[]⟩)] ++ [.slc z23 223 0 1 1]) | _ => .v undef, fun _ _ => []⟩,
    nq 25 [] (.agg (itV (OM.outI))),
    nq 26 [25] (.agg (cmV (wkc 4) none 0 0)),
    nq 27 [] (.agg [.v (.int .i64 0), .v (.int .i64 0), .v (.string ⟨#[]⟩)]),
    nq 28 [] (.agg (itV (OM.inI))),
    ⟨29, [28], none, fun _ q2 => .slc q2 229 0 1 1, fun _ q2 => [.blk 229 q2 (itV (OM.inI)) 31]⟩,
    ⟨30, [26, 27, 29], none, fun l _ => match l with | [_, _, z29] => .agg (cmV (wkc 4) none 0 0 ++ [.v (.int .i64 0), .v (.int .i64 0), .v (.string ⟨#[]⟩)] ++ [.slc z29 229 0 1 1]) | _ => .v undef, fun _ _ => []⟩,
    nq 31 [] (.agg (itV (OM.inI))),
    nq 32 [31] (.agg (cmV (wkc 5) none 0 0)),
    nq 33 [] (.agg [.v (.int .i64 0), .v (.int .i64 0), .v (.string ⟨#[]⟩)]),
    nq 34 [] (.agg (itV (OM.effI 7 1 1 2))),
    ⟨35, [34], none, fun _ q2 => .slc q2 235 0 1 1, fun _ q2 => [.blk 235 q2 (itV (OM.effI 7 1 1 2)) 31]⟩,
    ⟨36, [32, 33, 35], none, fun l _ => match l with | [_, _, z35] => .agg (cmV (wkc 5) none 0 0 ++ [.v (.int .i64 0), .v (.int .i64 0), .v (.string ⟨#[]⟩)] ++ [.slc z35 235 0 1 1]) | _ => .v undef, fun _ _ => []⟩,
    nq 37 [] (.agg (itV (OM.effI 7 1 1 2))),
    nq 38 [37] (.agg (cmV (wkc 6) none 0 0)),
    nq 39 [] (.agg [.v (.int .i64 0), .v (.int .i64 0), .v (.string ⟨#[]⟩)]),
    nq 40 [] (.agg (itV (OM.effI 7 0 2 1))),
    ⟨41, [40], none, fun _ q2 => .slc q2 241 0 1 1, fun _ q2 => [.blk 241 q2 (itV (OM.effI 7 0 2 1)) 31]⟩,
    ⟨42, [38, 39, 41], none, fun l _ => match l with | [_, _, z41] => .agg (cmV (wkc 6) none 0 0 ++ [.v (.int .i64 0), .v (.int .i64 0), .v (.string ⟨#[]⟩)] ++ [.slc z41 241 0 1 1]) | _ => .v undef, fun _ _ => []⟩,
    nq 43 [] (.agg (cmV (wkc 7) none 0 0)),
    nq 44 [] (.agg [.v (.int .i64 0), .v (.int .i64 3), .v (.string ⟨#[]⟩)]),
    nq 45 [] (.agg (itV (OM.effI 7 0 2 1))),
    ⟨46, [45], none, fun _ q2 => .slc q2 246 0 1 1, fun _ q2 => [.blk 246 q2 (itV (OM.effI 7 0 2 1)) 31]⟩,
    ⟨47, [43, 44, 46], none, fun l _ => match l with | [_, _, z46] => .agg (cmV (wkc 7) none 0 0 ++ [.v (.int .i64 0), .v (.int .i64 3), .v (.string ⟨#[]⟩)] ++ [.slc z46 246 0 1 1]) | _ => .v undef, fun _ _ => []⟩,
    ⟨48, [5, 12, 18, 24, 30, 36, 42, 47, 0, 4, 11, 17, 23, 29, 35, 41, 46], none, fun _ q2 => .v (.slice (some ⟨q2, 0, none⟩) 8 8), fun l q2 => match l with | [_, _, _, _, _, _, _, _, z0, z4, z11, z17, z23, z29, z35, z41, z46] => [.blk 248 q2 ((cmV (wkc 0) (some ⟨z0, 0, none⟩) 2 2 ++ [.v (.int .i64 0), .v (.int .i64 0), .v (.string ⟨#[]⟩)] ++ [.slc z4 204 0 1 1]) ++ (cmV (wkc 1) none 0 0 ++ [.v (.int .i64 0), .v (.int .i64 1), .v (.string ⟨#[]⟩)] ++ [.slc z11 211 0 2 2]) ++ (cmV (wkc 2) none 0 0 ++ [.v (.int .i64 0), .v (.int .i64 0), .v (.string ⟨#[]⟩)] ++ [.slc z17 217 0 1 1]) ++ (cmV (wkc 3) none 0 0 ++ [.v (.int .i64 9), .v (.int .i64 0), .v (.string ⟨#[]⟩)] ++ [.slc z23 223 0 1 1]) ++ (cmV (wkc 4) none 0 0 ++ [.v (.int .i64 0), .v (.int .i64 0), .v (.string ⟨#[]⟩)] ++ [.slc z29 229 0 1 1]) ++ (cmV (wkc 5) none 0 0 ++ [.v (.int .i64 0), .v (.int .i64 0), .v (.string ⟨#[]⟩)] ++ [.slc z35 235 0 1 1]) ++ (cmV (wkc 6) none 0 0 ++ [.v (.int .i64 0), .v (.int .i64 0), .v (.string ⟨#[]⟩)] ++ [.slc z41 241 0 1 1]) ++ (cmV (wkc 7) none 0 0 ++ [.v (.int .i64 0), .v (.int .i64 3), .v (.string ⟨#[]⟩)] ++ [.slc z46 246 0 1 1])) 111] | _ => []⟩,
    nq 49 [48] (.v (.int .i64 8)),
    nq 50 [] (.v (.int .i64 0))] [] 0 _ mixed (by kernel_rfl) (by kernel_rfl) (HSub.refl _) ?_ ?_
  · conv => whnf
    repeat' (first | ((with_reducible refine And.intro ?_ ?_); all_goals (conv => whnf)) | ((with_reducible intro zz AA KP hP); conv => whnf))
    repeat' (first
 | ((with_reducible intro b); conv => whnf)
 | ((with_reducible refine CallK.id ?_); refine CallK.fresh (fun ms w hk => pay1031 w) ?_; conv => whnf)
 | ((with_reducible refine CallK.at 38 ?_); refine CallK.pu (fun w => effect1038 _ _ _ _ w) ?_; conv => whnf)
 | ((with_reducible refine CallK.at 15 ?_); refine CallK.pu (fun w => result1015 _ _ _ w) ?_; conv => whnf)
 | ((with_reducible apply hP); all_goals (first | exact (0 : Nat) | exact ((none, 0) : Option Addr × Nat) | ((repeat' (first | exact SubD.nil | (refine SubD.cons rfl rfl ?_) | (refine SubD.cons rfl (by simp [den]) ?_))); done) | exact seZ)))
  conv => whnf
  intro zz
  conv => whnf
  try dsimp only
  repeat' (first
 | with_reducible refine r_block ?_
 | with_reducible apply_assumption -symm -exfalso)
  have hI6 : HSub [.ext 7 (ItsA zz)] (itsL zz) := HSub.close fun w S h => h
  have hI5 : HSub [.ext 6 (SlA 111 28 (some ⟨zz 48, 0, none⟩) 8 8 (rowsC zz))] [.blk 248 (zz 48) ((cmV (wkc 0) (some ⟨(zz 0), 0, none⟩) 2 2 ++ [.v (.int .i64 0), .v (.int .i64 0), .v (.string ⟨#[]⟩)] ++ [.slc (zz 4) 204 0 1 1]) ++ (cmV (wkc 1) none 0 0 ++ [.v (.int .i64 0), .v (.int .i64 1), .v (.string ⟨#[]⟩)] ++ [.slc (zz 11) 211 0 2 2]) ++ (cmV (wkc 2) none 0 0 ++ [.v (.int .i64 0), .v (.int .i64 0), .v (.string ⟨#[]⟩)] ++ [.slc (zz 17) 217 0 1 1]) ++ (cmV (wkc 3) none 0 0 ++ [.v (.int .i64 9), .v (.int .i64 0), .v (.string ⟨#[]⟩)] ++ [.slc (zz 23) 223 0 1 1]) ++ (cmV (wkc 4) none 0 0 ++ [.v (.int .i64 0), .v (.int .i64 0), .v (.string ⟨#[]⟩)] ++ [.slc (zz 29) 229 0 1 1]) ++ (cmV (wkc 5) none 0 0 ++ [.v (.int .i64 0), .v (.int .i64 0), .v (.string ⟨#[]⟩)] ++ [.slc (zz 35) 235 0 1 1]) ++ (cmV (wkc 6) none 0 0 ++ [.v (.int .i64 0), .v (.int .i64 0), .v (.string ⟨#[]⟩)] ++ [.slc (zz 41) 241 0 1 1]) ++ (cmV (wkc 7) none 0 0 ++ [.v (.int .i64 0), .v (.int .i64 3), .v (.string ⟨#[]⟩)] ++ [.slc (zz 46) 246 0 1 1])) 111] := HSub.slc (i := 248) (i' := 6) (e := 111) (k := 28) (b := zz 48) (len := 8) rfl
  refine r_loop (α := Nat) (fun i => [(1, .v (pv d)), (67, .v (.slice (some ⟨zz 48, 0, none⟩) 8 8)), (68, .v (.int .i64 8)), (69, .v (.int .i64 (i : Nat)))]) (fun i => [.ext 12 (OrchA d (wkT i)), .ext 9 (GlA o0 o1), .ext 7 (ItsA zz), .ext 6 (SlA 111 28 (some ⟨zz 48, 0, none⟩) 8 8 (rowsC zz)), .ext 8 (dfA (wkc i).d (wkA zz i).1 (wkA zz i).2)]) (fun i => i ≤ 8) (fun i => 8 - i) 0 (Nat.zero_le _) suG ?_ ?_
  · refine HSub.trans (B := [.ext 10 (OrchA d (OM.init 3)), .ext 9 (GlA o0 o1)] ++ ([.ext 7 (ItsA zz)] ++ ([.ext 6 (SlA 111 28 (some ⟨zz 48, 0, none⟩) 8 8 (rowsC zz))] ++ [.ext 200 (dfA OM.payD (some ⟨zz 0, 0, none⟩) 2)]))) (HSub.ext (fun _ _ h => h) (HSub.ext (fun _ _ h => h) (HSub.ext (fun _ _ h => h) (HSub.ext (fun _ _ h => h) (HSub.ext (fun _ _ h => h) HSub.nil))))) ?_
    refine HSub.trans (HSub.app2 (HSub.refl _) (HSub.app2 hI6 (HSub.app2 hI5 (HSub.refl _)))) ?_
    dsimp only [itsL, List.cons_append, List.nil_append]
    exact seG
  clear hI5 hI6
  intro i hi KL hL2
  by_cases hlt : i < 8
  · repeat' (first
 | with_reducible refine r_stop 9 ?_
 | with_reducible ((first | refine r_seq (fun KS hS => ?_) | (refine hS _ _ ?_; clear hS KS) | (refine hA _ ?_; clear hA KA) | refine r_block ?_))
 | ((with_reducible (first | refine r_region ?_ | refine r_cond (fun KA hA KB hB => ?_) | refine r_skip ?_ | refine And.intro rfl ?_ | intro b)); conv => whnf)
 | ((with_reducible refine OpK.id ?_); (first | refine OpK.idx (k := 28) rfl rfl rfl rfl rfl rfl rfl (Sees.ext atG) (by omega) (by omega) (row_at zz hlt) (fun b off hp => ?_) | refine OpK.ldp rfl rfl hp (List.cons_ne_nil _ _) ?_); conv => whnf)
 | (refine if_decT (by omega) ?_; conv => whnf)
 | with_reducible apply_assumption -symm -exfalso)
    refine StopR.mk ?_
    obtain ⟨hok, hrp, hit, hkd⟩ := wk_facts ⟨i, hlt⟩
    dsimp only at hok hrp hit hkd
    have hI := wk_inv i
    have hI2 := wk_inv (i + 1)
    have hwa : (wkc i).kind ≠ 11 → ((wkA zz i).1, (wkA zz i).2) = (none, 0) := by
      intro hk
      cases i with
      | zero => exact absurd rfl hk
      | succ i => rfl
    have hap1014 : ∀ w, Fr Tryz.prog 14 #[pv d, .agg (denL (cmV (wkc i) (wkA zz i).1 (wkc i).d.steps.length (wkA zz i).2)).toArray] w (AssL [.ext 12 (OrchA d (wkT i)), .ext 9 (GlA o0 o1), .ext 8 (dfA (wkc i).d (wkA zz i).1 (wkA zz i).2)]) (rpV (wkr i)) (AssL [.ext 12 (OrchA d (wkT (i + 1))), .ext 9 (GlA o0 o1), .ext 8 (dfA (wkc i).d (wkA zz i).1 (wkA zz i).2)]) := fun w => by
      have := apply1014 (d := d) (a := (wkA zz i).1) (cap := (wkA zz i).2) hko hI hok hwa w
      rwa [hrp] at this
    have him1012 : ∀ w, FrZ Tryz.prog 12 #[pv d] w (AssL [.ext 12 (OrchA d (wkT (i + 1))), .ext 9 (GlA o0 o1)]) (fun z : Option Addr × Nat => .slice z.1 (wki i).length z.2) (fun z => AssL [.ext 12 (OrchA d (wkT (i + 1))), .ext 9 (GlA o0 o1), .ext 1 (SlA 31 6 z.1 (wki i).length z.2 ((wki i).flatMap itC))]) := fun w => by
      have := items1012 (d := d) hko hI2 w
      unfold imC at this
      rwa [hit] at this
    have hdz : (wkc (i + 1)).d = OM.zDef := by
      unfold wkc
      split <;> rename_i hq <;> first | rfl | (exfalso; revert hq; simp)
    have hdf : dfA (wkc (i + 1)).d (wkA zz (i + 1)).1 (wkA zz (i + 1)).2 = SlA 80 2 none 0 0 [] := by rw [hdz]; rfl
    have hwl : (wki i).length ≤ 1000 := by
      rw [← hit]; exact items_le hI2
    refine r_seq (fun KS3 hS3 => ?_)
    refine r_par (β := Option Addr × Nat) (id := 9) [nq 0 [] (.v (pv d)), nq 1 [] (.loc b 13 0), nq 2 [1] (.agg (cmV (wkc i) (wkA zz i).1 (wkc i).d.steps.length (wkA zz i).2)), ⟨3, [0, 2], some 100, fun _ _ => .agg [.v (.int .i64 (wkr i).err), .v (.int .i64 (wkr i).num), .v (.string ⟨#[]⟩)], fun _ _ => [.ext 12 (OrchA d (wkT (i + 1))), .ext 9 (GlA o0 o1), .ext 8 (dfA (wkc i).d (wkA zz i).1 (wkA zz i).2)]⟩, nq 4 [] (.loc b 13 24), nq 5 [4] (.agg [.v (.int .i64 (wkr i).err), .v (.int .i64 (wkr i).num), .v (.string ⟨#[]⟩)]), nq 6 [3, 5] (.v (.bool false)), nq 7 [6, 3] (.v (.bool false)), nq 8 [7] (.v (pv d)), ⟨9, [8, 7, 3], some 3, fun _ q2 => .v (.slice q2.1 (wki i).length q2.2), fun _ q2 => [.ext 12 (OrchA d (wkT (i + 1))), .ext 9 (GlA o0 o1), .ext 8 (dfA (wkc i).d (wkA zz i).1 (wkA zz i).2), .ext 5 (SlA 31 6 q2.1 (wki i).length q2.2 ((wki i).flatMap itC))]⟩, nq 10 [7] (.loc b 13 27), nq 11 [10, 7] (.v (.slice (some ⟨zfW zz i, 0, none⟩) (wki i).length (wki i).length)), ⟨12, [9, 11, 7], some 9, fun _ _ => .v (.bool true), fun l _ => match l with | [z9, _, _] => [.ext 12 (OrchA d (wkT (i + 1))), .ext 9 (GlA o0 o1), .ext 8 (dfA (wkc i).d (wkA zz i).1 (wkA zz i).2), .ext 5 (SlA 31 6 z9.1 (wki i).length z9.2 ((wki i).flatMap itC))] | _ => []⟩, nq 13 [12, 7] (.v (.bool false)), nq 14 [7, 13] (.v (.bool false))] [⟨100, [], none, fun _ _ => .v undef, fun _ _ => [.ext 12 (OrchA d (wkT i)), .ext 9 (GlA o0 o1), .ext 8 (dfA (wkc i).d (wkA zz i).1 (wkA zz i).2)]⟩] 0 [.blk 13 b (rowS zz i) 111, .ext 7 (ItsA zz), .ext 6 (SlA 111 28 (some ⟨zz 48, 0, none⟩) 8 8 (rowsC zz))] mixed (by kernel_rfl) (by kernel_rfl) (by show HSub [.ext 12 (OrchA d (wkT i)), .ext 9 (GlA o0 o1), .ext 8 (dfA (wkc i).d (wkA zz i).1 (wkA zz i).2), .blk 13 b (rowS zz i) 111, .ext 7 (ItsA zz), .ext 6 (SlA 111 28 (some ⟨zz 48, 0, none⟩) 8 8 (rowsC zz))] _; exact seG) ?_ ?_
    · conv => whnf
      repeat' (first | ((with_reducible refine And.intro ?_ ?_); all_goals (conv => whnf)) | ((with_reducible intro zz2 AA KP hP); conv => whnf))
      repeat' (first
 | ((with_reducible intro b); conv => whnf)
 | ((with_reducible refine CallK.id ?_); (first | (refine CallK.selV (by apply Sel.cons; (case h => exact rmG); apply Sel.cons; (case h => exact rmG); apply Sel.cons; (case h => exact rmG); exact Sel.nil) (fun ms w hk => hap1014 w) ?_; dsimp only [layF]) | refine CallK.s2 rmG rmG (fun ms w hk => him1012 w) ?_); conv => whnf)
 | ((with_reducible refine CallK.at 28 ?_); refine CallK.puW (fun ms w hk => eqItems1028 (Sees.rd (Sees.ext atG) hk) (Sees.rd (its_sees atG hlt) hk) hwl) ?_; conv => whnf)
 | (((with_reducible apply OpK.more); (focus refine sok2); (conv => whnf); fail_if_success guard_target =ₛ False))
 | ((with_reducible apply hP); all_goals (first | exact (0 : Nat) | exact ((none, 0) : Option Addr × Nat) | ((repeat' (first | exact SubD.nil | (refine SubD.cons rfl rfl ?_) | (refine SubD.cons rfl (by simp [den]) ?_))); done) | exact seZ)))
    conv => whnf
    intro zz2
    conv => whnf
    try dsimp only
    repeat' (first
 | with_reducible (refine hB _ ?_; clear hB KB)
 | ((with_reducible (first | refine r_region ?_ | refine r_cond (fun KA hA KB hB => ?_) | refine r_skip ?_)); conv => whnf)
 | ((with_reducible refine WrapK.i64 ?_ ?_); (focus omega); conv => whnf)
 | (refine hL2 (i + 1) _ _ (by show i + 1 ≤ 8; omega) (by show 8 - (i + 1) < 8 - i; omega) suG (by show HSub [.ext 12 (OrchA d (wkT (i + 1))), .ext 9 (GlA o0 o1), .ext 7 (ItsA zz), .ext 6 (SlA 111 28 (some ⟨zz 48, 0, none⟩) 8 8 (rowsC zz)), .ext 8 (dfA (wkc (i + 1)).d (wkA zz (i + 1)).1 (wkA zz (i + 1)).2)] _; rw [hdf]; exact HSub.addSlL (L' := [.ext 12 (OrchA d (wkT (i + 1))), .ext 9 (GlA o0 o1), .ext 7 (ItsA zz), .ext 6 (SlA 111 28 (some ⟨zz 48, 0, none⟩) 8 8 (rowsC zz))]) seG))
 | with_reducible apply_assumption -symm -exfalso)
  · obtain rfl : i = 8 := by omega
    clear hL2
    have hI := wk_inv 8
    obtain ⟨he1, he2, he3⟩ := wk_end
    have hcm1017 := fun w => command1017 (d := d) (x := OM.effI 7 0 2 1) hko hI w
    have happ1036 := fun w => applied1036 (d := d) (show 0 < (wkT 8).groups by have := hI.gr; omega) w
    have hq1034 := fun w => quiet1034 (d := d) hko hI w
    rw [he1] at hcm1017
    rw [he2] at happ1036
    rw [he3] at hq1034
    clear hI he1 he2 he3
    repeat' (first
 | with_reducible ((first | refine r_seq (fun KS hS => ?_) | (refine hS _ _ ?_; clear hS KS) | (refine hB _ ?_; clear hB KB)))
 | ((with_reducible (first | refine r_region ?_ | refine r_cond (fun KA hA KB hB => ?_) | refine r_ret ?_ | refine r_exit ?_ | refine And.intro rfl ?_ | intro b)); conv => whnf)
 | ((with_reducible refine CallK.at 38 ?_); refine CallK.pu (fun w => effect1038 7 0 2 1 w) ?_; conv => whnf)
 | ((with_reducible refine CallK.id ?_); (first | refine CallK.s2V rmG rmG (fun ms w hk => hcm1017 w) ?_ | refine CallK.s1V rmG (fun ms w hk => happ1036 w) ?_ | refine CallK.s2V rmG rmG (fun ms w hk => hq1034 w) ?_); conv => whnf)
 | with_reducible apply_assumption -symm -exfalso)
    exact FinK.frL rfl seG
end Go.Proofs.YtjkmpaggfbghiaaGreatDoor

namespace Go.Proofs.YtjkmpaggfbghiaaGreatDoor
open Go Go.X Go.ChangeShapes Go.WideShapes Go.RowKit
set_option maxRecDepth 1000000
section
variable {H : Type} {enc : TypeId × Value → H} {P : Program}
theorem post_of_below {f : Func} {s : ChangeSpec} {apart fresh handsOn again : Bool} {W W' : World} {args : Array Value} {v : Value} {ds gs : List (DataW H)} {before pa pv : List MemPlace}
    (hW : DataW.Whole enc P f.params.toList s.vars apart W args.toList ds gs before)
    (hres : ∀ (b : Nat) (sp : Nat → Bool) (hd : Bool), DataW.TrodAll enc P W' b sp hd f.resultTypes.toList (v.resultList f.resultTypes.size) (s.fn H (ds ++ gs)).results [])
    (hargs : ∀ sp : Nat → Bool, (∀ p ∈ before, sp p.block = true) → DataW.TrodAll enc P W' 0 sp true f.params.toList args.toList (s.fn H (ds ++ gs)).args pa)
    (hvars : ∀ sp : Nat → Bool, (∀ p ∈ before, sp p.block = true) → DataW.TrodVars enc P W' sp s.vars (s.fn H (ds ++ gs)).vars pv)
    (hps : before = pa ++ pv) (hb : Below W.heap.size W W')
    (hok : ∀ (j : Nat) (t : TypeId) (r : Value), f.resultTypes[j]? = some t → (v.resultList f.resultTypes.size)[j]? = some r → Value.okWide P W' .any 0 t r) :
    s.post enc P f apart fresh handsOn again W args v W' := by
  have hlt : ∀ p ∈ before, p.block < W.heap.size := fun p hp => hW.lt p hp
  have hold : ∀ p ∈ before, (fun b => decide (b < W.heap.size)) p.block = true := fun p hp => by simpa using hlt p hp
  refine ⟨ds, gs, before, [], pa, pv, hW, hres _ _ _, hargs _ hold, hvars _ hold, World.keptBut_mono (fun p hp => ⟨hp, ?_⟩) (hb.frame (· ∈ before)), fun _ => ?_⟩
  · rw [hps, List.mem_append] at hp
    exact Or.inr hp
  · obtain ⟨_, _, _, _, _, hz, hn⟩ := hW
    refine ⟨hok, _, _, ([] ++ pa) ++ pv, ⟨[] ++ pa, pv, trodAll_append (hargs _ (fun _ _ => rfl)) (hres _ _ _), hvars _ (fun _ _ => rfl), rfl, ?_, ?_⟩, ?_⟩
    · intro b off hp
      have hin : MemPlace.cell b off ∈ before := by rw [hps]; simpa using hp
      rw [hb.frozen (hlt _ hin)]
      exact hz b off hin
    · intro ha
      have := hn ha
      rw [hps] at this
      simpa using this
    · intro p hp _
      rw [hps]
      simpa using hp
end
theorem and_t {a b : Bool} (h : a = true) (h' : b = true) : (a && b) = true := by rw [h, h']; rfl
theorem own : ownKnob Tryz.prog.godebug = none := by kernel_rfl
theorem laidOut : laidOutB Tryz.prog = true := by kernel_rfl
section
variable {H : Type} {enc : TypeId × Value → H} {P : Program} {W W' : World} {sp : Nat → Bool}
theorem trodAll_below (hl : laidOutB P = true) (hb : Below W.heap.size W W') : ∀ {ts : List TypeId} {vs : List Value} {ds : List (DataW H)} {ps : List MemPlace}, (ts.all fun t => P.readableRec t && decide (t < P.types.size)) = true →
    DataW.TrodAll enc P W 0 (fun _ => true) true ts vs ds ps → (∀ x ∈ ps, x.block < W.heap.size) → (∀ x ∈ ps, sp x.block = true) → DataW.TrodAll enc P W' 0 sp true ts vs ds ps := by
  intro ts
  induction ts with
  | nil =>
    intro vs ds ps _ h _ _
    obtain ⟨rfl, rfl, rfl⟩ := trodAll_nil h
    rfl
  | cons t ts ih =>
    intro vs ds ps hr h hlt hsp
    obtain ⟨v, vs', d, ds', p, q, rfl, rfl, rfl, h1, h2⟩ := trodAll_cons h
    rw [List.all_cons, Bool.and_eq_true, Bool.and_eq_true] at hr
    exact trodAll_cons_mk (WideElems.Trod_stays hl hr.1.1 (of_decide_eq_true hr.1.2) h1 (fun x hx => hb.same (hlt x (List.mem_append_left _ hx))) (fun x hx => hsp x (List.mem_append_left _ hx)))
      (ih hr.2 h2 (fun x hx => hlt x (List.mem_append_right _ hx)) (fun x hx => hsp x (List.mem_append_right _ hx)))
theorem law_post {f : Func} {s : ChangeSpec} {t4 : TypeId} {args : Array Value} {ds gs : List (DataW H)} {before : List MemPlace} (hl : laidOutB P = true) (h4 : P.underlying t4 = some .bool)
    (hr : (f.params.toList.all fun t => P.readableRec t && decide (t < P.types.size)) = true) (hres : f.resultTypes = #[t4]) (hv : s.vars = [])
    (hW : DataW.Whole enc P f.params.toList s.vars false W args.toList ds gs before) (hfn : s.fn H (ds ++ gs) = { results := [.lit (.bool true)], args := ds }) (hb : Below W.heap.size W W') :
    s.post enc P f false true false false W args (.bool true) W' := by
  have hlt : ∀ p ∈ before, p.block < W.heap.size := fun p hp => hW.lt p hp
  have hW2 := hW
  obtain ⟨p, q, hA, hV, hbef, _⟩ := hW2
  rw [hv] at hV
  obtain ⟨_, rfl⟩ := trodVars_none hV
  have hfa : (s.fn H (ds ++ gs)).args = ds := by rw [hfn]
  have hfr : (s.fn H (ds ++ gs)).results = [.lit (.bool true)] := by rw [hfn]
  have hfv : (s.fn H (ds ++ gs)).vars = [] := by rw [hfn]
  refine post_of_below (pa := p) (pv := []) hW (fun b sp hd => ?_) (fun sp hsp => ?_) (fun sp _ => ?_) hbef hb (ok_one hres rfl (okWide_bool_mk h4 _))
  · rw [hfr, hres]; exact trodAll_mk1 (shut_bool h4 _)
  · rw [hfa]
    exact trodAll_below hl hb hr hA (fun x hx => hlt x (by rw [hbef]; exact List.mem_append_left _ hx)) (fun x hx => hsp x (by rw [hbef]; exact List.mem_append_left _ hx))
  · rw [hfv, hv]; rfl
end
theorem laidMetH.plain {P : Program} {l : List (String × DataW Unit)} {w : World} (h : laidMetH P l w) : laidMet P (l.filter fun x => x.2.handleName?.isNone) w := by
  unfold laidMetH at h
  generalize hfl : (l.filter fun x => x.2.handleName?.isSome) = fl at h
  cases fl with
  | nil =>
    have e : (l.filter fun x => x.2.handleName?.isNone) = l := by
      rw [List.filter_eq_self]
      intro x hx
      have := (List.filter_eq_nil_iff.1 hfl) x hx
      cases hn : x.2.handleName? with
      | none => rfl
      | some s => rw [hn] at this; exact absurd rfl this
    rw [e]
    exact h
  | cons q qs => exact h.1
theorem KObj.of_laid {l : List (String × DataW Unit)} {W : World} (h : laidMetH Tryz.prog l W) (hm1 : ("skald/saga.phases", Rows.laid_skald_saga_phases) ∈ l) (hm2 : ("skald/saga.follow", Rows.laid_skald_saga_follow) ∈ l) :
    ∃ o0 o1, KObj o0 o1 ∧ W.heap[0]? = some o0 ∧ W.heap[1]? = some o1 := by
  obtain ⟨t1, h1⟩ := laid_ints (laidMetH.plain h) (n := "skald/saga.phases") (k := .i64) (zs := [0, 1, 3, 2]) (List.mem_filter.2 ⟨hm1, by kernel_rfl⟩) (g := 0) (by kernel_rfl) (t := 135) (e := 3) (by kernel_rfl) Tryz.underlying135 Tryz.underlying3 (by kernel_rfl) (by kernel_rfl) (by decide)
  obtain ⟨t0, f0, h0⟩ := laid_fns h (n := "skald/saga.follow") (ds := [.nil, .iface "func" (.lit (.string [40, 115, 107, 97, 108, 100, 47, 115, 97, 103, 97, 46, 83, 97, 103, 97, 41, 46, 102, 111, 114, 119, 97, 114, 100])), .iface "func" (.lit (.string [40, 115, 107, 97, 108, 100, 47, 115, 97, 103, 97, 46, 83, 97, 103, 97, 41, 46, 102, 114, 101, 101])), .iface "func" (.lit (.string [40, 115, 107, 97, 108, 100, 47, 115, 97, 103, 97, 46, 83, 97, 103, 97, 41, 46, 117, 110, 100, 111]))]) hm2 (g := 1) (by kernel_rfl) (t := 282) (e := 281) (by kernel_rfl) Tryz.underlying282 Tryz.underlying281 (by kernel_rfl) (by kernel_rfl)
    (.z (.f "(skald/saga.Saga).forward" (by kernel_rfl) (by kernel_rfl) (.f "(skald/saga.Saga).free" (by kernel_rfl) (by kernel_rfl) (.f "(skald/saga.Saga).undo" (by kernel_rfl) (by kernel_rfl) .nil))))
  exact ⟨_, _, ⟨⟨t1, (0, 0), rfl⟩, ⟨t0, f0, rfl⟩⟩, h1, h0⟩
theorem pu_of_gl {P : Program} {f : FuncId} {args : Array Value} {w : World} {o0 o1 : Obj} (h0 : w.heap[0]? = some o0) (h1 : w.heap[1]? = some o1)
    (h : FrZ P f args w (AssL [.ext 9 (GlX o0 o1)]) (fun _ : Unit => .bool true) (fun _ => AssL [.ext 9 (GlA o0 o1)])) : Pu P f args w (.bool true) := by
  have l0 : 0 < w.heap.size := (Array.getElem?_eq_some_iff.1 h0).1
  have l1 : 1 < w.heap.size := (Array.getElem?_eq_some_iff.1 h1).1
  refine (h (fun k => (k = 0 ∨ k = 1) ∨ False) (.cons (x := .ext 9 (GlX o0 o1)) (S := fun k => k = 0 ∨ k = 1) ⟨fun _ hk => hk, ⟨.inl rfl, .inr rfl⟩, h0, h1⟩ (by rintro k (rfl | rfl) <;> assumption) .nil (fun _ _ hk => hk)) (by
    rintro k ((rfl | rfl) | hk)
    · exact l0
    · exact l1
    · exact hk.elim)).mono ?_
  rintro e w' ⟨_, rfl, he, S', hA, _⟩
  have hA : Holds w' [.ext 9 (GlA o0 o1)] S' := hA
  cases hA with
  | @cons _ _ S1 T1 hx hb hH hd =>
    obtain ⟨_, g0, g1⟩ := hx
    refine ⟨rfl, he.os, he.tape, he.output, he.size, fun k hk => ?_⟩
    by_cases e0 : k = 0
    · subst e0; rw [g0, h0]
    · by_cases e1 : k = 1
      · subst e1; rw [g1, h1]
      · exact he.old k hk (fun e => e.elim (fun e => e.elim e0 e1) id)
theorem wf_u16 {n : Int} (h : (Lit.int .u16 n).wf = true) : 0 ≤ n ∧ n ≤ 65535 := by
  simp [Lit.wf, IntKind.min, IntKind.max, IntKind.signed, IntKind.bits] at h; omega
theorem wf_u8 {n : Int} (h : (Lit.int .u8 n).wf = true) : 0 ≤ n ∧ n ≤ 255 := by
  simp [Lit.wf, IntKind.min, IntKind.max, IntKind.signed, IntKind.bits] at h; omega
section
variable {H : Type} {enc : TypeId × Value → H} {w : World} {base : Nat} {sp : Nat → Bool} {held : Bool}
theorem move_cells {fuel : Nat} {cs : List Value} {x : DataW H × List MemPlace} (h : DataW.trod enc Tryz.prog w base sp held fuel 46 cs = some x) : ∃ a b : Nat, cs = [.int .u8 (a : Nat), .int .u16 (b : Nat)] ∧ a ≤ 255 ∧ b ≤ 65535 := by
  obtain ⟨xs, n, _, _, hl, hxl, hall⟩ := DataW.trod_struct Tryz.underlying46 h
  have hC : Tryz.prog.cellsOf 46 = 2 := by kernel_rfl
  have hC5 : Tryz.prog.cellsOf 5 = 1 := by kernel_rfl
  have hC44 : Tryz.prog.cellsOf 44 = 1 := by kernel_rfl
  rw [hC] at hl
  match cs, hl with
  | [c0, c1], _ =>
  match xs, hxl with
  | [y0, y1], _ =>
  have q0 := hall 0 _ rfl
  have e0 : DataW.trod enc Tryz.prog w base sp held n 5 (([c0, c1].drop 0).take (Tryz.prog.cellsOf 5)) = some y0 := q0
  rw [hC5] at e0
  have q1 := hall 1 _ rfl
  have e1 : DataW.trod enc Tryz.prog w base sp held n 44 (([c0, c1].drop 1).take (Tryz.prog.cellsOf 44)) = some y1 := q1
  rw [hC44] at e1
  obtain ⟨z0, f0, _, g0⟩ := DataW.trod_int Tryz.underlying5 e0
  obtain ⟨z1, f1, _, g1⟩ := DataW.trod_int Tryz.underlying44 e1
  simp only [List.drop_zero, List.take_succ_cons, List.take_zero, List.drop_succ_cons, List.cons.injEq, and_true] at f0 f1
  have b0 := wf_u8 g0
  have b1 := wf_u16 g1
  refine ⟨z0.toNat, z1.toNat, ?_, by omega, by omega⟩
  rw [f0, f1, Int.toNat_of_nonneg b0.1, Int.toNat_of_nonneg b1.1]
end
theorem maxLen_le {n : Nat} (h : n ≤ maxLen) : n ≤ 9223372036854775807 := h
theorem moves_arg {H : Type} {enc : TypeId × Value → H} {W : World} {v : Value} {d : DataW H} {ps : List MemPlace} {base : Nat} (hval : Value.okWide Tryz.prog W .any base 22 v) (h : DataW.Trod enc Tryz.prog W 0 (fun _ => true) true 22 v d ps) :
    ∃ (a : Option Addr) (l : List (Nat × Nat)) (cap : Nat), v = .slice a l.length cap ∧ RdB W a (lmC l) ∧ l.length ≤ cap ∧ l.length ≤ 9223372036854775807 ∧ ∀ m ∈ l, m.1 ≤ 255 ∧ m.2 ≤ 65535 := by
  obtain ⟨a, len, cap, rfl⟩ := okWide_slice Tryz.underlying22 hval
  obtain ⟨fuel, hf⟩ := h
  rcases DataW.trod_slice Tryz.underlying22 hf with ⟨h1, _⟩ | ⟨a', len', cap', elems, rest, n, _, h1, _, _, hl, hm, hlen, hel, _, _⟩
  · simp [Value.cells] at h1
    obtain ⟨rfl, rfl, rfl⟩ := h1
    exact ⟨none, [], 0, rfl, fun i v hi => by simp at hi, Nat.le_refl _, Nat.zero_le _, fun m hm => by cases hm⟩
  · simp [Value.cells] at h1
    obtain ⟨rfl, rfl, rfl⟩ := h1
    have hC : Tryz.prog.cellsOf 46 = 2 := by kernel_rfl
    rw [hC] at hel
    have each : ∀ i, i < len → ∃ m : Nat × Nat, (W.cell? (a'.add (i * 2)) = some (.int .u8 (m.1 : Nat)) ∧ W.cell? ((a'.add (i * 2)).add 1) = some (.int .u16 (m.2 : Nat))) ∧ m.1 ≤ 255 ∧ m.2 ≤ 65535 := by
      intro i hi
      have h2 := hel i hi
      rw [List.getElem?_eq_getElem (by omega), Option.bind_eq_some_iff] at h2
      obtain ⟨cs, h3, h4⟩ := h2
      obtain ⟨x, y, rfl, hx, hy⟩ := move_cells h4
      have h5 := (World.cells?_some h3).2.2
      refine ⟨(x, y), ⟨?_, ?_⟩, hx, hy⟩
      · have := h5 0 (by omega)
        simpa [Addr.add] using this
      · have := h5 1 (by omega)
        simpa using this
    have hz : a'.spot = none ∨ len = 0 := by
      rcases Nat.eq_zero_or_pos len with h0 | h0
      · exact .inr h0
      · left
        obtain ⟨m, ⟨h2, _⟩, _⟩ := each 0 h0
        obtain ⟨b, off, spot⟩ := a'
        simp only [Addr.add, Nat.zero_mul, if_pos, World.cell?] at h2
        split at h2
        · cases spot with
          | none => rfl
          | some s => simp at h2
        · cases h2
    obtain ⟨l, hl2, hlr⟩ : ∃ l : List (Nat × Nat), l.length = len ∧ ∀ i m, l[i]? = some m → (W.cell? (a'.add (i * 2)) = some (.int .u8 (m.1 : Nat)) ∧ W.cell? ((a'.add (i * 2)).add 1) = some (.int .u16 (m.2 : Nat))) ∧ m.1 ≤ 255 ∧ m.2 ≤ 65535 := by
      refine ⟨(List.range len).map fun i => if hi : i < len then Classical.choose (each i hi) else (0, 0), by simp, fun i m hm => ?_⟩
      have hi : i < len := by
        have := (List.getElem?_eq_some_iff.1 hm).1
        simpa using this
      rw [List.getElem?_map, List.getElem?_range hi] at hm
      simp only [Option.map_some, dif_pos hi, Option.some.injEq] at hm
      subst hm
      exact Classical.choose_spec (each i hi)
    subst hl2
    refine ⟨some a', l, cap, rfl, ?_, hl, by have := maxLen_le hm; omega, fun m hm => ?_⟩
    · intro i v hi
      have hlen2 : (lmC l).length = l.length * 2 := flat_len (k := 2) (fun _ => rfl) l
      have hil := (List.getElem?_eq_some_iff.1 hi).1
      rw [hlen2] at hil
      have hq : i / 2 < l.length := by omega
      have hg := flat_get (enc := fun m : Nat × Nat => [Value.int .u8 ((m.1 : Nat) : Int), Value.int .u16 ((m.2 : Nat) : Int)]) (k := 2) (fun _ => rfl) (by decide) l i
      rw [show (lmC l)[i]? = _ from hg, List.getElem?_eq_getElem hq, Option.bind_some] at hi
      obtain ⟨⟨r1, r2⟩, _⟩ := hlr (i / 2) _ (List.getElem?_eq_getElem hq)
      have hsp : a'.spot = none := hz.resolve_right (by omega)
      obtain ⟨b, off, spot⟩ := a'
      dsimp only at hsp
      subst hsp
      have add_of : ∀ n, (⟨b, off, none⟩ : Addr).add n = ⟨b, off + n, none⟩ := by
        intro n
        unfold Addr.add
        split
        · rename_i e; subst e; rfl
        · rfl
      rw [add_of] at r1 r2
      rw [show ((⟨b, off + i / 2 * 2, none⟩ : Addr).add 1) = ⟨b, off + i / 2 * 2 + 1, none⟩ from rfl] at r2
      have hmod : i % 2 = 0 ∨ i % 2 = 1 := by omega
      rcases hmod with hmod | hmod
      · rw [hmod] at hi
        have hv : Value.int .u8 ((l[i / 2].1 : Nat) : Int) = v := by simpa using hi
        rw [hv, show i / 2 * 2 = i by omega] at r1
        simp only [World.cell?] at r1
        split at r1
        · rename_i C t f hh
          exact ⟨b, off, C, t, f, rfl, hh, by simpa using r1⟩
        · cases r1
      · rw [hmod] at hi
        have hv : Value.int .u16 ((l[i / 2].2 : Nat) : Int) = v := by simpa using hi
        rw [hv, show off + i / 2 * 2 + 1 = off + i by omega] at r2
        simp only [World.cell?] at r2
        split at r2
        · rename_i C t f hh
          exact ⟨b, off, C, t, f, rfl, hh, by simpa using r2⟩
        · cases r2
    · obtain ⟨i, hi⟩ := List.mem_iff_getElem?.1 hm
      exact (hlr i m hi).2
end Go.Proofs.YtjkmpaggfbghiaaGreatDoor
namespace Go.Proofs.YtjkmpaggfbghiaaGreatDoor
open Go Go.X
theorem lm_one {l : List (Nat × Nat)} : ∀ u ∈ lmC l, u.oneCell' = true := by
  intro u hu
  obtain ⟨m, _, hm⟩ := List.mem_flatMap.1 hu
  simp only [List.mem_cons, List.not_mem_nil, or_false] at hm
  rcases hm with rfl | rfl <;> rfl
theorem lm_take {w : World} {a : Option Addr} {l : List (Nat × Nat)} (h : RdB w a (lmC l)) (n : Nat) : RdB w a (lmC (l.take n)) := by
  have := h.take (n * 2)
  rwa [flat_take (k := 2) (fun _ => rfl)] at this
end Go.Proofs.YtjkmpaggfbghiaaGreatDoor
