/- Contracts and lemmas for the claim (part 10); no condition of its own. -/
import Derived.Test.YtjkmpaggfbghiaaGreatDoorYQC1009
import Derived.Test.YtjkmpaggfbghiaaGreatDoorYQC1006
import Derived.Test.YtjkmpaggfbghiaaGreatDoorYQC1005
set_option linter.all false
set_option maxRecDepth 100000
set_option maxHeartbeats 0
set_option linter.unusedVariables false
set_option linter.unusedSimpArgs false
set_option linter.unnecessarySimpa false
namespace Go.Proofs.YtjkmpaggfbghiaaGreatDoor
open Go Go.X
theorem in1369 : InSt 369 Tryz.f369 8 := InSt.mk' Tryz.func369 rfl Tryz.ntmps369
theorem in1373 : InSt 373 Tryz.f373 9 := InSt.mk' Tryz.func373 rfl Tryz.ntmps373
theorem in1376 : InSt 376 Tryz.f376 19 := InSt.mk' Tryz.func376 rfl Tryz.ntmps376
theorem in1374 : InSt 374 Tryz.f374 6 := InSt.mk' Tryz.func374 rfl Tryz.ntmps374
theorem in1370 : InSt 370 Tryz.f370 20 := InSt.mk' Tryz.func370 rfl Tryz.ntmps370
theorem last1128 {nm : ByteArray} {rt dl st at_ tr bg er : Int} {cn : Bool} {n : Nat} {a : Option Addr} {cap : Nat} (hn : n ≤ 1000) (w : World) :
    Pu Tryz.prog 128 #[.agg #[.string nm, .int .i64 rt, .int .i64 dl, .slice a n cap, .int .i64 st, .int .i64 at_, .bool cn, .int .i64 tr, .int .i64 bg, .int .i64 er]] w (.int .i64 ((n : Int) - 1)) := by
  refine enter_sound TBok Tryz.func128 rfl rfl Tryz.ntmps128 [.agg [.v (.string nm), .v (.int .i64 rt), .v (.int .i64 dl), .v (.slice a n cap), .v (.int .i64 st), .v (.int .i64 at_), .v (.bool cn), .v (.int .i64 tr), .v (.int .i64 bg), .v (.int .i64 er)]] (Kn.start w noS) rfl rfl ?_
  conv => whnf
  repeat' (first
 | with_reducible ((first | refine r_seq (fun KS hS => ?_) | (refine hS _ _ ?_; clear hS KS)))
 | ((with_reducible (first | refine r_region ?_ | refine r_ret ?_ | refine And.intro rfl ?_ | intro b)); conv => whnf)
 | ((with_reducible refine WrapK.i64 ?_ ?_); (focus omega); conv => whnf))
  all_goals exact FinK.pu rfl
theorem forward1366 {s : OM.Sg} (h : OM.SOk s) (h1 : s.st = 1) {res now : Int} (hr0 : 0 ≤ res ∧ res ≤ 18) (hn : 0 ≤ now ∧ now ≤ 2147483648) {a : Option Addr} {cap : Nat} {w : World} (hr : RdS w 80 2 a s.d.steps.length cap (stepCells s.d.steps)) :
    Pu Tryz.prog 366 #[.agg (denL (sgc s a cap)).toArray, .int .i64 res, .int .i64 now] w (.agg (denL (sgc (s.forward res now) a cap)).toArray) := by
  have hs := fun n' r H => Sees.old (c := ⟨Tryz.prog, TB, n', w, noS, r, TBok⟩) (H := H) hr.old
  have hd := OM.Dfn.steps_pos h.d
  have k1 := h.at0
  have k2 := h.at1
  have k3 := h.tried
  have hlate1371 := fun w hr => late1371 (w := w) h hr hn (a := a) (cap := cap)
  have hagain1372 := fun w hl hr => again1372 (w := w) h hr hn hl (a := a) (cap := cap)
  obtain ⟨L, hL⟩ : ∃ L, s.forward res now = L := ⟨_, rfl⟩
  rw [hL]
  unfold OM.Sg.forward at hL
  unfold againV at hagain1372
  obtain ⟨⟨nm, rt, dl, stp⟩, st, at_, cn, tr, bg, er⟩ := s
  dsimp only [OM.Sg.to, OM.Sg.last] at *
  subst h1
  have k2 := k2 (by omega)
  have k4 : ∀ k : Int, 16 ≤ k ∧ k ≤ 18 → OM.isShort k = true := by
    intro k hk
    unfold OM.isShort
    rcases (by omega : k = 16 ∨ k = 17 ∨ k = 18) with rfl | rfl | rfl <;> rfl
  rcases (by omega : (res ≠ 0 ∧ res ≠ 16 ∧ res ≠ 17 ∧ res ≠ 18 ∧ at_ = 0) ∨ (res ≠ 0 ∧ res ≠ 16 ∧ res ≠ 17 ∧ res ≠ 18 ∧ at_ ≠ 0) ∨ res = 0 ∨ res = 16 ∨ res = 17 ∨ res = 18) with ⟨n1, n2, n3, n4, n5⟩ | ⟨n1, n2, n3, n4, n5⟩ | hz | hz
  · have e1 : (!(res == 0) && !OM.isShort res) = true := by simp [OM.isShort, n1, n2, n3, n4]
    rw [if_pos e1, if_pos n5] at hL
    subst hL
    refine enter_sound TBok Tryz.func366 rfl rfl Tryz.ntmps366 [.agg [.v (.string nm), .v (.int .i64 rt), .v (.int .i64 dl), .v (.slice a stp.length cap), .v (.int .i64 1), .v (.int .i64 at_), .v (.bool cn), .v (.int .i64 tr), .v (.int .i64 bg), .v (.int .i64 er)], .v (.int .i64 res), .v (.int .i64 now)] (Kn.start w noS) rfl rfl ?_
    conv => whnf
    repeat' (first
 | with_reducible ((first | refine r_seq (fun KS hS => ?_) | (refine hS _ _ ?_; clear hS KS) | (refine hA _ ?_; clear hA KA) | (refine hB _ ?_; clear hB KB) | refine r_block ?_))
 | ((with_reducible (first | refine r_region ?_ | refine r_cond (fun KA hA KB hB => ?_) | refine r_ret ?_ | refine r_skip ?_ | refine r_exit ?_ | refine And.intro rfl ?_ | intro b)); conv => whnf)
 | ((with_reducible refine WrapK.i64 ?_ ?_); (focus omega); conv => whnf)
 | ((with_reducible refine CallK.id ?_); (first | apply in1369 | apply in1373 | apply in1376 | apply in1374 | apply in1370); rfl; rfl; rfl; intro A; conv => whnf)
 | ((with_reducible apply OpK.more); (focus refine sok); (conv => whnf); fail_if_success guard_target =ₛ False)
 | with_reducible (first | refine Rounds.step (fun KL hL => ?_) | refine r_rounds 100 ?_)
 | ((first | refine if_decT (by omega) ?_ | refine if_decF (by omega) ?_ | refine if_ndecT (by omega) ?_); conv => whnf)
 | with_reducible apply_assumption -symm -exfalso)
    all_goals exact FinK.pu rfl
  · have e1 : (!(res == 0) && !OM.isShort res) = true := by simp [OM.isShort, n1, n2, n3, n4]
    rw [if_pos e1, if_neg n5] at hL
    subst hL
    refine enter_sound TBok Tryz.func366 rfl rfl Tryz.ntmps366 [.agg [.v (.string nm), .v (.int .i64 rt), .v (.int .i64 dl), .v (.slice a stp.length cap), .v (.int .i64 1), .v (.int .i64 at_), .v (.bool cn), .v (.int .i64 tr), .v (.int .i64 bg), .v (.int .i64 er)], .v (.int .i64 res), .v (.int .i64 now)] (Kn.start w noS) rfl rfl ?_
    conv => whnf
    repeat' (first
 | with_reducible ((first | refine r_seq (fun KS hS => ?_) | (refine hS _ _ ?_; clear hS KS) | (refine hA _ ?_; clear hA KA) | (refine hB _ ?_; clear hB KB) | refine r_block ?_))
 | ((with_reducible (first | refine r_region ?_ | refine r_cond (fun KA hA KB hB => ?_) | refine r_ret ?_ | refine r_skip ?_ | refine r_exit ?_ | refine And.intro rfl ?_ | intro b)); conv => whnf)
 | ((with_reducible refine WrapK.i64 ?_ ?_); (focus omega); conv => whnf)
 | ((with_reducible refine CallK.id ?_); (first | apply in1369 | apply in1373 | apply in1376 | apply in1374 | apply in1370); rfl; rfl; rfl; intro A; conv => whnf)
 | ((with_reducible apply OpK.more); (focus refine sok); (conv => whnf); fail_if_success guard_target =ₛ False)
 | with_reducible (first | refine Rounds.step (fun KL hL => ?_) | refine r_rounds 100 ?_)
 | ((first | refine if_decF (by omega) ?_ | refine if_ndecT (by omega) ?_); conv => whnf)
 | with_reducible apply_assumption -symm -exfalso)
    all_goals exact FinK.pu rfl
  · subst hz
    rw [if_neg (by decide)] at hL
    cases cn
    all_goals simp only [Bool.false_eq_true, if_false, if_true] at hL
    rotate_left 1
    · subst hL
      obtain ⟨LV, hLV⟩ : ∃ LV, OM.Sg.late ⟨⟨nm, rt, dl, stp⟩, 1, at_, true, tr, bg, er⟩ now = LV := ⟨_, rfl⟩
      rw [hLV] at hlate1371
      refine enter_sound TBok Tryz.func366 rfl rfl Tryz.ntmps366 [.agg [.v (.string nm), .v (.int .i64 rt), .v (.int .i64 dl), .v (.slice a stp.length cap), .v (.int .i64 1), .v (.int .i64 at_), .v (.bool true), .v (.int .i64 tr), .v (.int .i64 bg), .v (.int .i64 er)], .v (.int .i64 0), .v (.int .i64 now)] (Kn.start w noS) rfl rfl ?_
      conv => whnf
      repeat' (first
 | with_reducible ((first | refine r_seq (fun KS hS => ?_) | (refine hS _ _ ?_; clear hS KS) | (refine hA _ ?_; clear hA KA) | (refine hB _ ?_; clear hB KB) | refine r_block ?_))
 | ((with_reducible (first | refine r_region ?_ | refine r_cond (fun KA hA KB hB => ?_) | refine r_ret ?_ | refine r_skip ?_ | refine r_exit ?_ | refine And.intro rfl ?_ | intro b)); conv => whnf)
 | ((with_reducible refine WrapK.i64 ?_ ?_); (focus omega); conv => whnf)
 | ((with_reducible refine CallK.id ?_); (first | apply in1369 | apply in1373 | apply in1376 | apply in1374 | apply in1370); rfl; rfl; rfl; intro A; conv => whnf)
 | ((with_reducible refine CallK.at 371 ?_); refine CallK.puW (fun ms w hk => hlate1371 w (Sees.rd (hs _ _ _) hk)) ?_; conv => whnf)
 | ((with_reducible apply OpK.more); (focus refine sok); (conv => whnf); fail_if_success guard_target =ₛ False)
 | with_reducible (first | refine Rounds.step (fun KL hL => ?_) | refine r_rounds 100 ?_)
 | with_reducible apply_assumption -symm -exfalso)
      all_goals exact FinK.pu rfl
    · obtain ⟨LV, hLV⟩ : ∃ LV, OM.Sg.late ⟨⟨nm, rt, dl, stp⟩, 1, at_, false, tr, bg, er⟩ now = LV := ⟨_, rfl⟩
      rw [hLV] at hlate1371 hL
      cases LV
      all_goals simp only [Bool.false_eq_true, if_false, if_true] at hL
      · rw [if_neg (by decide)] at hL
        rcases (by omega : at_ < (stp.length : Int) - 1 ∨ ¬ at_ < (stp.length : Int) - 1) with m1 | m1
        all_goals (first | simp only [if_pos m1] at hL | simp only [if_neg m1, if_false] at hL | simp only [m1, if_false] at hL)
        all_goals subst hL
        all_goals (refine enter_sound TBok Tryz.func366 rfl rfl Tryz.ntmps366 [.agg [.v (.string nm), .v (.int .i64 rt), .v (.int .i64 dl), .v (.slice a stp.length cap), .v (.int .i64 1), .v (.int .i64 at_), .v (.bool false), .v (.int .i64 tr), .v (.int .i64 bg), .v (.int .i64 er)], .v (.int .i64 0), .v (.int .i64 now)] (Kn.start w noS) rfl rfl ?_; conv => whnf)
        all_goals (
        repeat' (first
 | with_reducible ((first | refine r_seq (fun KS hS => ?_) | (refine hS _ _ ?_; clear hS KS) | (refine hA _ ?_; clear hA KA) | (refine hB _ ?_; clear hB KB) | refine r_block ?_))
 | ((with_reducible (first | refine r_region ?_ | refine r_cond (fun KA hA KB hB => ?_) | refine r_ret ?_ | refine r_skip ?_ | refine r_exit ?_ | refine And.intro rfl ?_ | intro b)); conv => whnf)
 | ((with_reducible refine WrapK.i64 ?_ ?_); (focus omega); conv => whnf)
 | ((with_reducible refine CallK.id ?_); (first | apply in1369 | apply in1373 | apply in1376 | apply in1374 | apply in1370); rfl; rfl; rfl; intro A; conv => whnf)
 | ((with_reducible refine CallQ.at 128 ?_); refine CallQ.pu (fun w => last1128 (by omega) w) ?_; conv => whnf)
 | ((with_reducible refine CallK.at 371 ?_); refine CallK.puW (fun ms w hk => hlate1371 w (Sees.rd (hs _ _ _) hk)) ?_; conv => whnf)
 | ((with_reducible apply OpK.more); (focus refine sok); (conv => whnf); fail_if_success guard_target =ₛ False)
 | with_reducible (first | refine Rounds.step (fun KL hL => ?_) | refine r_rounds 100 ?_)
 | (apply r_quiet; refine mixed; kernel_rfl; kernel_rfl; kernel_rfl; conv => whnf)
 | ((first | refine if_decT (by omega) ?_ | refine if_decF (by omega) ?_); conv => whnf)
 | with_reducible apply_assumption -symm -exfalso)
        )
        all_goals exact FinK.pu rfl
      · subst hL
        refine enter_sound TBok Tryz.func366 rfl rfl Tryz.ntmps366 [.agg [.v (.string nm), .v (.int .i64 rt), .v (.int .i64 dl), .v (.slice a stp.length cap), .v (.int .i64 1), .v (.int .i64 at_), .v (.bool false), .v (.int .i64 tr), .v (.int .i64 bg), .v (.int .i64 er)], .v (.int .i64 0), .v (.int .i64 now)] (Kn.start w noS) rfl rfl ?_
        conv => whnf
        repeat' (first
 | with_reducible ((first | refine r_seq (fun KS hS => ?_) | (refine hS _ _ ?_; clear hS KS) | (refine hA _ ?_; clear hA KA) | (refine hB _ ?_; clear hB KB) | refine r_block ?_))
 | ((with_reducible (first | refine r_region ?_ | refine r_cond (fun KA hA KB hB => ?_) | refine r_ret ?_ | refine r_skip ?_ | refine r_exit ?_ | refine And.intro rfl ?_ | intro b)); conv => whnf)
 | ((with_reducible refine WrapK.i64 ?_ ?_); (focus omega); conv => whnf)
 | ((with_reducible refine CallK.id ?_); (first | apply in1369 | apply in1373 | apply in1376 | apply in1374 | apply in1370); rfl; rfl; rfl; intro A; conv => whnf)
 | ((with_reducible refine CallK.at 371 ?_); refine CallK.puW (fun ms w hk => hlate1371 w (Sees.rd (hs _ _ _) hk)) ?_; conv => whnf)
 | ((with_reducible apply OpK.more); (focus refine sok); (conv => whnf); fail_if_success guard_target =ₛ False)
 | with_reducible (first | refine Rounds.step (fun KL hL => ?_) | refine r_rounds 100 ?_)
 | with_reducible apply_assumption -symm -exfalso)
        all_goals exact FinK.pu rfl
  · have hk := k4 res (by omega)
    have e1 : (!(res == 0) && !OM.isShort res) = false := by rw [hk]; simp
    rw [e1, hk] at hL
    simp only [Bool.false_eq_true, if_false, if_true] at hL
    cases cn
    all_goals simp only [Bool.false_eq_true, if_false, if_true] at hL
    rotate_left 1
    · subst hL
      obtain ⟨LV, hLV⟩ : ∃ LV, OM.Sg.late ⟨⟨nm, rt, dl, stp⟩, 1, at_, true, tr, bg, er⟩ now = LV := ⟨_, rfl⟩
      rw [hLV] at hlate1371
      rcases hz with rfl | rfl | rfl
      all_goals (refine enter_sound TBok Tryz.func366 rfl rfl Tryz.ntmps366 [.agg [.v (.string nm), .v (.int .i64 rt), .v (.int .i64 dl), .v (.slice a stp.length cap), .v (.int .i64 1), .v (.int .i64 at_), .v (.bool true), .v (.int .i64 tr), .v (.int .i64 bg), .v (.int .i64 er)], .v (.int .i64 _), .v (.int .i64 now)] (Kn.start w noS) rfl rfl ?_; conv => whnf)
      all_goals (
      repeat' (first
 | with_reducible ((first | refine r_seq (fun KS hS => ?_) | (refine hS _ _ ?_; clear hS KS) | (refine hA _ ?_; clear hA KA) | (refine hB _ ?_; clear hB KB) | refine r_block ?_))
 | ((with_reducible (first | refine r_region ?_ | refine r_cond (fun KA hA KB hB => ?_) | refine r_ret ?_ | refine r_skip ?_ | refine And.intro rfl ?_ | intro b)); conv => whnf)
 | ((with_reducible refine WrapK.i64 ?_ ?_); (focus omega); conv => whnf)
 | ((with_reducible refine CallK.id ?_); (first | apply in1369 | apply in1373 | apply in1376 | apply in1374 | apply in1370); rfl; rfl; rfl; intro A; conv => whnf)
 | ((with_reducible refine CallK.at 371 ?_); refine CallK.puW (fun ms w hk => hlate1371 w (Sees.rd (hs _ _ _) hk)) ?_; conv => whnf)
 | ((with_reducible apply OpK.more); (focus refine sok); (conv => whnf); fail_if_success guard_target =ₛ False)
 | with_reducible (first | refine Rounds.step (fun KL hL => ?_) | refine r_rounds 100 ?_)
 | with_reducible apply_assumption -symm -exfalso)
      )
      all_goals exact FinK.pu rfl
    · cases hLV : OM.Sg.late ⟨⟨nm, rt, dl, stp⟩, 1, at_, false, tr, bg, er⟩ now
      all_goals rw [hLV] at hlate1371 hL
      all_goals simp only [Bool.false_eq_true, if_false, if_true] at hL
      · have hag1372 := fun w hr => hagain1372 w hLV hr
        rcases (by omega : rt < tr ∨ (¬ rt < tr ∧ tr + 1 ≤ rt) ∨ (¬ rt < tr ∧ ¬ tr + 1 ≤ rt)) with m1 | ⟨m1, m2⟩ | ⟨m1, m2⟩
        · rw [if_neg (by omega)] at hL
          simp only [if_pos m1] at hag1372
          subst hL
          rcases hz with rfl | rfl | rfl
          all_goals (refine enter_sound TBok Tryz.func366 rfl rfl Tryz.ntmps366 [.agg [.v (.string nm), .v (.int .i64 rt), .v (.int .i64 dl), .v (.slice a stp.length cap), .v (.int .i64 1), .v (.int .i64 at_), .v (.bool false), .v (.int .i64 tr), .v (.int .i64 bg), .v (.int .i64 er)], .v (.int .i64 _), .v (.int .i64 now)] (Kn.start w noS) rfl rfl ?_; conv => whnf)
          all_goals (
          repeat' (first
 | with_reducible ((first | refine r_seq (fun KS hS => ?_) | (refine hS _ _ ?_; clear hS KS) | (refine hA _ ?_; clear hA KA) | (refine hB _ ?_; clear hB KB) | refine r_block ?_))
 | ((with_reducible (first | refine r_region ?_ | refine r_cond (fun KA hA KB hB => ?_) | refine r_ret ?_ | refine r_skip ?_ | refine And.intro rfl ?_ | intro b)); conv => whnf)
 | ((with_reducible refine WrapK.i64 ?_ ?_); (focus omega); conv => whnf)
 | ((with_reducible refine CallK.id ?_); (first | apply in1369 | apply in1373 | apply in1376 | apply in1374 | apply in1370); rfl; rfl; rfl; intro A; conv => whnf)
 | ((with_reducible refine CallK.at 371 ?_); refine CallK.puW (fun ms w hk => hlate1371 w (Sees.rd (hs _ _ _) hk)) ?_; conv => whnf)
 | ((with_reducible refine CallK.at 372 ?_); refine CallK.puW (fun ms w hk => hag1372 w (Sees.rd (hs _ _ _) hk)) ?_; conv => whnf)
 | ((with_reducible apply OpK.more); (focus refine sok); (conv => whnf); fail_if_success guard_target =ₛ False)
 | with_reducible (first | refine Rounds.step (fun KL hL => ?_) | refine r_rounds 100 ?_)
 | with_reducible apply_assumption -symm -exfalso)
          )
          all_goals exact FinK.pu rfl
        · rw [if_pos (by omega)] at hL
          simp only [if_neg m1, m2, decide_true] at hag1372
          subst hL
          rcases hz with rfl | rfl | rfl
          all_goals (refine enter_sound TBok Tryz.func366 rfl rfl Tryz.ntmps366 [.agg [.v (.string nm), .v (.int .i64 rt), .v (.int .i64 dl), .v (.slice a stp.length cap), .v (.int .i64 1), .v (.int .i64 at_), .v (.bool false), .v (.int .i64 tr), .v (.int .i64 bg), .v (.int .i64 er)], .v (.int .i64 _), .v (.int .i64 now)] (Kn.start w noS) rfl rfl ?_; conv => whnf)
          all_goals (
          repeat' (first
 | with_reducible ((first | refine r_seq (fun KS hS => ?_) | (refine hS _ _ ?_; clear hS KS) | (refine hA _ ?_; clear hA KA) | (refine hB _ ?_; clear hB KB) | refine r_block ?_))
 | ((with_reducible (first | refine r_region ?_ | refine r_cond (fun KA hA KB hB => ?_) | refine r_ret ?_ | refine r_skip ?_ | refine And.intro rfl ?_ | intro b)); conv => whnf)
 | ((with_reducible refine WrapK.i64 ?_ ?_); (focus omega); conv => whnf)
 | ((with_reducible refine CallK.id ?_); (first | apply in1369 | apply in1373 | apply in1376); rfl; rfl; rfl; intro A; conv => whnf)
 | ((with_reducible refine CallK.at 371 ?_); refine CallK.puW (fun ms w hk => hlate1371 w (Sees.rd (hs _ _ _) hk)) ?_; conv => whnf)
 | ((with_reducible refine CallK.at 372 ?_); refine CallK.puW (fun ms w hk => hag1372 w (Sees.rd (hs _ _ _) hk)) ?_; conv => whnf)
 | ((with_reducible apply OpK.more); (focus refine sok); (conv => whnf); fail_if_success guard_target =ₛ False)
 | with_reducible (first | refine Rounds.step (fun KL hL => ?_) | refine r_rounds 100 ?_)
 | with_reducible apply_assumption -symm -exfalso)
          )
          all_goals exact FinK.pu rfl
        · rw [if_neg (by omega)] at hL
          simp only [if_neg m1, m2, decide_false] at hag1372
          subst hL
          rcases hz with rfl | rfl | rfl
          all_goals (refine enter_sound TBok Tryz.func366 rfl rfl Tryz.ntmps366 [.agg [.v (.string nm), .v (.int .i64 rt), .v (.int .i64 dl), .v (.slice a stp.length cap), .v (.int .i64 1), .v (.int .i64 at_), .v (.bool false), .v (.int .i64 tr), .v (.int .i64 bg), .v (.int .i64 er)], .v (.int .i64 _), .v (.int .i64 now)] (Kn.start w noS) rfl rfl ?_; conv => whnf)
          all_goals (
          repeat' (first
 | with_reducible ((first | refine r_seq (fun KS hS => ?_) | (refine hS _ _ ?_; clear hS KS) | (refine hA _ ?_; clear hA KA) | (refine hB _ ?_; clear hB KB) | refine r_block ?_))
 | ((with_reducible (first | refine r_region ?_ | refine r_cond (fun KA hA KB hB => ?_) | refine r_ret ?_ | refine r_skip ?_ | refine And.intro rfl ?_ | intro b)); conv => whnf)
 | ((with_reducible refine WrapK.i64 ?_ ?_); (focus omega); conv => whnf)
 | ((with_reducible refine CallK.id ?_); (first | apply in1369 | apply in1373 | apply in1376 | apply in1374 | apply in1370); rfl; rfl; rfl; intro A; conv => whnf)
 | ((with_reducible refine CallK.at 371 ?_); refine CallK.puW (fun ms w hk => hlate1371 w (Sees.rd (hs _ _ _) hk)) ?_; conv => whnf)
 | ((with_reducible refine CallK.at 372 ?_); refine CallK.puW (fun ms w hk => hag1372 w (Sees.rd (hs _ _ _) hk)) ?_; conv => whnf)
 | ((with_reducible apply OpK.more); (focus refine sok); (conv => whnf); fail_if_success guard_target =ₛ False)
 | with_reducible (first | refine Rounds.step (fun KL hL => ?_) | refine r_rounds 100 ?_)
 | with_reducible apply_assumption -symm -exfalso)
          )
          all_goals exact FinK.pu rfl
      · subst hL
        rcases hz with rfl | rfl | rfl
        all_goals (refine enter_sound TBok Tryz.func366 rfl rfl Tryz.ntmps366 [.agg [.v (.string nm), .v (.int .i64 rt), .v (.int .i64 dl), .v (.slice a stp.length cap), .v (.int .i64 1), .v (.int .i64 at_), .v (.bool false), .v (.int .i64 tr), .v (.int .i64 bg), .v (.int .i64 er)], .v (.int .i64 _), .v (.int .i64 now)] (Kn.start w noS) rfl rfl ?_; conv => whnf)
        all_goals (
        repeat' (first
 | with_reducible ((first | refine r_seq (fun KS hS => ?_) | (refine hS _ _ ?_; clear hS KS) | (refine hA _ ?_; clear hA KA) | (refine hB _ ?_; clear hB KB) | refine r_block ?_))
 | ((with_reducible (first | refine r_region ?_ | refine r_cond (fun KA hA KB hB => ?_) | refine r_ret ?_ | refine r_skip ?_ | refine And.intro rfl ?_ | intro b)); conv => whnf)
 | ((with_reducible refine WrapK.i64 ?_ ?_); (focus omega); conv => whnf)
 | ((with_reducible refine CallK.id ?_); (first | apply in1369 | apply in1373 | apply in1376 | apply in1374 | apply in1370); rfl; rfl; rfl; intro A; conv => whnf)
 | ((with_reducible refine CallK.at 371 ?_); refine CallK.puW (fun ms w hk => hlate1371 w (Sees.rd (hs _ _ _) hk)) ?_; conv => whnf)
 | ((with_reducible apply OpK.more); (focus refine sok); (conv => whnf); fail_if_success guard_target =ₛ False)
 | with_reducible (first | refine Rounds.step (fun KL hL => ?_) | refine r_rounds 100 ?_)
 | with_reducible apply_assumption -symm -exfalso)
        )
        all_goals exact FinK.pu rfl
theorem free1367 {s : OM.Sg} (h : OM.SOk s) (h1 : s.st = 2) {res now : Int} {a : Option Addr} {cap : Nat} (w : World) :
    Pu Tryz.prog 367 #[.agg (denL (sgc s a cap)).toArray, .int .i64 res, .int .i64 now] w (.agg (denL (sgc (s.free res) a cap)).toArray) := by
  have hd := OM.Dfn.steps_pos h.d
  have k1 := h.at0
  have k2 := h.at1
  obtain ⟨L, hL⟩ : ∃ L, s.free res = L := ⟨_, rfl⟩
  rw [hL]
  unfold OM.Sg.free at hL
  rcases (by omega : res ≠ 0 ∨ (res = 0 ∧ s.at_ < s.last) ∨ (res = 0 ∧ ¬ s.at_ < s.last)) with n1 | ⟨rfl, n1⟩ | ⟨rfl, n1⟩
  · rw [if_pos (by simp [n1])] at hL
    obtain ⟨⟨nm, rt, dl, stp⟩, st, at_, cn, tr, bg, er⟩ := s
    dsimp only [OM.Sg.to] at *
    have h1 : st = 2 := h1
    subst h1
    have k2 := k2 (by omega)
    subst hL
    refine enter_sound TBok Tryz.func367 rfl rfl Tryz.ntmps367 [.agg [.v (.string nm), .v (.int .i64 rt), .v (.int .i64 dl), .v (.slice a stp.length cap), .v (.int .i64 2), .v (.int .i64 at_), .v (.bool cn), .v (.int .i64 tr), .v (.int .i64 bg), .v (.int .i64 er)], .v (.int .i64 res), .v (.int .i64 now)] (Kn.start w noS) rfl rfl ?_
    conv => whnf
    repeat' (first
 | with_reducible ((first | refine r_seq (fun KS hS => ?_) | (refine hS _ _ ?_; clear hS KS) | (refine hA _ ?_; clear hA KA) | refine r_block ?_))
 | ((with_reducible (first | refine r_region ?_ | refine r_cond (fun KA hA KB hB => ?_) | refine r_ret ?_ | refine And.intro rfl ?_ | intro b)); conv => whnf)
 | (refine if_ndecT (by omega) ?_; conv => whnf))
    all_goals exact FinK.pu rfl
  · rw [if_neg (by decide), if_pos n1] at hL
    obtain ⟨⟨nm, rt, dl, stp⟩, st, at_, cn, tr, bg, er⟩ := s
    dsimp only [OM.Sg.to] at *
    have h1 : st = 2 := h1
    have n1 := n1
    unfold OM.Sg.last at n1
    dsimp only at n1
    subst h1
    have k2 := k2 (by omega)
    subst hL
    refine enter_sound TBok Tryz.func367 rfl rfl Tryz.ntmps367 [.agg [.v (.string nm), .v (.int .i64 rt), .v (.int .i64 dl), .v (.slice a stp.length cap), .v (.int .i64 2), .v (.int .i64 at_), .v (.bool cn), .v (.int .i64 tr), .v (.int .i64 bg), .v (.int .i64 er)], .v (.int .i64 0), .v (.int .i64 now)] (Kn.start w noS) rfl rfl ?_
    conv => whnf
    repeat' (first
 | with_reducible ((first | refine r_seq (fun KS hS => ?_) | (refine hS _ _ ?_; clear hS KS) | (refine hA _ ?_; clear hA KA) | (refine hB _ ?_; clear hB KB) | refine r_block ?_))
 | ((with_reducible (first | refine r_region ?_ | refine r_cond (fun KA hA KB hB => ?_) | refine r_ret ?_ | refine And.intro rfl ?_ | intro b)); conv => whnf)
 | ((with_reducible refine WrapK.i64 ?_ ?_); (focus omega); conv => whnf)
 | ((with_reducible refine CallK.id ?_); (first | apply in1374 | apply in1370); rfl; rfl; rfl; intro A; conv => whnf)
 | ((with_reducible refine CallQ.at 128 ?_); refine CallQ.pu (fun w => last1128 (by omega) w) ?_; conv => whnf)
 | (apply r_quiet; refine mixed; kernel_rfl; kernel_rfl; kernel_rfl; conv => whnf)
 | (refine if_decT (by omega) ?_; conv => whnf))
    all_goals exact FinK.pu rfl
  · rw [if_neg (by decide), if_neg n1] at hL
    obtain ⟨⟨nm, rt, dl, stp⟩, st, at_, cn, tr, bg, er⟩ := s
    dsimp only [OM.Sg.to] at *
    have h1 : st = 2 := h1
    have n1 := n1
    unfold OM.Sg.last at n1
    dsimp only at n1
    subst h1
    have k2 := k2 (by omega)
    subst hL
    refine enter_sound TBok Tryz.func367 rfl rfl Tryz.ntmps367 [.agg [.v (.string nm), .v (.int .i64 rt), .v (.int .i64 dl), .v (.slice a stp.length cap), .v (.int .i64 2), .v (.int .i64 at_), .v (.bool cn), .v (.int .i64 tr), .v (.int .i64 bg), .v (.int .i64 er)], .v (.int .i64 0), .v (.int .i64 now)] (Kn.start w noS) rfl rfl ?_
    conv => whnf
    repeat' (first
 | with_reducible ((first | refine r_seq (fun KS hS => ?_) | (refine hS _ _ ?_; clear hS KS) | (refine hB _ ?_; clear hB KB) | refine r_block ?_))
 | ((with_reducible (first | refine r_region ?_ | refine r_cond (fun KA hA KB hB => ?_) | refine r_ret ?_ | refine r_skip ?_ | refine And.intro rfl ?_ | intro b)); conv => whnf)
 | ((with_reducible refine CallK.id ?_); (first | apply in1374 | apply in1370); rfl; rfl; rfl; intro A; conv => whnf)
 | ((with_reducible refine CallQ.at 128 ?_); refine CallQ.pu (fun w => last1128 (by omega) w) ?_; conv => whnf)
 | (apply r_quiet; refine mixed; kernel_rfl; kernel_rfl; kernel_rfl; conv => whnf)
 | (refine if_decF (by omega) ?_; conv => whnf)
 | with_reducible apply_assumption -symm -exfalso)
    all_goals exact FinK.pu rfl
theorem undo1368 {s : OM.Sg} (h : OM.SOk s) (h1 : s.st = 3) {res now : Int} {a : Option Addr} {cap : Nat} (w : World) :
    Pu Tryz.prog 368 #[.agg (denL (sgc s a cap)).toArray, .int .i64 res, .int .i64 now] w (.agg (denL (sgc (s.undo res) a cap)).toArray) := by
  have hd := OM.Dfn.steps_pos h.d
  have k1 := h.at0
  have k2 := h.at1
  obtain ⟨L, hL⟩ : ∃ L, s.undo res = L := ⟨_, rfl⟩
  rw [hL]
  unfold OM.Sg.undo at hL
  obtain ⟨⟨nm, rt, dl, stp⟩, st, at_, cn, tr, bg, er⟩ := s
  dsimp only [OM.Sg.to, OM.Sg.last] at *
  subst h1
  have k2 := k2 (by omega)
  rcases (by omega : res ≠ 0 ∨ (res = 0 ∧ 0 < at_) ∨ (res = 0 ∧ ¬ 0 < at_)) with n1 | ⟨rfl, n1⟩ | ⟨rfl, n1⟩
  · rw [if_pos (by simp [n1])] at hL
    subst hL
    refine enter_sound TBok Tryz.func368 rfl rfl Tryz.ntmps368 [.agg [.v (.string nm), .v (.int .i64 rt), .v (.int .i64 dl), .v (.slice a stp.length cap), .v (.int .i64 3), .v (.int .i64 at_), .v (.bool cn), .v (.int .i64 tr), .v (.int .i64 bg), .v (.int .i64 er)], .v (.int .i64 res), .v (.int .i64 now)] (Kn.start w noS) rfl rfl ?_
    conv => whnf
    repeat' (first
 | with_reducible ((first | refine r_seq (fun KS hS => ?_) | (refine hS _ _ ?_; clear hS KS) | (refine hA _ ?_; clear hA KA) | refine r_block ?_))
 | ((with_reducible (first | refine r_region ?_ | refine r_cond (fun KA hA KB hB => ?_) | refine r_ret ?_ | refine And.intro rfl ?_ | intro b)); conv => whnf)
 | (refine if_ndecT (by omega) ?_; conv => whnf))
    all_goals exact FinK.pu rfl
  · rw [if_neg (by decide)] at hL; split at hL; rotate_left 1; exfalso; rename_i hh; exact hh n1
    subst hL
    refine enter_sound TBok Tryz.func368 rfl rfl Tryz.ntmps368 [.agg [.v (.string nm), .v (.int .i64 rt), .v (.int .i64 dl), .v (.slice a stp.length cap), .v (.int .i64 3), .v (.int .i64 at_), .v (.bool cn), .v (.int .i64 tr), .v (.int .i64 bg), .v (.int .i64 er)], .v (.int .i64 0), .v (.int .i64 now)] (Kn.start w noS) rfl rfl ?_
    conv => whnf
    repeat' (first
 | with_reducible ((first | refine r_seq (fun KS hS => ?_) | (refine hS _ _ ?_; clear hS KS) | (refine hA _ ?_; clear hA KA) | (refine hB _ ?_; clear hB KB) | refine r_block ?_))
 | ((with_reducible (first | refine r_region ?_ | refine r_cond (fun KA hA KB hB => ?_) | refine r_ret ?_ | refine And.intro rfl ?_ | intro b)); conv => whnf)
 | ((with_reducible refine WrapK.i64 ?_ ?_); (focus omega); conv => whnf)
 | ((with_reducible refine CallK.id ?_); (first | apply in1374 | apply in1370); rfl; rfl; rfl; intro A; conv => whnf)
 | (refine if_decT (by omega) ?_; conv => whnf))
    all_goals exact FinK.pu rfl
  · rw [if_neg (by decide)] at hL; split at hL; exfalso; rename_i hh; exact n1 hh
    subst hL
    refine enter_sound TBok Tryz.func368 rfl rfl Tryz.ntmps368 [.agg [.v (.string nm), .v (.int .i64 rt), .v (.int .i64 dl), .v (.slice a stp.length cap), .v (.int .i64 3), .v (.int .i64 at_), .v (.bool cn), .v (.int .i64 tr), .v (.int .i64 bg), .v (.int .i64 er)], .v (.int .i64 0), .v (.int .i64 now)] (Kn.start w noS) rfl rfl ?_
    conv => whnf
    repeat' (first
 | with_reducible ((first | refine r_seq (fun KS hS => ?_) | (refine hS _ _ ?_; clear hS KS) | (refine hB _ ?_; clear hB KB) | refine r_block ?_))
 | ((with_reducible (first | refine r_region ?_ | refine r_cond (fun KA hA KB hB => ?_) | refine r_ret ?_ | refine r_skip ?_ | refine And.intro rfl ?_ | intro b)); conv => whnf)
 | ((with_reducible refine CallK.id ?_); (first | apply in1374 | apply in1370); rfl; rfl; rfl; intro A; conv => whnf)
 | (refine if_decF (by omega) ?_; conv => whnf)
 | with_reducible apply_assumption -symm -exfalso)
    all_goals exact FinK.pu rfl
def phC : List SV := [.v (.int .i64 0), .v (.int .i64 1), .v (.int .i64 3), .v (.int .i64 2)]
def foC : List SV := [.v .nilFunc, .fn 366 [], .fn 367 [], .fn 368 []]
structure KObj (o0 o1 : Obj) : Prop where
  ph : ∃ t f, o0 = .cells (denL phC).toArray t f
  fo : ∃ t f, o1 = .cells (denL foC).toArray t f
def KO (w : World) : Prop := ∃ o0 o1, KObj o0 o1 ∧ w.heap[0]? = some o0 ∧ w.heap[1]? = some o1
theorem KO.now {c : Cx} {ms : List Nat} {w : World} {H : List Blk} (h : KO c.W) (h0 : ¬ c.S 0) (h1 : ¬ c.S 1) (hk : Kn c.W c.S ms H w) : KO w := by
  obtain ⟨o0, o1, hk0, e0, e1⟩ := h
  have l0 : 0 < c.W.heap.size := (Array.getElem?_eq_some_iff.1 e0).1
  have l1 : 1 < c.W.heap.size := (Array.getElem?_eq_some_iff.1 e1).1
  exact ⟨o0, o1, hk0, (Kn0.old hk 0 l0 h0).trans e0, (Kn0.old hk 1 l1 h1).trans e1⟩
theorem KO.pc0 {c : Cx} {H : List Blk} (h : KO c.W) (h0 : ¬ c.S 0) {k : Nat} {x : SV} (hx : phC[k]? = some x) : PC c H 0 k [x] := by
  obtain ⟨o0, o1, ⟨⟨t, f, rfl⟩, _⟩, e0, e1⟩ := h
  have l0 : 0 < c.W.heap.size := (Array.getElem?_eq_some_iff.1 e0).1
  refine fun ms w' hk => ⟨_, t, f, (Kn0.old hk 0 l0 h0).trans e0, fun j v hj => ?_⟩
  match j, hj with
  | 0, hj =>
    have : den x = v := by simpa [denL] using hj
    subst this
    rw [denL_eq, List.getElem?_toArray, List.getElem?_map, Nat.add_zero, hx]; rfl
  | j + 1, hj => simp [denL] at hj
theorem KO.pc1 {c : Cx} {H : List Blk} (h : KO c.W) (h1 : ¬ c.S 1) {k : Nat} {x : SV} (hx : foC[k]? = some x) : PC c H 1 k [x] := by
  obtain ⟨o0, o1, ⟨_, ⟨t, f, rfl⟩⟩, e0, e1⟩ := h
  have l1 : 1 < c.W.heap.size := (Array.getElem?_eq_some_iff.1 e1).1
  refine fun ms w' hk => ⟨_, t, f, (Kn0.old hk 1 l1 h1).trans e1, fun j v hj => ?_⟩
  match j, hj with
  | 0, hj =>
    have : den x = v := by simpa [denL] using hj
    subst this
    rw [denL_eq, List.getElem?_toArray, List.getElem?_map, Nat.add_zero, hx]; rfl
  | j + 1, hj => simp [denL] at hj
theorem next1025 {s : OM.Sg} (h : OM.SOk s) (ho : s.st < 4) {a : Option Addr} {cap : Nat} {w : World} (hg : KO w) (hr : RdS w 80 2 a s.d.steps.length cap (stepCells s.d.steps)) :
    Pu Tryz.prog 25 #[.agg (denL (sgc s a cap)).toArray] w (.tuple #[.agg #[.int .i64 0, .int .i64 s.at_, .int .i64 (OM.phaseOf s.st)], .bool true, .int .i64 0]) := by
  have hs := fun n' r H => Sees.old (c := ⟨Tryz.prog, TB, n', w, noS, r, TBok⟩) (H := H) hr.old
  have k1 := h.st
  obtain ⟨⟨nm, rt, dl, stp⟩, st, at_, cn, tr, bg, er⟩ := s
  have e : st = 1 ∨ st = 2 ∨ st = 3 := by
    have : (1 : Int) ≤ st := k1.1
    have : st < 4 := ho
    omega
  rcases e with e | e | e
  all_goals (subst e)
  · refine enter_sound TBok Tryz.func25 rfl rfl Tryz.ntmps25 [.agg [.v (.string nm), .v (.int .i64 rt), .v (.int .i64 dl), .v (.slice a stp.length cap), .v (.int .i64 1), .v (.int .i64 at_), .v (.bool cn), .v (.int .i64 tr), .v (.int .i64 bg), .v (.int .i64 er)]] (Kn.start w noS) rfl rfl ?_
    conv => whnf
    repeat' (first
 | with_reducible ((first | refine r_seq (fun KS hS => ?_) | (refine hS _ _ ?_; clear hS KS) | (refine hB _ ?_; clear hB KB)))
 | ((with_reducible (first | refine r_region ?_ | refine r_cond (fun KA hA KB hB => ?_) | refine r_ret ?_ | refine r_skip ?_ | refine And.intro rfl ?_ | intro b)); conv => whnf)
 | (apply in1067; rfl; rfl; rfl; intro A; conv => whnf)
 | ((with_reducible refine CallK.at 66 ?_); refine CallK.puW (fun ms w hk => saga1066 h (Sees.rd (hs _ _ _) hk)) ?_; conv => whnf)
 | (apply r_any (id := 4); refine mixed; kernel_rfl; kernel_rfl; conv => whnf)
 | ((with_reducible refine OpK.id ?_); (first | (refine OpK.ixP rfl rfl rfl rfl rfl rfl (by omega) (by show _ < (4 : Int); omega) ?_) | refine OpK.ldp rfl rfl (hg.pc0 (c := ⟨Tryz.prog, TB, _, w, noS, _, TBok⟩) (k := 1) id rfl) (List.cons_ne_nil _ _) ?_); conv => whnf)
 | ((with_reducible refine IK.id ?_); refine IK.bld rfl ?_; conv => whnf)
 | ((with_reducible ((first | refine InAt.mk (fun K' hK => ?_) | refine AnyAt.mk (fun K' hK => ?_) | (refine hK _ ?_; clear hK K') | (refine hK _ _ ?_; clear hK K')))); conv => whnf)
 | (refine And.intro ?_ ?_; all_goals (conv => whnf))
 | with_reducible apply_assumption -symm -exfalso)
    all_goals exact FinK.pu rfl
  · refine enter_sound TBok Tryz.func25 rfl rfl Tryz.ntmps25 [.agg [.v (.string nm), .v (.int .i64 rt), .v (.int .i64 dl), .v (.slice a stp.length cap), .v (.int .i64 2), .v (.int .i64 at_), .v (.bool cn), .v (.int .i64 tr), .v (.int .i64 bg), .v (.int .i64 er)]] (Kn.start w noS) rfl rfl ?_
    conv => whnf
    repeat' (first
 | with_reducible ((first | refine r_seq (fun KS hS => ?_) | (refine hS _ _ ?_; clear hS KS) | (refine hB _ ?_; clear hB KB)))
 | ((with_reducible (first | refine r_region ?_ | refine r_cond (fun KA hA KB hB => ?_) | refine r_ret ?_ | refine r_skip ?_ | refine And.intro rfl ?_ | intro b)); conv => whnf)
 | (apply in1067; rfl; rfl; rfl; intro A; conv => whnf)
 | ((with_reducible refine CallK.at 66 ?_); refine CallK.puW (fun ms w hk => saga1066 h (Sees.rd (hs _ _ _) hk)) ?_; conv => whnf)
 | (apply r_any (id := 4); refine mixed; kernel_rfl; kernel_rfl; conv => whnf)
 | ((with_reducible refine OpK.id ?_); (first | (refine OpK.ixP rfl rfl rfl rfl rfl rfl (by omega) (by show _ < (4 : Int); omega) ?_) | refine OpK.ldp rfl rfl (hg.pc0 (c := ⟨Tryz.prog, TB, _, w, noS, _, TBok⟩) (k := 2) id rfl) (List.cons_ne_nil _ _) ?_); conv => whnf)
 | ((with_reducible refine IK.id ?_); refine IK.bld rfl ?_; conv => whnf)
 | ((with_reducible ((first | refine InAt.mk (fun K' hK => ?_) | refine AnyAt.mk (fun K' hK => ?_) | (refine hK _ ?_; clear hK K') | (refine hK _ _ ?_; clear hK K')))); conv => whnf)
 | (refine And.intro ?_ ?_; all_goals (conv => whnf))
 | with_reducible apply_assumption -symm -exfalso)
    all_goals exact FinK.pu rfl
  · refine enter_sound TBok Tryz.func25 rfl rfl Tryz.ntmps25 [.agg [.v (.string nm), .v (.int .i64 rt), .v (.int .i64 dl), .v (.slice a stp.length cap), .v (.int .i64 3), .v (.int .i64 at_), .v (.bool cn), .v (.int .i64 tr), .v (.int .i64 bg), .v (.int .i64 er)]] (Kn.start w noS) rfl rfl ?_
    conv => whnf
    repeat' (first
 | with_reducible ((first | refine r_seq (fun KS hS => ?_) | (refine hS _ _ ?_; clear hS KS) | (refine hB _ ?_; clear hB KB)))
 | ((with_reducible (first | refine r_region ?_ | refine r_cond (fun KA hA KB hB => ?_) | refine r_ret ?_ | refine r_skip ?_ | refine And.intro rfl ?_ | intro b)); conv => whnf)
 | (apply in1067; rfl; rfl; rfl; intro A; conv => whnf)
 | ((with_reducible refine CallK.at 66 ?_); refine CallK.puW (fun ms w hk => saga1066 h (Sees.rd (hs _ _ _) hk)) ?_; conv => whnf)
 | (apply r_any (id := 4); refine mixed; kernel_rfl; kernel_rfl; conv => whnf)
 | ((with_reducible refine OpK.id ?_); (first | (refine OpK.ixP rfl rfl rfl rfl rfl rfl (by omega) (by show _ < (4 : Int); omega) ?_) | refine OpK.ldp rfl rfl (hg.pc0 (c := ⟨Tryz.prog, TB, _, w, noS, _, TBok⟩) (k := 3) id rfl) (List.cons_ne_nil _ _) ?_); conv => whnf)
 | ((with_reducible refine IK.id ?_); refine IK.bld rfl ?_; conv => whnf)
 | ((with_reducible ((first | refine InAt.mk (fun K' hK => ?_) | refine AnyAt.mk (fun K' hK => ?_) | (refine hK _ ?_; clear hK K') | (refine hK _ _ ?_; clear hK K')))); conv => whnf)
 | (refine And.intro ?_ ?_; all_goals (conv => whnf))
 | with_reducible apply_assumption -symm -exfalso)
    all_goals exact FinK.pu rfl
theorem ended1025 {s : OM.Sg} (h : OM.SOk s) (ho : ¬ s.st < 4) {a : Option Addr} {cap : Nat} {w : World} (hr : RdS w 80 2 a s.d.steps.length cap (stepCells s.d.steps)) :
    Pu Tryz.prog 25 #[.agg (denL (sgc s a cap)).toArray] w (.tuple #[.agg #[.int .i64 0, .int .i64 0, .int .i64 0], .bool false, .int .i64 0]) := by
  have hs := fun n' r H => Sees.old (c := ⟨Tryz.prog, TB, n', w, noS, r, TBok⟩) (H := H) hr.old
  refine enter_sound TBok Tryz.func25 rfl rfl Tryz.ntmps25 [.agg (sgc s a cap)] (Kn.start w noS) rfl rfl ?_
  conv => whnf
  repeat' (first
 | with_reducible ((first | refine r_seq (fun KS hS => ?_) | (refine hS _ _ ?_; clear hS KS) | (refine hA _ ?_; clear hA KA)))
 | ((with_reducible (first | refine r_region ?_ | refine r_cond (fun KA hA KB hB => ?_) | refine r_ret ?_ | refine And.intro rfl ?_ | intro b)); conv => whnf)
 | (apply in1067; rfl; rfl; rfl; intro A; conv => whnf)
 | ((with_reducible refine CallK.at 66 ?_); refine CallK.puW (fun ms w hk => saga1066 h (Sees.rd (hs _ _ _) hk)) ?_; conv => whnf)
 | (refine if_ndecT (by omega) ?_; conv => whnf))
  all_goals exact FinK.pu rfl
theorem result1157 {s : OM.Sg} (h : OM.SOk s) (ho : s.st < 4) {res now : Int} (hr0 : 0 ≤ res ∧ res ≤ 18) (hn : 0 ≤ now ∧ now ≤ 2147483648) {a : Option Addr} {cap : Nat} {w : World} (hg : KO w) (hr : RdS w 80 2 a s.d.steps.length cap (stepCells s.d.steps)) :
    FrZ Tryz.prog 157 #[.agg (denL (sgc s a cap)).toArray, .agg #[.int .i64 0, .int .i64 s.at_, .int .i64 (OM.phaseOf s.st)], .int .i64 res, .int .i64 now] w emp (fun z : Option Addr × Nat => .tuple #[.agg (denL (sgc (s.follow res now) z.1 z.2)).toArray, .int .i64 0]) (fun z => SlA 80 2 z.1 s.d.steps.length z.2 (stepCells s.d.steps)) := by
  have hlen := (OM.Dfn.steps_pos h.d).2.1
  have k1 := h.st
  have hfo1366 := fun (h1 : s.st = 1) (z : Option Addr × Nat) w hz => forward1366 h h1 hr0 hn (a := z.1) (cap := z.2) (w := w) hz
  have hfr1367 := fun (h1 : s.st = 2) (z : Option Addr × Nat) w => free1367 h h1 (res := res) (now := now) (a := z.1) (cap := z.2) w
  have hun1368 := fun (h1 : s.st = 3) (z : Option Addr × Nat) w => undo1368 h h1 (res := res) (now := now) (a := z.1) (cap := z.2) w
  have hne25 := fun w (hk : KO w) hz => next1025 h ho (a := a) (cap := cap) (w := w) hk hz
  unfold OM.Sg.follow
  obtain ⟨⟨nm, rt, dl, stp⟩, st, at_, cn, tr, bg, er⟩ := s
  have hlen : stp.length ≤ 8 := hlen
  have e : st = 1 ∨ st = 2 ∨ st = 3 := by
    have : (1 : Int) ≤ st := k1.1
    have : st < 4 := ho
    omega
  rcases e with e | e | e
  all_goals (subst e)
  · rw [show (if (OM.Sg.mk ⟨nm, rt, dl, stp⟩ 1 at_ cn tr bg er).st = 1 then OM.Sg.forward ⟨⟨nm, rt, dl, stp⟩, 1, at_, cn, tr, bg, er⟩ res now else if (OM.Sg.mk ⟨nm, rt, dl, stp⟩ 1 at_ cn tr bg er).st = 2 then OM.Sg.free ⟨⟨nm, rt, dl, stp⟩, 1, at_, cn, tr, bg, er⟩ res else OM.Sg.undo ⟨⟨nm, rt, dl, stp⟩, 1, at_, cn, tr, bg, er⟩ res) = OM.Sg.forward ⟨⟨nm, rt, dl, stp⟩, 1, at_, cn, tr, bg, er⟩ res now from if_pos rfl]
    have hne1025 : ∀ w, KO w → RdS w 80 2 a stp.length cap (stepCells stp) → Pu Tryz.prog 25 #[.agg #[.string nm, .int .i64 rt, .int .i64 dl, .slice a stp.length cap, .int .i64 1, .int .i64 at_, .bool cn, .int .i64 tr, .int .i64 bg, .int .i64 er]] w (.tuple #[.agg #[.int .i64 0, .int .i64 at_, .int .i64 1], .bool true, .int .i64 0]) := hne25
    refine enter_frZ TBok (H := []) emp_foot Tryz.func157 rfl rfl Tryz.ntmps157 [.agg [.v (.string nm), .v (.int .i64 rt), .v (.int .i64 dl), .v (.slice a stp.length cap), .v (.int .i64 1), .v (.int .i64 at_), .v (.bool cn), .v (.int .i64 tr), .v (.int .i64 bg), .v (.int .i64 er)], .agg [.v (.int .i64 0), .v (.int .i64 at_), .v (.int .i64 1)], .v (.int .i64 res), .v (.int .i64 now)] rfl rfl ?_
    intro S hE _
    have hs := fun n' r H => Sees.old (c := ⟨Tryz.prog, TB, n', w, S, r, TBok⟩) (H := H) (hr.oldE hE)
    conv => whnf
    repeat' (first
 | with_reducible ((first | refine r_seq (fun KS hS => ?_) | (refine hS _ _ ?_; clear hS KS) | (refine hA _ ?_; clear hA KA) | (refine hB _ ?_; clear hB KB) | refine r_block ?_))
 | ((with_reducible (first | refine r_region ?_ | refine r_cond (fun KA hA KB hB => ?_) | refine r_ret ?_ | refine r_skip ?_ | refine And.intro rfl ?_ | intro b)); conv => whnf)
 | ((with_reducible refine CallK.at 25 ?_); refine CallK.puW (fun ms w' hk => hne1025 w' (KO.now (c := ⟨Tryz.prog, TB, _, w, S, _, TBok⟩) hg (hE 0) (hE 1) hk) (Sees.rd (hs _ _ _) hk)) ?_; conv => whnf)
 | ((with_reducible refine CallK.id ?_); refine CallK.fresh (fun ms w' hk => scopy1113 (s := ⟨⟨nm, rt, dl, stp⟩, 1, at_, cn, tr, bg, er⟩) (Sees.rd (hs _ _ _) hk) (by show stp.length ≤ _; omega)) ?_; conv => whnf)
 | (apply r_any (id := 10); refine mixed; kernel_rfl; kernel_rfl; conv => whnf)
 | ((with_reducible refine OpK.id ?_); (first | (refine OpK.ixP rfl rfl rfl rfl rfl rfl (by omega) (by show _ < (4 : Int); omega) ?_) | refine OpK.ldp rfl rfl (hg.pc1 (c := ⟨Tryz.prog, TB, _, w, S, _, TBok⟩) (k := 1) (hE 1) rfl) (List.cons_ne_nil _ _) ?_); conv => whnf)
 | ((with_reducible refine CallK.at 366 ?_); refine CallK.puW (fun ms w' hk => hfo1366 rfl _ w' (Sees.rd (Sees.ext atG) hk)) ?_; conv => whnf)
 | ((with_reducible apply OpK.more); (focus refine sok); (conv => whnf); fail_if_success guard_target =ₛ False)
 | ((with_reducible ((first | refine InAt.mk (fun K' hK => ?_) | refine AnyAt.mk (fun K' hK => ?_) | (refine hK _ ?_; clear hK K') | (refine hK _ _ ?_; clear hK K')))); conv => whnf)
 | (refine And.intro ?_ ?_; all_goals (conv => whnf))
 | (refine if_decF (by omega) ?_; conv => whnf)
 | (refine if_cond (fun h => ?_) (fun h => ?_); all_goals (conv => whnf))
 | with_reducible apply_assumption -symm -exfalso)
    all_goals first | (refine FinK.frZ (i := 0) (?_, ?_) ?_ ?_; rotate_left 2; rfl; refine HSub.trans (HSub.ext (i := 0) (fun _ _ hx => ?_) HSub.nil) (HSub.pick atG); exact hx) | (exfalso; simp_all; done)
  · rw [show (if (OM.Sg.mk ⟨nm, rt, dl, stp⟩ 2 at_ cn tr bg er).st = 1 then OM.Sg.forward ⟨⟨nm, rt, dl, stp⟩, 2, at_, cn, tr, bg, er⟩ res now else if (OM.Sg.mk ⟨nm, rt, dl, stp⟩ 2 at_ cn tr bg er).st = 2 then OM.Sg.free ⟨⟨nm, rt, dl, stp⟩, 2, at_, cn, tr, bg, er⟩ res else OM.Sg.undo ⟨⟨nm, rt, dl, stp⟩, 2, at_, cn, tr, bg, er⟩ res) = OM.Sg.free ⟨⟨nm, rt, dl, stp⟩, 2, at_, cn, tr, bg, er⟩ res from (if_neg (show ¬ ((2:Int) = 1) by decide)).trans (if_pos rfl)]
    have hne1025 : ∀ w, KO w → RdS w 80 2 a stp.length cap (stepCells stp) → Pu Tryz.prog 25 #[.agg #[.string nm, .int .i64 rt, .int .i64 dl, .slice a stp.length cap, .int .i64 2, .int .i64 at_, .bool cn, .int .i64 tr, .int .i64 bg, .int .i64 er]] w (.tuple #[.agg #[.int .i64 0, .int .i64 at_, .int .i64 3], .bool true, .int .i64 0]) := hne25
    refine enter_frZ TBok (H := []) emp_foot Tryz.func157 rfl rfl Tryz.ntmps157 [.agg [.v (.string nm), .v (.int .i64 rt), .v (.int .i64 dl), .v (.slice a stp.length cap), .v (.int .i64 2), .v (.int .i64 at_), .v (.bool cn), .v (.int .i64 tr), .v (.int .i64 bg), .v (.int .i64 er)], .agg [.v (.int .i64 0), .v (.int .i64 at_), .v (.int .i64 3)], .v (.int .i64 res), .v (.int .i64 now)] rfl rfl ?_
    intro S hE _
    have hs := fun n' r H => Sees.old (c := ⟨Tryz.prog, TB, n', w, S, r, TBok⟩) (H := H) (hr.oldE hE)
    conv => whnf
    repeat' (first
 | with_reducible ((first | refine r_seq (fun KS hS => ?_) | (refine hS _ _ ?_; clear hS KS) | (refine hA _ ?_; clear hA KA) | (refine hB _ ?_; clear hB KB) | refine r_block ?_))
 | ((with_reducible (first | refine r_region ?_ | refine r_cond (fun KA hA KB hB => ?_) | refine r_ret ?_ | refine r_skip ?_ | refine And.intro rfl ?_ | intro b)); conv => whnf)
 | ((with_reducible refine CallK.at 25 ?_); refine CallK.puW (fun ms w' hk => hne1025 w' (KO.now (c := ⟨Tryz.prog, TB, _, w, S, _, TBok⟩) hg (hE 0) (hE 1) hk) (Sees.rd (hs _ _ _) hk)) ?_; conv => whnf)
 | ((with_reducible refine CallK.id ?_); refine CallK.fresh (fun ms w' hk => scopy1113 (s := ⟨⟨nm, rt, dl, stp⟩, 2, at_, cn, tr, bg, er⟩) (Sees.rd (hs _ _ _) hk) (by show stp.length ≤ _; omega)) ?_; conv => whnf)
 | (apply r_any (id := 10); refine mixed; kernel_rfl; kernel_rfl; conv => whnf)
 | ((with_reducible refine OpK.id ?_); (first | (refine OpK.ixP rfl rfl rfl rfl rfl rfl (by omega) (by show _ < (4 : Int); omega) ?_) | refine OpK.ldp rfl rfl (hg.pc1 (c := ⟨Tryz.prog, TB, _, w, S, _, TBok⟩) (k := 2) (hE 1) rfl) (List.cons_ne_nil _ _) ?_); conv => whnf)
 | ((with_reducible refine CallK.at 367 ?_); refine CallK.pu (fun w' => hfr1367 rfl _ w') ?_; conv => whnf)
 | ((with_reducible apply OpK.more); (focus refine sok); (conv => whnf); fail_if_success guard_target =ₛ False)
 | ((with_reducible ((first | refine InAt.mk (fun K' hK => ?_) | refine AnyAt.mk (fun K' hK => ?_) | (refine hK _ ?_; clear hK K') | (refine hK _ _ ?_; clear hK K')))); conv => whnf)
 | (refine And.intro ?_ ?_; all_goals (conv => whnf))
 | (refine if_decF (by omega) ?_; conv => whnf)
 | (refine if_cond (fun h => ?_) (fun h => ?_); all_goals (conv => whnf))
 | with_reducible apply_assumption -symm -exfalso)
    all_goals first | (refine FinK.frZ (i := 0) (?_, ?_) ?_ ?_; rotate_left 2; rfl; refine HSub.trans (HSub.ext (i := 0) (fun _ _ hx => ?_) HSub.nil) (HSub.pick atG); exact hx) | (exfalso; simp_all; done)
  · rw [show (if (OM.Sg.mk ⟨nm, rt, dl, stp⟩ 3 at_ cn tr bg er).st = 1 then OM.Sg.forward ⟨⟨nm, rt, dl, stp⟩, 3, at_, cn, tr, bg, er⟩ res now else if (OM.Sg.mk ⟨nm, rt, dl, stp⟩ 3 at_ cn tr bg er).st = 2 then OM.Sg.free ⟨⟨nm, rt, dl, stp⟩, 3, at_, cn, tr, bg, er⟩ res else OM.Sg.undo ⟨⟨nm, rt, dl, stp⟩, 3, at_, cn, tr, bg, er⟩ res) = OM.Sg.undo ⟨⟨nm, rt, dl, stp⟩, 3, at_, cn, tr, bg, er⟩ res from (if_neg (show ¬ ((3:Int) = 1) by decide)).trans (if_neg (show ¬ ((3:Int) = 2) by decide))]
    have hne1025 : ∀ w, KO w → RdS w 80 2 a stp.length cap (stepCells stp) → Pu Tryz.prog 25 #[.agg #[.string nm, .int .i64 rt, .int .i64 dl, .slice a stp.length cap, .int .i64 3, .int .i64 at_, .bool cn, .int .i64 tr, .int .i64 bg, .int .i64 er]] w (.tuple #[.agg #[.int .i64 0, .int .i64 at_, .int .i64 2], .bool true, .int .i64 0]) := hne25
    refine enter_frZ TBok (H := []) emp_foot Tryz.func157 rfl rfl Tryz.ntmps157 [.agg [.v (.string nm), .v (.int .i64 rt), .v (.int .i64 dl), .v (.slice a stp.length cap), .v (.int .i64 3), .v (.int .i64 at_), .v (.bool cn), .v (.int .i64 tr), .v (.int .i64 bg), .v (.int .i64 er)], .agg [.v (.int .i64 0), .v (.int .i64 at_), .v (.int .i64 2)], .v (.int .i64 res), .v (.int .i64 now)] rfl rfl ?_
    intro S hE _
    have hs := fun n' r H => Sees.old (c := ⟨Tryz.prog, TB, n', w, S, r, TBok⟩) (H := H) (hr.oldE hE)
    conv => whnf
    repeat' (first
 | with_reducible ((first | refine r_seq (fun KS hS => ?_) | (refine hS _ _ ?_; clear hS KS) | (refine hA _ ?_; clear hA KA) | (refine hB _ ?_; clear hB KB) | refine r_block ?_))
 | ((with_reducible (first | refine r_region ?_ | refine r_cond (fun KA hA KB hB => ?_) | refine r_ret ?_ | refine r_skip ?_ | refine And.intro rfl ?_ | intro b)); conv => whnf)
 | ((with_reducible refine CallK.at 25 ?_); refine CallK.puW (fun ms w' hk => hne1025 w' (KO.now (c := ⟨Tryz.prog, TB, _, w, S, _, TBok⟩) hg (hE 0) (hE 1) hk) (Sees.rd (hs _ _ _) hk)) ?_; conv => whnf)
 | ((with_reducible refine CallK.id ?_); refine CallK.fresh (fun ms w' hk => scopy1113 (s := ⟨⟨nm, rt, dl, stp⟩, 3, at_, cn, tr, bg, er⟩) (Sees.rd (hs _ _ _) hk) (by show stp.length ≤ _; omega)) ?_; conv => whnf)
 | (apply r_any (id := 10); refine mixed; kernel_rfl; kernel_rfl; conv => whnf)
 | ((with_reducible refine OpK.id ?_); (first | (refine OpK.ixP rfl rfl rfl rfl rfl rfl (by omega) (by show _ < (4 : Int); omega) ?_) | refine OpK.ldp rfl rfl (hg.pc1 (c := ⟨Tryz.prog, TB, _, w, S, _, TBok⟩) (k := 3) (hE 1) rfl) (List.cons_ne_nil _ _) ?_); conv => whnf)
 | ((with_reducible refine CallK.at 368 ?_); refine CallK.pu (fun w' => hun1368 rfl _ w') ?_; conv => whnf)
 | ((with_reducible apply OpK.more); (focus refine sok); (conv => whnf); fail_if_success guard_target =ₛ False)
 | ((with_reducible ((first | refine InAt.mk (fun K' hK => ?_) | refine AnyAt.mk (fun K' hK => ?_) | (refine hK _ ?_; clear hK K') | (refine hK _ _ ?_; clear hK K')))); conv => whnf)
 | (refine And.intro ?_ ?_; all_goals (conv => whnf))
 | (refine if_decF (by omega) ?_; conv => whnf)
 | (refine if_cond (fun h => ?_) (fun h => ?_); all_goals (conv => whnf))
 | with_reducible apply_assumption -symm -exfalso)
    all_goals first | (refine FinK.frZ (i := 0) (?_, ?_) ?_ ?_; rotate_left 2; rfl; refine HSub.trans (HSub.ext (i := 0) (fun _ _ hx => ?_) HSub.nil) (HSub.pick atG); exact hx) | (exfalso; simp_all; done)
abbrev Pl := Int → Option Addr × Nat
abbrev SL := List (Int × OM.Sg)
abbrev AscS (L : SL) : Prop := L.Pairwise fun x y => x.1 < y.1
def getL (L : SL) (id : Int) : Option OM.Sg := (L.find? fun x => x.1 == id).map (·.2)
abbrev sgV (s : OM.Sg) (a : Option Addr × Nat) : Value := .agg (denL (sgc s a.1 a.2)).toArray
def sgF (L : SL) (A : Pl) : Int → Option Value := fun id => (getL L id).map fun s => sgV s (A id)
abbrev stA (s : OM.Sg) (a : Option Addr × Nat) : Ass := SlA 80 2 a.1 s.d.steps.length a.2 (stepCells s.d.steps)
def stB (A : Pl) (x : Int × OM.Sg) : Blk := .ext 0 (stA x.2 (A x.1))
def StA (L : SL) (A : Pl) : Ass := AssL (L.map (stB A))
def setA (A : Pl) (id : Int) (a : Option Addr × Nat) : Pl := fun k => if k = id then a else A k
theorem getL_put {L : SL} {id : Int} {s : OM.Sg} (h : AscS L) (k : Int) : getL (OM.putS id s L) k = if k = id then some s else getL L k := by
  unfold getL
  rw [OM.putS_get k h]
  by_cases e : k = id
  · rw [if_pos e, if_pos e]; rfl
  · rw [if_neg e, if_neg e]
theorem getL_mem {L : SL} {id : Int} {s : OM.Sg} (h : getL L id = some s) : (id, s) ∈ L := by
  unfold getL at h
  rw [Option.map_eq_some_iff] at h
  obtain ⟨x, h1, rfl⟩ := h
  have h2 := List.find?_some h1
  have h3 := List.mem_of_find?_eq_some h1
  obtain ⟨i, s⟩ := x
  have : i = id := by simpa using h2
  subst this; exact h3
theorem getL_none {L : SL} {id : Int} (h : getL L id = none) : ∀ x ∈ L, x.1 ≠ id := by
  intro x hx e
  unfold getL at h
  rw [Option.map_eq_none_iff, List.find?_eq_none] at h
  exact h x hx (by simpa using e)
theorem getL_of_mem {L : SL} (hs : AscS L) {x : Int × OM.Sg} (h : x ∈ L) : getL L x.1 = some x.2 := by
  cases hg : getL L x.1 with
  | none => exact absurd rfl (getL_none hg x h)
  | some s =>
    have h1 := getL_mem hg
    have : (x.1, s) = x := by
      have hp : ∀ {l : SL} {y z : Int × OM.Sg}, AscS l → y ∈ l → z ∈ l → y.1 = z.1 → y = z := by
        intro l
        induction l with
        | nil => intro y z _ hy; cases hy
        | cons w l ih =>
          intro y z hp hy hz e
          rw [AscS, List.pairwise_cons] at hp
          rcases List.mem_cons.1 hy with e1 | hy1 <;> rcases List.mem_cons.1 hz with e2 | hz1
          · rw [e1, e2]
          · subst e1; have := hp.1 z hz1; omega
          · subst e2; have := hp.1 y hy1; omega
          · exact ih hp.2 hy1 hz1 e
      exact hp hs h1 h rfl
    rw [← this]
theorem sgF_put {L : SL} {A : Pl} {id : Int} {s : OM.Sg} {a : Option Addr × Nat} (h : AscS L) : sgF (OM.putS id s L) (setA A id a) = putK (sgF L A) id (sgV s a) := by
  funext k
  unfold sgF putK setA
  rw [getL_put h]
  by_cases e : k = id
  · simp [e]
  · simp [e]
theorem sgF_same {L : SL} {A : Pl} {id : Int} {s : OM.Sg} (h : getL L id = some s) : putK (sgF L A) id (sgV s (A id)) = sgF L A := by
  funext k
  unfold sgF putK
  by_cases e : k = id
  · subst e; simp [h]
  · simp [e]
theorem sgF_get {L : SL} {A : Pl} {id : Int} {s : OM.Sg} (h : getL L id = some s) : sgF L A id = some (sgV s (A id)) := by unfold sgF; rw [h]; rfl
theorem sgF_none {L : SL} {A : Pl} {id : Int} (h : getL L id = none) : sgF L A id = none := by unfold sgF; rw [h]; rfl
theorem keys_sgF {L : SL} {A : Pl} (hs : AscS L) (hl : L.length ≤ 1000) : KeysOf (sgF L A) (L.map (·.1)) := by
  refine ⟨?_, fun z => ?_, by rw [List.length_map]; omega⟩
  · rw [List.pairwise_map]; exact hs
  · unfold sgF
    rw [Option.isSome_map, List.mem_map]
    constructor
    · rintro ⟨x, hx, rfl⟩; rw [getL_of_mem hs hx]; rfl
    · intro h
      obtain ⟨s, hs⟩ := Option.isSome_iff_exists.1 h
      exact ⟨_, getL_mem hs, rfl⟩
theorem stB_set {A : Pl} {id : Int} {a : Option Addr × Nat} {l : SL} (h : ∀ x ∈ l, x.1 ≠ id) : l.map (stB (setA A id a)) = l.map (stB A) := by
  refine List.map_congr_left fun x hx => ?_
  unfold stB setA
  rw [if_neg (h x hx)]
theorem StA_put0 {A : Pl} {id : Int} {s : OM.Sg} {a : Option Addr × Nat} : ∀ {L : SL}, AscS L → HSub ((OM.putS id s L).map (stB (setA A id a))) (L.map (stB A) ++ [.ext 0 (stA s a)])
  | [], _ => by
    have : stB (setA A id a) (id, s) = .ext 0 (stA s a) := by unfold stB setA; rw [if_pos rfl]
    show HSub [stB (setA A id a) (id, s)] [.ext 0 (stA s a)]
    rw [this]; exact HSub.refl _
  | x :: l, h => by
    have h' := h
    rw [AscS, List.pairwise_cons] at h'
    have e0 : stB (setA A id a) (id, s) = .ext 0 (stA s a) := by unfold stB setA; rw [if_pos rfl]
    unfold OM.putS
    by_cases h1 : id < x.1
    · rw [if_pos h1, List.map_cons, e0, stB_set (l := x :: l) (by
        intro y hy
        rcases List.mem_cons.1 hy with rfl | hy
        · omega
        · have := h'.1 y hy; omega)]
      exact HSub.perm (List.perm_append_comm)
    · rw [if_neg h1]
      by_cases h2 : id = x.1
      · rw [if_pos h2, List.map_cons, e0, stB_set (l := l) (by
          intro y hy
          have := h'.1 y hy; omega)]
        exact .drop (HSub.perm (List.perm_append_comm))
      · rw [if_neg h2, List.map_cons, List.map_cons, List.cons_append]
        have e1 : stB (setA A id a) x = stB A x := by unfold stB setA; rw [if_neg (fun e => h2 e.symm)]
        rw [e1]
        exact HSub.ext (fun _ _ h => h) (StA_put0 h'.2)
theorem StA_put {A : Pl} {id : Int} {s : OM.Sg} {a : Option Addr × Nat} {L : SL} (h : AscS L) {i j k : Nat} : HSub [.ext i (StA (OM.putS id s L) (setA A id a))] [.ext j (StA L A), .ext k (stA s a)] :=
  HSub.trans HSub.join (HSub.trans (StA_put0 h) (HSub.app2 (A := [.ext j (StA L A)]) HSub.unjoin (HSub.ext (fun _ _ h => h) HSub.nil)))
theorem HSub.ofMem {x : Blk} {M : List Blk} (h : x ∈ M) : HSub [x] M := by
  obtain ⟨A, B, rfl⟩ := List.append_of_mem h
  exact HSub.trans (fun w S hS => by
    cases hS with
    | @cons _ _ S1 T1 hx hb hH hd => exact ⟨_, .cons hx hb .nil (fun _ _ h => h), fun k hk => hk.elim .inl False.elim⟩) (HSub.front x A B)
theorem StA.sees {c : Cx} {H : List Blk} {L : SL} {A : Pl} {i : Nat} {f : Blk → List Blk} (hu : At H (.ext i (StA L A)) f) {id : Int} {s : OM.Sg} (h : (id, s) ∈ L) : Sees c H 80 2 (A id).1 s.d.steps.length (A id).2 (stepCells s.d.steps) := by
  intro ms w hk
  have h1 : HSub [.ext 0 (stA s (A id))] H := HSub.trans (HSub.ofMem (x := stB A (id, s)) (M := L.map (stB A)) (List.mem_map.2 ⟨_, h, rfl⟩)) (HSub.trans HSub.unjoin (HSub.pick hu))
  exact Sees.ext (c := c) (i := 0) At.head ms w (hk.hsub h1)
def tabH (t : Nat) (L : SL) (z : Nat × Pl) : List Blk := [.blk 0 t [.v (.map (some z.1))] 210, .ext 1 (MpK z.1 (sgF L z.2)), .ext 2 (StA L z.2)]
abbrev TabA (t : Nat) (L : SL) : Ass := exA (tabH t L)
theorem tab_id {t m : Nat} {L : SL} {A : Pl} {i j k q : Nat} : HSub [.ext q (TabA t L)] [.blk i t [.v (.map (some m))] 210, .ext j (MpK m (sgF L A)), .ext k (StA L A)] :=
  HSub.trans (exA.close (A := tabH t L) (m, A)) (HSub.keep rfl (HSub.ext (fun _ _ h => h) (HSub.ext (fun _ _ h => h) HSub.nil)))
theorem tab_same {t m : Nat} {L : SL} {A : Pl} {id : Int} {s : OM.Sg} (hg : getL L id = some s) {i j k q : Nat} : HSub [.ext q (TabA t L)] [.blk i t [.v (.map (some m))] 210, .ext j (MpK m (putK (sgF L A) id (sgV s (A id)))), .ext k (StA L A)] :=
  HSub.trans (exA.close (A := tabH t L) (m, A)) (HSub.keep rfl (HSub.ext (fun _ _ h => by rw [sgF_same hg] at h; exact h) (HSub.ext (fun _ _ h => h) HSub.nil)))
theorem tab_put {t m : Nat} {L : SL} {A : Pl} {id : Int} {s : OM.Sg} {a : Option Addr × Nat} (hs : AscS L) {i j k l q : Nat} : HSub [.ext q (TabA t (OM.putS id s L))] [.blk i t [.v (.map (some m))] 210, .ext j (MpK m (putK (sgF L A) id (sgV s a))), .ext k (StA L A), .ext l (stA s a)] :=
  HSub.trans (exA.close (A := tabH t (OM.putS id s L)) (m, setA A id a)) (HSub.keep rfl (HSub.ext (fun _ _ h => by rw [sgF_put hs]; exact h) (StA_put hs)))
theorem in1111 : InSt 111 Tryz.f111 42 := InSt.mk' Tryz.func111 rfl Tryz.ntmps111
theorem in1112 : InSt 112 Tryz.f112 8 := InSt.mk' Tryz.func112 rfl Tryz.ntmps112
theorem in1122 : InSt 122 Tryz.f122 12 := InSt.mk' Tryz.func122 rfl Tryz.ntmps122
theorem in1156 : InSt 156 Tryz.f156 14 := InSt.mk' Tryz.func156 rfl Tryz.ntmps156
theorem in1137 : InSt 137 Tryz.f137 7 := InSt.mk' Tryz.func137 rfl Tryz.ntmps137
theorem in1138 : InSt 138 Tryz.f138 32 := InSt.mk' Tryz.func138 rfl Tryz.ntmps138
theorem in1130 : InSt 130 Tryz.f130 31 := InSt.mk' Tryz.func130 rfl Tryz.ntmps130
theorem get1056 {t : Nat} {L : SL} {id : Int} {s : OM.Sg} (hg : getL L id = some s) (hok : OM.SOk s) (hz : Zok id) (w : World) :
    FrZ Tryz.prog 56 #[pv t, .int .i64 id] w (AssL [.ext 0 (TabA t L)]) (fun z : Option Addr × Nat => .tuple #[sgV s z, .int .i64 0]) (fun z => AssL [.ext 0 (TabA t L), .ext 1 (stA s z)]) := by
  have hd := OM.Dfn.steps_pos hok.d
  refine enter_frZ TBok (H := [.ext 0 (TabA t L)]) all_foot Tryz.func56 rfl rfl Tryz.ntmps56 [.loc t 0 0, .v (.int .i64 id)] rfl rfl ?_
  intro S _ _
  conv => whnf
  refine Run.ex (A := tabH t L) (i := 0) .head ?_
  rintro ⟨m, P0⟩
  dsimp only [tabH, layF]
  repeat' (first
 | with_reducible ((first | refine r_seq (fun KS hS => ?_) | (refine hS _ _ ?_; clear hS KS) | (refine hA _ ?_; clear hA KA) | (refine hB _ ?_; clear hB KB)))
 | ((with_reducible (first | refine r_region ?_ | refine r_cond (fun KA hA KB hB => ?_) | refine r_ret ?_ | refine r_skip ?_ | refine And.intro rfl ?_ | intro b)); conv => whnf)
 | ((with_reducible refine CallK.id ?_); (first | apply in1111 | apply in1112 | apply in1122); rfl; rfl; rfl; intro A; conv => whnf)
 | ((with_reducible refine OpK.id ?_); refine OpK.re (s := .tup [.agg (sgc s (P0 id).1 (P0 id).2), .v (.bool true)]) (OpK.lkS rfl rfl rfl rfl rfl rfl rfl atG (sgF_get hg) ⟨rfl, rfl⟩) ?_; conv => whnf)
 | ((with_reducible refine CallK.id ?_); refine CallK.fresh (fun ms w' hk => scopy1113 (s := s) (Sees.rd (StA.sees atG (getL_mem hg)) hk) (by omega)) ?_; conv => whnf)
 | ((with_reducible refine OpK.id ?_); refine OpK.upK rfl rfl rfl rfl rfl rfl rfl rfl atG hz ?_; conv => whnf)
 | (apply r_any (id := 9); refine mixed; kernel_rfl; kernel_rfl; conv => whnf)
 | ((with_reducible apply OpK.more); (focus refine sok); (conv => whnf); fail_if_success guard_target =ₛ False)
 | ((with_reducible ((first | refine InAt.mk (fun K' hK => ?_) | refine AnyAt.mk (fun K' hK => ?_) | (refine hK _ ?_; clear hK K') | (refine hK _ _ ?_; clear hK K')))); conv => whnf)
 | (refine And.intro ?_ ?_; all_goals (conv => whnf))
 | with_reducible apply_assumption -symm -exfalso)
  all_goals refine FinK.frZL (M := fun z => [.ext 0 (TabA t L), .ext 1 (stA s z)]) b rfl (HSub.trans (HSub.app2 (A' := [.ext 0 (TabA t L)]) (B' := [.ext 1 (stA s b)]) (tab_same (i := 0) (j := 1) (k := 2) (m := m) (A := P0) hg) (HSub.refl _)) seG)
theorem noGet1056 {t : Nat} {L : SL} {id : Int} (hg : getL L id = none) (w : World) :
    Fr Tryz.prog 56 #[pv t, .int .i64 id] w (AssL [.ext 0 (TabA t L)]) (.tuple #[.agg #[.string ⟨#[]⟩, .int .i64 0, .int .i64 0, .slice none 0 0, .int .i64 0, .int .i64 0, .bool false, .int .i64 0, .int .i64 0, .int .i64 0], .int .i64 5]) (AssL [.ext 0 (TabA t L)]) := by
  refine enter_fr TBok (H := [.ext 0 (TabA t L)]) all_foot Tryz.func56 rfl rfl Tryz.ntmps56 [.loc t 0 0, .v (.int .i64 id)] rfl rfl ?_
  intro S
  conv => whnf
  refine Run.ex (A := tabH t L) (i := 0) .head ?_
  rintro ⟨m, P0⟩
  dsimp only [tabH, layF]
  repeat' (first
 | with_reducible ((first | refine r_seq (fun KS hS => ?_) | (refine hS _ _ ?_; clear hS KS) | (refine hA _ ?_; clear hA KA) | (refine hB _ ?_; clear hB KB)))
 | ((with_reducible (first | refine r_region ?_ | refine r_cond (fun KA hA KB hB => ?_) | refine r_ret ?_ | refine r_skip ?_ | refine And.intro rfl ?_ | intro b)); conv => whnf)
 | ((with_reducible refine CallK.id ?_); (first | apply in1111 | apply in1122); rfl; rfl; rfl; intro A; conv => whnf)
 | ((with_reducible refine OpK.id ?_); refine OpK.lkN rfl rfl rfl rfl rfl rfl rfl rfl atG (sgF_none hg) ?_; conv => whnf)
 | ((with_reducible apply OpK.more); (focus refine sok); (conv => whnf); fail_if_success guard_target =ₛ False)
 | with_reducible apply_assumption -symm -exfalso)
  all_goals exact FinK.frL rfl (HSub.trans (tab_id (i := 0) (j := 1) (k := 2) (m := m) (A := P0)) seG)
theorem zok_id {id : Int} (h : 1 ≤ id ∧ id ≤ 9999) : Zok id := ⟨by omega, by omega⟩
theorem tcancel1098 {t : Nat} {L : SL} {id : Int} {s : OM.Sg} (hs : AscS L) (hg : getL L id = some s) (hok : OM.SOk s) (h1 : s.st = 1) (hz : Zok id) (w : World) :
    Fr Tryz.prog 98 #[pv t, .int .i64 id] w (AssL [.ext 0 (TabA t L)]) (.int .i64 0) (AssL [.ext 0 (TabA t (OM.putS id { s with cancel := true } L))]) := by
  have hd := OM.Dfn.steps_pos hok.d
  refine enter_fr TBok (H := [.ext 0 (TabA t L)]) all_foot Tryz.func98 rfl rfl Tryz.ntmps98 [.loc t 0 0, .v (.int .i64 id)] rfl rfl ?_
  intro S
  conv => whnf
  refine Run.ex (A := tabH t L) (i := 0) .head ?_
  rintro ⟨m, P0⟩
  dsimp only [tabH, layF]
  repeat' (first
 | with_reducible ((first | refine r_seq (fun KS hS => ?_) | (refine hS _ _ ?_; clear hS KS) | (refine hA _ ?_; clear hA KA) | (refine hB _ ?_; clear hB KB)))
 | ((with_reducible (first | refine r_region ?_ | refine r_cond (fun KA hA KB hB => ?_) | refine r_ret ?_ | refine r_skip ?_ | refine And.intro rfl ?_ | intro b)); conv => whnf)
 | ((with_reducible refine CallK.id ?_); (first | apply in1111 | apply in1122); rfl; rfl; rfl; intro A; conv => whnf)
 | ((with_reducible refine OpK.id ?_); refine OpK.re (s := .tup [.agg (sgc s (P0 id).1 (P0 id).2), .v (.bool true)]) (OpK.lkS rfl rfl rfl rfl rfl rfl rfl atG (sgF_get hg) ⟨rfl, rfl⟩) ?_; conv => whnf)
 | ((with_reducible refine CallK.id ?_); refine CallK.fresh (fun ms w' hk => cancel1152 hok h1 (Sees.rd (StA.sees atG (getL_mem hg)) hk)) ?_; conv => whnf)
 | ((with_reducible refine OpK.id ?_); refine OpK.upK rfl rfl rfl rfl rfl rfl rfl rfl atG hz ?_; conv => whnf)
 | (apply r_any (id := 9); refine mixed; kernel_rfl; kernel_rfl; conv => whnf)
 | ((with_reducible apply OpK.more); (focus refine sok); (conv => whnf); fail_if_success guard_target =ₛ False)
 | ((with_reducible ((first | refine InAt.mk (fun K' hK => ?_) | refine AnyAt.mk (fun K' hK => ?_) | (refine hK _ ?_; clear hK K') | (refine hK _ _ ?_; clear hK K')))); conv => whnf)
 | (refine And.intro ?_ ?_; all_goals (conv => whnf))
 | with_reducible apply_assumption -symm -exfalso)
  all_goals exact FinK.frL rfl (HSub.trans (tab_put (i := 0) (j := 1) (k := 2) (l := 2) (m := m) (A := P0) (a := b) hs) seG)
theorem tnoCancel1098 {t : Nat} {L : SL} {id : Int} {s : OM.Sg} (hg : getL L id = some s) (hok : OM.SOk s) (h1 : s.st ≠ 1) (w : World) :
    Fr Tryz.prog 98 #[pv t, .int .i64 id] w (AssL [.ext 0 (TabA t L)]) (.int .i64 9) (AssL [.ext 0 (TabA t L)]) := by
  have hd := OM.Dfn.steps_pos hok.d
  refine enter_fr TBok (H := [.ext 0 (TabA t L)]) all_foot Tryz.func98 rfl rfl Tryz.ntmps98 [.loc t 0 0, .v (.int .i64 id)] rfl rfl ?_
  intro S
  conv => whnf
  refine Run.ex (A := tabH t L) (i := 0) .head ?_
  rintro ⟨m, P0⟩
  dsimp only [tabH, layF]
  repeat' (first
 | with_reducible ((first | refine r_seq (fun KS hS => ?_) | (refine hS _ _ ?_; clear hS KS) | (refine hB _ ?_; clear hB KB)))
 | ((with_reducible (first | refine r_region ?_ | refine r_cond (fun KA hA KB hB => ?_) | refine r_ret ?_ | refine r_skip ?_ | refine And.intro rfl ?_ | intro b)); conv => whnf)
 | ((with_reducible refine CallK.id ?_); (first | apply in1111 | apply in1122); rfl; rfl; rfl; intro A; conv => whnf)
 | ((with_reducible refine OpK.id ?_); refine OpK.re (s := .tup [.agg (sgc s (P0 id).1 (P0 id).2), .v (.bool true)]) (OpK.lkS rfl rfl rfl rfl rfl rfl rfl atG (sgF_get hg) ⟨rfl, rfl⟩) ?_; conv => whnf)
 | ((with_reducible refine CallK.at 152 ?_); refine CallK.puW (fun ms w' hk => noCancel1152 hok h1 (Sees.rd (StA.sees atG (getL_mem hg)) hk)) ?_; conv => whnf)
 | ((with_reducible apply OpK.more); (focus refine sok); (conv => whnf); fail_if_success guard_target =ₛ False)
 | with_reducible apply_assumption -symm -exfalso)
  all_goals exact FinK.frL rfl (HSub.trans (tab_id (i := 0) (j := 1) (k := 2) (m := m) (A := P0)) seG)
theorem KO.gl {c : Cx} {ms : List Nat} {w : World} {H : List Blk} {i : Nat} {o0 o1 : Obj} {f : Blk → List Blk} (hko : KObj o0 o1) (hu : At H (.ext i (GlA o0 o1)) f) (hk : Kn c.W c.S ms H w) : KO w := ⟨o0, o1, hko, hk.gl hu⟩
theorem resultX1157 {x : Int} (hx : x = 0) {s : OM.Sg} (h : OM.SOk s) (ho : s.st < 4) {res now : Int} (hr0 : 0 ≤ res ∧ res ≤ 18) (hn : 0 ≤ now ∧ now ≤ 2147483648) {a : Option Addr} {cap : Nat} {w : World} (hg : KO w) (hr : RdS w 80 2 a s.d.steps.length cap (stepCells s.d.steps)) :
    FrZ Tryz.prog 157 #[.agg (denL (sgc s a cap)).toArray, .agg #[.int .i64 x, .int .i64 s.at_, .int .i64 (OM.phaseOf s.st)], .int .i64 res, .int .i64 now] w emp (fun z : Option Addr × Nat => .tuple #[.agg (denL (sgc (s.follow res now) z.1 z.2)).toArray, .int .i64 0]) (fun z => stA (s.follow res now) z) := by
  subst hx
  have e : (s.follow res now).d = s.d := OM.follow_d s res now
  have := result1157 h ho hr0 hn hg hr
  unfold stA
  rw [e]
  exact this
theorem tresult1105 {t : Nat} {L : SL} {id res now : Int} {s : OM.Sg} {o0 o1 : Obj} (hko : KObj o0 o1) (hs : AscS L) (hg : getL L id = some s) (hok : OM.SOk s) (ho : s.st < 4) (hr0 : 0 ≤ res ∧ res ≤ 18) (hn : 0 ≤ now ∧ now ≤ 2147483648) (hz : 1 ≤ id ∧ id ≤ 9999) (w : World) :
    Fr Tryz.prog 105 #[pv t, .int .i64 id, .agg #[.int .i64 id, .int .i64 s.at_, .int .i64 (OM.phaseOf s.st)], .int .i64 res, .int .i64 now] w (AssL [.ext 0 (TabA t L), .ext 9 (GlA o0 o1)]) (.int .i64 0) (AssL [.ext 0 (TabA t (OM.putS id (s.follow res now) L)), .ext 9 (GlA o0 o1)]) := by
  have hd := OM.Dfn.steps_pos hok.d
  have hfd := OM.follow_d s res now
  refine enter_fr TBok (H := [.ext 0 (TabA t L), .ext 9 (GlA o0 o1)]) all_foot Tryz.func105 rfl rfl Tryz.ntmps105 [.loc t 0 0, .v (.int .i64 id), .agg [.v (.int .i64 id), .v (.int .i64 s.at_), .v (.int .i64 (OM.phaseOf s.st))], .v (.int .i64 res), .v (.int .i64 now)] rfl rfl ?_
  intro S
  conv => whnf
  refine Run.ex (A := tabH t L) (i := 0) .head ?_
  rintro ⟨m, P0⟩
  dsimp only [tabH, layF]
  repeat' (first
 | with_reducible ((first | refine r_seq (fun KS hS => ?_) | (refine hS _ _ ?_; clear hS KS) | (refine hA _ ?_; clear hA KA) | (refine hB _ ?_; clear hB KB)))
 | ((with_reducible (first | refine r_region ?_ | refine r_cond (fun KA hA KB hB => ?_) | refine r_ret ?_ | refine r_skip ?_ | refine And.intro rfl ?_ | intro b)); conv => whnf)
 | ((with_reducible refine WrapK.i64 ?_ ?_); (focus omega); conv => whnf)
 | ((with_reducible refine CallK.id ?_); (first | apply in1111 | apply in1122 | apply in1156); rfl; rfl; rfl; intro A; conv => whnf)
 | ((with_reducible refine OpK.id ?_); refine OpK.re (s := .tup [.agg (sgc s (P0 id).1 (P0 id).2), .v (.bool true)]) (OpK.lkS rfl rfl rfl rfl rfl rfl rfl atG (sgF_get hg) ⟨rfl, rfl⟩) ?_; conv => whnf)
 | ((with_reducible refine CallK.id ?_); refine CallK.fresh (fun ms w' hk => resultX1157 (Int.sub_self id) hok ho hr0 hn (KO.gl hko atG hk) (Sees.rd (StA.sees atG (getL_mem hg)) hk)) ?_; conv => whnf)
 | ((with_reducible refine OpK.id ?_); refine OpK.upK rfl rfl rfl rfl rfl rfl rfl rfl atG (zok_id hz) ?_; conv => whnf)
 | (apply r_any (id := 9); refine mixed; kernel_rfl; kernel_rfl; conv => whnf)
 | ((with_reducible apply OpK.more); (focus refine sok); (conv => whnf); fail_if_success guard_target =ₛ False)
 | ((with_reducible ((first | refine InAt.mk (fun K' hK => ?_) | refine AnyAt.mk (fun K' hK => ?_) | (refine hK _ ?_; clear hK K') | (refine hK _ _ ?_; clear hK K')))); conv => whnf)
 | (refine And.intro ?_ ?_; all_goals (conv => whnf))
 | with_reducible apply_assumption -symm -exfalso)
  all_goals exact FinK.frL rfl (HSub.trans (HSub.app2 (A' := [.ext 0 (TabA t (OM.putS id (s.follow res now) L))]) (B' := [.ext 9 (GlA o0 o1)]) (tab_put (i := 0) (j := 1) (k := 2) (l := 2) (m := m) (A := P0) (a := b) hs) (HSub.refl _)) seG)
theorem sz_nm {s : ByteArray} (h : OM.nmOk s = true) : s.size ≤ 16 := by
  unfold OM.nmOk at h
  simp only [Bool.and_eq_true, decide_eq_true_eq] at h
  exact h.1.2
theorem rsz {r : OM.Rg} (h : r.ok = true) : RSz r := by
  unfold OM.Rg.ok at h
  simp only [Bool.and_eq_true, Bool.or_eq_true] at h
  obtain ⟨⟨h1, h2⟩, _⟩ := h
  have e : ∀ s : ByteArray, OM.eqS s OM.eps = true ∨ OM.nmOk s = true → s.size ≤ 1099511627776 := by
    rintro s (h | h)
    · unfold OM.eqS at h
      rw [decide_eq_true_eq] at h
      subst h
      decide
    · have := sz_nm h; omega
  exact ⟨e _ h1, e _ h2⟩
abbrev mvc (m : OM.Mv) : List SV := [.v (.string m.r.lo), .v (.string m.r.hi), .v (.int .i64 m.fr), .v (.int .i64 m.to), .v (.int .i64 m.st), .v (.string m.data)]
abbrev mvC (m : OM.Mv) : List Value := [.string m.r.lo, .string m.r.hi, .int .i64 m.fr, .int .i64 m.to, .int .i64 m.st, .string m.data]
theorem mvC_len (m : OM.Mv) : (mvC m).length = 6 := rfl
abbrev ptc (p : OM.Pt) : List SV := [.v (.string p.r.lo), .v (.string p.r.hi), .v (.int .i64 p.group), .v (.int .i64 p.epoch)]
abbrev ptC (p : OM.Pt) : List Value := [.string p.r.lo, .string p.r.hi, .int .i64 p.group, .int .i64 p.epoch]
theorem ptC_len (p : OM.Pt) : (ptC p).length = 4 := rfl
theorem mv_at {l : List OM.Mv} {i : Nat} {m : OM.Mv} (h : l[i]? = some m) : ((l.flatMap mvC).drop ((i : Int).toNat * 6)).take 6 = denL (mvc m) := flat_at mvC_len h
theorem pt_at {l : List OM.Pt} {i : Nat} {p : OM.Pt} (h : l[i]? = some p) : ((l.flatMap ptC).drop ((i : Int).toNat * 4)).take 4 = denL (ptc p) := flat_at ptC_len h
def mvsH (t : Nat) (l : List OM.Mv) (z : Option Addr × Nat) : List Blk := [.blk 0 t [.v (.bool true), .v (.slice z.1 l.length z.2)] 212, .ext 1 (SlA 83 6 z.1 l.length z.2 (l.flatMap mvC))]
abbrev MvsA (t : Nat) (l : List OM.Mv) : Ass := exA (mvsH t l)
theorem mvs_id {t : Nat} {l : List OM.Mv} {a : Option Addr} {n cap i j q : Nat} (hn : n = l.length) : HSub [.ext q (MvsA t l)] [.blk i t [.v (.bool true), .v (.slice a n cap)] 212, .ext j (SlA 83 6 a n cap (l.flatMap mvC))] := by
  subst hn
  exact HSub.trans (exA.close (A := mvsH t l) (a, cap)) (HSub.keep rfl (HSub.ext (fun _ _ h => h) HSub.nil))
def ptsH (t : Nat) (l : List OM.Pt) (z : Option Addr × Nat) : List Blk := [.blk 0 t [.v (.slice z.1 l.length z.2)] 202, .ext 1 (SlA 193 4 z.1 l.length z.2 (l.flatMap ptC))]
abbrev PtsA (t : Nat) (l : List OM.Pt) : Ass := exA (ptsH t l)
theorem pts_id {t : Nat} {l : List OM.Pt} {a : Option Addr} {n cap i j q : Nat} (hn : n = l.length) : HSub [.ext q (PtsA t l)] [.blk i t [.v (.slice a n cap)] 202, .ext j (SlA 193 4 a n cap (l.flatMap ptC))] := by
  subst hn
  exact HSub.trans (exA.close (A := ptsH t l) (a, cap)) (HSub.keep rfl (HSub.ext (fun _ _ h => h) HSub.nil))
theorem in1125 : InSt 125 Tryz.f125 11 := InSt.mk' Tryz.func125 rfl Tryz.ntmps125
theorem in1126 : InSt 126 Tryz.f126 29 := InSt.mk' Tryz.func126 rfl Tryz.ntmps126
theorem in1155 : InSt 155 Tryz.f155 9 := InSt.mk' Tryz.func155 rfl Tryz.ntmps155
theorem in1133 : InSt 133 Tryz.f133 4 := InSt.mk' Tryz.func133 rfl Tryz.ntmps133
theorem mget1065 {t i : Nat} {l : List OM.Mv} {m : OM.Mv} (hm : l[i]? = some m) (hl : l.length ≤ 64) (w : World) :
    Fr Tryz.prog 65 #[pv t, .int .i64 ((i : Nat) + 1)] w (AssL [.ext 0 (MvsA t l)]) (.tuple #[.agg (mvC m).toArray, .int .i64 0]) (AssL [.ext 0 (MvsA t l)]) := by
  have hi : i < l.length := (List.getElem?_eq_some_iff.1 hm).1
  refine enter_fr TBok (H := [.ext 0 (MvsA t l)]) all_foot Tryz.func65 rfl rfl Tryz.ntmps65 [.loc t 0 0, .v (.int .i64 ((i : Nat) + 1))] rfl rfl ?_
  intro S
  conv => whnf
  refine Run.ex (A := mvsH t l) (i := 0) .head ?_
  rintro ⟨a, cap⟩
  dsimp only [mvsH, layF]
  refine Run.slAddr atG (by omega) (fun bs off hab => ?_)
  subst hab
  have e0 : ((i : Int) + 1 - 1) = (i : Nat) := by omega
  have e1 : ((i : Int) + 1 - 1).toNat = i := by omega
  repeat' (first
 | with_reducible ((first | refine r_seq (fun KS hS => ?_) | (refine hS _ _ ?_; clear hS KS) | (refine hB _ ?_; clear hB KB) | refine r_block ?_))
 | ((with_reducible (first | refine r_region ?_ | refine r_cond (fun KA hA KB hB => ?_) | refine r_ret ?_ | refine r_skip ?_ | refine And.intro rfl ?_ | intro b)); conv => whnf)
 | ((with_reducible refine WrapK.i64 ?_ ?_); (focus omega); conv => whnf)
 | ((with_reducible refine CallK.id ?_); (first | apply in1125 | apply in1126); rfl; rfl; rfl; intro A; conv => whnf)
 | ((with_reducible refine OpK.id ?_); (first | (refine OpK.idxA (k := 6) rfl rfl rfl rfl rfl rfl rfl (by omega) (by omega) ?_; rw [e1]) | refine OpK.ldp rfl rfl (PC.sl i atG (mv_at hm)) (List.cons_ne_nil _ _) ?_); conv => whnf)
 | ((with_reducible apply OpK.more); (focus refine sok); (conv => whnf); fail_if_success guard_target =ₛ False)
 | (refine if_decF (by omega) ?_; conv => whnf)
 | with_reducible apply_assumption -symm -exfalso)
  all_goals exact FinK.frL rfl (HSub.trans (mvs_id (i := 0) (j := 1) (t := t) (l := l) (a := some ⟨bs, off, none⟩) (cap := cap) rfl) seG)
theorem given1106 {t i : Nat} {l : List OM.Mv} {m : OM.Mv} {d : ByteArray} (hm : l[i]? = some m) (hst : m.st = 1) (hd : d.size ≤ 65536) (hl : l.length ≤ 64) (w : World) :
    Fr Tryz.prog 106 #[pv t, .int .i64 ((i : Nat) + 1), .string d] w (AssL [.ext 0 (MvsA t l)]) (.int .i64 0) (AssL [.ext 0 (MvsA t (l.modify i fun m => { m with st := 2, data := d }))]) := by
  have hi : i < l.length := (List.getElem?_eq_some_iff.1 hm).1
  have hc1 : (l.flatMap mvC).length = l.length * 6 := flat_len mvC_len l
  have hs1 := flat_set (g := mvC) mvC_len (f := fun m => { m with st := 2 }) (j := 4) (v := .int .i64 2) (by decide) hm rfl
  have hm2 : (l.modify i fun m => { m with st := 2 })[i]? = some { m with st := 2 } := by rw [List.getElem?_modify, hm]; simp
  have hs2 := flat_set (g := mvC) mvC_len (f := fun m => { m with data := d }) (j := 5) (v := .string d) (by decide) hm2 rfl
  have hs3 : (l.modify i fun m => { m with st := 2 }).modify i (fun m => { m with data := d }) = l.modify i fun m => { m with st := 2, data := d } := by rw [List.modify_modify_eq]; rfl
  have hat2 : (((l.flatMap mvC).set (i * 6 + 4) (den (.v (.int .i64 2)))).drop (i * 6)).take 6 = denL (mvc { m with st := 2 }) := by
    show (((l.flatMap mvC).set (i * 6 + 4) (.int .i64 2)).drop (i * 6)).take 6 = _
    rw [hs1]; exact mv_at hm2
  rw [hs3, ← hs1] at hs2
  refine enter_fr TBok (H := [.ext 0 (MvsA t l)]) all_foot Tryz.func106 rfl rfl Tryz.ntmps106 [.loc t 0 0, .v (.int .i64 ((i : Nat) + 1)), .v (.string d)] rfl rfl ?_
  intro S
  conv => whnf
  refine Run.ex (A := mvsH t l) (i := 0) .head ?_
  rintro ⟨a, cap⟩
  dsimp only [mvsH, layF]
  refine Run.slAddr atG (by omega) (fun bs off hab => ?_)
  subst hab
  have e0 : ((i : Int) + 1 - 1) = (i : Nat) := by omega
  have e1 : ((i : Int) + 1 - 1).toNat = i := by omega
  repeat' (first
 | with_reducible ((first | refine r_seq (fun KS hS => ?_) | (refine hS _ _ ?_; clear hS KS) | (refine hB _ ?_; clear hB KB) | refine r_block ?_))
 | ((with_reducible (first | refine r_region ?_ | refine r_cond (fun KA hA KB hB => ?_) | refine r_ret ?_ | refine r_skip ?_ | refine And.intro rfl ?_ | intro b)); conv => whnf)
 | ((with_reducible refine WrapK.i64 ?_ ?_); (focus omega); conv => whnf)
 | ((with_reducible refine CallK.id ?_); (first | apply in1125 | apply in1126); rfl; rfl; rfl; intro A; conv => whnf)
 | ((with_reducible refine OpK.id ?_); (first | (refine OpK.idxA (k := 6) rfl rfl rfl rfl rfl rfl rfl (by omega) (by omega) ?_; rw [e1]) | refine OpK.fap rfl rfl (PC.sl i atG (mv_at hm)) ?_ | refine OpK.ldp rfl rfl (PC.field (cs := mvc m) 4 (PC.sl i atG (mv_at hm))) (List.cons_ne_nil _ _) ?_ | refine OpK.fap rfl rfl (PC.sl i atG hat2) ?_ | (refine OpK.stS (off := i * 6 + 4) rfl rfl rfl rfl rfl rfl atG (by show off + i * 6 + 4 = _; omega) (by rw [hc1]; omega) ?_) | (refine OpK.stS (off := i * 6 + 5) rfl rfl rfl rfl rfl rfl atG (by show off + i * 6 + 5 = _; omega) (by rw [List.length_set, hc1]; omega) ?_)); conv => whnf)
 | ((with_reducible apply OpK.more); (focus refine sok); (conv => whnf); fail_if_success guard_target =ₛ False)
 | ((first | refine if_decF (by omega) ?_ | refine if_ndecF (by omega) ?_); conv => whnf)
 | with_reducible apply_assumption -symm -exfalso)
  all_goals (refine FinK.frL rfl (HSub.trans (mvs_id (i := 0) (j := 1) (t := t) (l := l.modify i fun m => { m with st := 2, data := d }) (a := some ⟨bs, off, none⟩) (cap := cap) (n := l.length) (by rw [List.length_modify])) ?_); rw [← hs2]; exact seG)
theorem taken1107 {t i : Nat} {l : List OM.Mv} {m : OM.Mv} (hm : l[i]? = some m) (hst : m.st = 2) (hl : l.length ≤ 64) (w : World) :
    Fr Tryz.prog 107 #[pv t, .int .i64 ((i : Nat) + 1)] w (AssL [.ext 0 (MvsA t l)]) (.int .i64 0) (AssL [.ext 0 (MvsA t (l.modify i fun m => { m with st := 3, data := OM.eps }))]) := by
  have hi : i < l.length := (List.getElem?_eq_some_iff.1 hm).1
  have hc1 : (l.flatMap mvC).length = l.length * 6 := flat_len mvC_len l
  have hs1 := flat_set (g := mvC) mvC_len (f := fun m => { m with st := 3 }) (j := 4) (v := .int .i64 3) (by decide) hm rfl
  have hm2 : (l.modify i fun m => { m with st := 3 })[i]? = some { m with st := 3 } := by rw [List.getElem?_modify, hm]; simp
  have hs2 := flat_set (g := mvC) mvC_len (f := fun m => { m with data := OM.eps }) (j := 5) (v := .string OM.eps) (by decide) hm2 rfl
  have hs3 : (l.modify i fun m => { m with st := 3 }).modify i (fun m => { m with data := OM.eps }) = l.modify i fun m => { m with st := 3, data := OM.eps } := by rw [List.modify_modify_eq]; rfl
  have hat2 : (((l.flatMap mvC).set (i * 6 + 4) (den (.v (.int .i64 3)))).drop (i * 6)).take 6 = denL (mvc { m with st := 3 }) := by
    show (((l.flatMap mvC).set (i * 6 + 4) (.int .i64 3)).drop (i * 6)).take 6 = _
    rw [hs1]; exact mv_at hm2
  rw [hs3, ← hs1] at hs2
  refine enter_fr TBok (H := [.ext 0 (MvsA t l)]) all_foot Tryz.func107 rfl rfl Tryz.ntmps107 [.loc t 0 0, .v (.int .i64 ((i : Nat) + 1))] rfl rfl ?_
  intro S
  conv => whnf
  refine Run.ex (A := mvsH t l) (i := 0) .head ?_
  rintro ⟨a, cap⟩
  dsimp only [mvsH, layF]
  refine Run.slAddr atG (by omega) (fun bs off hab => ?_)
  subst hab
  have e0 : ((i : Int) + 1 - 1) = (i : Nat) := by omega
  have e1 : ((i : Int) + 1 - 1).toNat = i := by omega
  repeat' (first
 | with_reducible ((first | refine r_seq (fun KS hS => ?_) | (refine hS _ _ ?_; clear hS KS) | (refine hB _ ?_; clear hB KB) | refine r_block ?_))
 | ((with_reducible (first | refine r_region ?_ | refine r_cond (fun KA hA KB hB => ?_) | refine r_ret ?_ | refine r_skip ?_ | refine And.intro rfl ?_ | intro b)); conv => whnf)
 | ((with_reducible refine WrapK.i64 ?_ ?_); (focus omega); conv => whnf)
 | ((with_reducible refine CallK.id ?_); (first | apply in1125 | apply in1126); rfl; rfl; rfl; intro A; conv => whnf)
 | ((with_reducible refine OpK.id ?_); (first | (refine OpK.idxA (k := 6) rfl rfl rfl rfl rfl rfl rfl (by omega) (by omega) ?_; rw [e1]) | refine OpK.fap rfl rfl (PC.sl i atG (mv_at hm)) ?_ | refine OpK.ldp rfl rfl (PC.field (cs := mvc m) 4 (PC.sl i atG (mv_at hm))) (List.cons_ne_nil _ _) ?_ | refine OpK.fap rfl rfl (PC.sl i atG hat2) ?_ | (refine OpK.stS (off := i * 6 + 4) rfl rfl rfl rfl rfl rfl atG (by show off + i * 6 + 4 = _; omega) (by rw [hc1]; omega) ?_) | (refine OpK.stS (off := i * 6 + 5) rfl rfl rfl rfl rfl rfl atG (by show off + i * 6 + 5 = _; omega) (by rw [List.length_set, hc1]; omega) ?_)); conv => whnf)
 | ((with_reducible apply OpK.more); (focus refine sok); (conv => whnf); fail_if_success guard_target =ₛ False)
 | ((first | refine if_decF (by omega) ?_ | refine if_ndecF (by omega) ?_); conv => whnf)
 | with_reducible apply_assumption -symm -exfalso)
  all_goals (refine FinK.frL rfl (HSub.trans (mvs_id (i := 0) (j := 1) (t := t) (l := l.modify i fun m => { m with st := 3, data := OM.eps }) (a := some ⟨bs, off, none⟩) (cap := cap) (n := l.length) (by rw [List.length_modify])) ?_); rw [← hs2]; exact seG)
theorem openF_step {l : List OM.Mv} {i : Nat} {m : OM.Mv} (h : l[i]? = some m) : OM.openF ((i : Int) + 1) (l.drop i) = if m.st = 3 then OM.openF (((i + 1 : Nat) : Int) + 1) (l.drop (i + 1)) else ((i : Int) + 1, m) :: OM.openF (((i + 1 : Nat) : Int) + 1) (l.drop (i + 1)) := by
  have hi : i < l.length := (List.getElem?_eq_some_iff.1 h).1
  have hm : l[i] = m := (List.getElem?_eq_some_iff.1 h).2
  rw [List.drop_eq_getElem_cons hi, hm, OM.openF]
  rw [show (i : Int) + 1 + 1 = ((i + 1 : Nat) : Int) + 1 by omega]
theorem drop_cons {α : Type} {l r : List α} {k : Nat} {x : α} (h : l.drop k = x :: r) : l[k]? = some x ∧ l.drop (k + 1) = r := by
  constructor
  · have := congrArg (fun q => q[0]?) h
    simpa [List.getElem?_drop] using this
  · have := congrArg (fun q => q.drop 1) h
    simpa [List.drop_drop] using this
abbrev mvX (x : Int × OM.Mv) : List SV := [.v (.int .i64 x.1), .agg (mvc x.2)]
theorem mopen1193 {t bx : Nat} {l : List OM.Mv} (hl : l.length ≤ 64) : ItX Tryz.prog 193 (denL [.loc bx 11 0]) [.blk 11 bx [.loc t 0 0] 118, .ext 12 (MvsA t l)] [.blk 11 bx [.loc t 0 0] 118, .ext 12 (MvsA t l)] (((OM.openF 1 l).map mvX).map denL) := by
  intro stop J yv hy w
  refine enter_fr TBok (H := .ext 0 (J 0) :: [.blk 11 bx [.loc t 0 0] 118, .ext 12 (MvsA t l)]) all_foot Tryz.func193 rfl rfl Tryz.ntmps193 [.v yv, .loc bx 11 0] rfl rfl ?_
  intro S
  conv => whnf
  refine Run.ex (A := mvsH t l) (i := 12) (.tail (.tail .head)) ?_
  rintro ⟨a, cap⟩
  dsimp only [mvsH, layF]
  repeat' (first
 | with_reducible ((first | refine r_seq (fun KS hS => ?_) | (refine hS _ _ ?_; clear hS KS) | (refine hB _ ?_; clear hB KB) | refine r_block ?_))
 | ((with_reducible (first | refine r_region ?_ | refine r_cond (fun KA hA KB hB => ?_) | refine r_ret ?_ | refine r_skip ?_ | refine And.intro rfl ?_)); conv => whnf)
 | (apply in1125; rfl; rfl; rfl; intro A; conv => whnf)
 | ((with_reducible apply OpK.more); (focus refine sok); (conv => whnf); fail_if_success guard_target =ₛ False)
 | with_reducible apply_assumption -symm -exfalso)
  refine r_loop (α := Nat × Nat) (fun z => [(0, .v yv), (1, .loc bx 11 0), (11, .v (.slice a l.length cap)), (12, .v (.int .i64 (l.length : Nat))), (13, .v (.int .i64 (z.1 : Nat)))]) (fun z => [.blk 0 t [.v (.bool true), .v (.slice a l.length cap)] 212, .ext 1 (SlA 83 6 a l.length cap (l.flatMap mvC)), .ext 0 (J z.2), .blk 11 bx [.loc t 0 0] 118]) (fun z => z.1 ≤ l.length ∧ z.2 ≤ stop ∧ z.2 ≤ (OM.openF 1 l).length ∧ (OM.openF 1 l).drop z.2 = OM.openF ((z.1 : Int) + 1) (l.drop z.1)) (fun z => l.length - z.1) (0, 0) ⟨Nat.zero_le _, Nat.zero_le _, Nat.zero_le _, rfl⟩ suG seG ?_
  rintro ⟨i, k⟩ ⟨hi, hks, hkL, hdr⟩ KL hL
  dsimp only at hi hks hkL hdr ⊢
  by_cases hlt : i < l.length
  · obtain ⟨m, hm⟩ : ∃ m, l[i]? = some m := ⟨_, List.getElem?_eq_getElem hlt⟩
    rw [openF_step hm] at hdr
    by_cases h3 : m.st = 3
    · rw [if_pos h3] at hdr
      repeat' (first
 | with_reducible ((first | refine r_seq (fun KS hS => ?_) | (refine hS _ _ ?_; clear hS KS) | (refine hA _ ?_; clear hA KA) | (refine hB _ ?_; clear hB KB) | refine r_block ?_))
 | ((with_reducible (first | refine r_region ?_ | refine r_cond (fun KA hA KB hB => ?_) | refine r_skip ?_ | refine And.intro rfl ?_ | intro b)); conv => whnf)
 | ((with_reducible refine WrapK.i64 ?_ ?_); (focus omega); conv => whnf)
 | ((with_reducible refine OpK.id ?_); (first | refine OpK.idx (k := 6) rfl rfl rfl rfl rfl rfl rfl (Sees.ext atG) (by omega) (by omega) (mv_at hm) (fun bq off hp => ?_) | refine OpK.ldp rfl rfl hp (List.cons_ne_nil _ _) ?_); conv => whnf)
 | (refine hL (i + 1, k) _ _ ⟨by show i + 1 ≤ _; omega, hks, hkL, hdr⟩ (by show l.length - (i + 1) < l.length - i; omega) suG seG)
 | ((first | refine if_decT (by omega) ?_ | refine if_ndecF (by omega) ?_); conv => whnf)
 | with_reducible apply_assumption -symm -exfalso)
    · rw [if_neg h3] at hdr
      obtain ⟨hx, hd2⟩ := drop_cons hdr
      have hxk : (((OM.openF 1 l).map mvX).map denL)[k]? = some (denL (mvX ((i : Int) + 1, m))) := by
        rw [List.getElem?_map, List.getElem?_map, hx]; rfl
      have hyk := hy k _ hxk hks
      have hkl : k < (OM.openF 1 l).length := (List.getElem?_eq_some_iff.1 hx).1
      by_cases hlt2 : k < stop
      · rw [decide_eq_true hlt2] at hyk
        repeat' (first
 | with_reducible ((first | refine r_seq (fun KS hS => ?_) | (refine hS _ _ ?_; clear hS KS) | (refine hA _ ?_; clear hA KA) | (refine hB _ ?_; clear hB KB) | refine r_block ?_))
 | ((with_reducible (first | refine r_region ?_ | refine r_cond (fun KA hA KB hB => ?_) | refine r_skip ?_ | refine And.intro rfl ?_ | intro b)); conv => whnf)
 | ((with_reducible refine WrapK.i64 ?_ ?_); (focus omega); conv => whnf)
 | ((with_reducible refine OpK.id ?_); (first | refine OpK.idx (k := 6) rfl rfl rfl rfl rfl rfl rfl (Sees.ext atG) (by omega) (by omega) (mv_at hm) (fun bq off hp => ?_) | refine OpK.ldp rfl rfl hp (List.cons_ne_nil _ _) ?_); conv => whnf)
 | ((with_reducible refine CallV.id ?_); refine CallV.yb (b := true) atG hyk ?_; conv => whnf)
 | (refine hL (i + 1, k + 1) _ _ ⟨by show i + 1 ≤ _; omega, hlt2, hkl, hd2⟩ (by show l.length - (i + 1) < l.length - i; omega) suG seG)
 | ((first | refine if_decT (by omega) ?_ | refine if_ndecT (by omega) ?_); conv => whnf)
 | with_reducible apply_assumption -symm -exfalso)
      · rw [decide_eq_false hlt2] at hyk
        have hmin : min (stop + 1) (((OM.openF 1 l).map mvX).map denL).length = k + 1 := by rw [List.length_map, List.length_map]; omega
        rw [hmin]
        repeat' (first
 | with_reducible ((first | refine r_seq (fun KS hS => ?_) | (refine hS _ _ ?_; clear hS KS) | (refine hA _ ?_; clear hA KA) | refine r_block ?_))
 | ((with_reducible (first | refine r_region ?_ | refine r_cond (fun KA hA KB hB => ?_) | refine r_ret ?_ | refine r_skip ?_ | refine And.intro rfl ?_ | intro b)); conv => whnf)
 | ((with_reducible refine WrapK.i64 ?_ ?_); (focus omega); conv => whnf)
 | ((with_reducible refine OpK.id ?_); (first | refine OpK.idx (k := 6) rfl rfl rfl rfl rfl rfl rfl (Sees.ext atG) (by omega) (by omega) (mv_at hm) (fun bq off hp => ?_) | refine OpK.ldp rfl rfl hp (List.cons_ne_nil _ _) ?_); conv => whnf)
 | ((with_reducible refine CallV.id ?_); refine CallV.yb (b := false) atG hyk ?_; conv => whnf)
 | ((first | refine if_decT (by omega) ?_ | refine if_ndecT (by omega) ?_); conv => whnf)
 | with_reducible apply_assumption -symm -exfalso)
        all_goals exact FinK.frL rfl (HSub.trans (HSub.app2 (A' := [.ext 0 (J (k + 1)), .blk 11 bx [.loc t 0 0] 118]) (B' := [.ext 12 (MvsA t l)]) (HSub.refl _) (mvs_id (i := 0) (j := 1) (t := t) (l := l) (a := a) (cap := cap) rfl)) seG)
  · obtain rfl : i = l.length := by omega
    have hkl : (OM.openF 1 l).length ≤ k := by
      rw [List.drop_length] at hdr
      exact List.drop_eq_nil_iff.1 hdr
    have hkl2 : min (stop + 1) (((OM.openF 1 l).map mvX).map denL).length = k := by
      rw [List.length_map, List.length_map]; omega
    rw [hkl2]
    repeat' (first
 | with_reducible ((first | refine r_seq (fun KS hS => ?_) | (refine hS _ _ ?_; clear hS KS) | (refine hB _ ?_; clear hB KB)))
 | ((with_reducible (first | refine r_region ?_ | refine r_cond (fun KA hA KB hB => ?_) | refine r_exit ?_)); conv => whnf)
 | (refine if_decF (by omega) ?_; conv => whnf))
    all_goals exact FinK.frL rfl (HSub.trans (HSub.app2 (A' := [.ext 0 (J k), .blk 11 bx [.loc t 0 0] 118]) (B' := [.ext 12 (MvsA t l)]) (HSub.refl _) (mvs_id (i := 0) (j := 1) (t := t) (l := l) (a := a) (cap := cap) rfl)) seG)
def bxH (ix ty e k p n : Nat) (cs : List Value) (z : Option Addr × Nat) : List Blk := [.ext 3 (SlA e k z.1 n z.2 cs), .blk ix p [.v (.slice z.1 n z.2)] ty]
abbrev BxE (ix ty e k p n : Nat) (cs : List Value) : Ass := exA (bxH ix ty e k p n cs)
theorem bx_id {ix ty e k p n : Nat} {cs : List Value} {a : Option Addr} {cap i j q : Nat} : HSub [.ext q (BxE ix ty e k p n cs)] [.ext i (SlA e k a n cap cs), .blk j p [.v (.slice a n cap)] ty] :=
  HSub.trans (exA.close (A := bxH ix ty e k p n cs) (a, cap)) (HSub.ext (fun _ _ h => h) (HSub.keep rfl HSub.nil))
theorem bx_nil {ix ty e k p j q : Nat} : HSub [.ext q (BxE ix ty e k p 0 [])] [.blk j p [.v (.slice none 0 0)] ty] :=
  HSub.trans (exA.close (A := bxH ix ty e k p 0 []) (none, 0)) (HSub.addSl (HSub.keep rfl HSub.nil))
theorem take_snoc {α : Type} {l : List α} {i : Nat} {x : α} (h : l[i]? = some x) : l.take i ++ [x] = l.take (i + 1) := by
  rw [List.take_add_one, h]; rfl
theorem AssL.re1 {A : Ass} {i q : Nat} {M : List Blk} {w : World} {S : Nat → Prop} (h : (AssL (.ext i A :: M)).holds w S) : (AssL (.ext q A :: M)).holds w S := by
  have h : Holds w (.ext i A :: M) S := h
  cases h with
  | @cons _ _ S1 T1 hx hb hH hd => exact Holds.cons (x := .ext q A) hx hb hH hd
theorem openF_in {l : List OM.Mv} {k : Nat} {x : Int × OM.Mv} (h : (OM.openF 1 l)[k]? = some x) : x.2 ∈ l := by
  obtain ⟨n, m⟩ := x
  obtain ⟨j, h1, _, _⟩ := OM.openF_mem.1 (List.mem_of_getElem? h)
  exact List.mem_of_getElem? h1
theorem busy1093 {t : Nat} {l : List OM.Mv} {key : ByteArray} (hl : l.length ≤ 64) (hok : ∀ m ∈ l, m.r.ok = true) (hk : key.size ≤ 1099511627776) (w : World) :
    Fr Tryz.prog 93 #[pv t, .string key] w (AssL [.ext 12 (MvsA t l)]) (.bool ((OM.openF 1 l).any fun x => x.2.r.has key)) (AssL [.ext 12 (MvsA t l)]) := by
  obtain ⟨stop, hstop⟩ : ∃ stop, (OM.openF 1 l).findIdx (fun x => x.2.r.has key) = stop := ⟨_, rfl⟩
  have hany : (OM.openF 1 l).any (fun x => x.2.r.has key) = decide (stop < (OM.openF 1 l).length) := by
    rw [← hstop, Bool.eq_iff_iff, decide_eq_true_eq, List.findIdx_lt_length, List.any_eq_true]
  rw [hany]
  refine enter_fr TBok (H := [.ext 12 (MvsA t l)]) all_foot Tryz.func93 rfl rfl Tryz.ntmps93 [.loc t 0 0, .v (.string key)] rfl rfl ?_
  intro S
  conv => whnf
  repeat' (first
 | with_reducible ((first | refine r_seq (fun KS hS => ?_) | (refine hS _ _ ?_; clear hS KS) | refine r_block ?_))
 | ((with_reducible (first | refine r_region ?_ | refine r_ret ?_ | refine And.intro rfl ?_ | intro b)); conv => whnf)
 | (apply in1133; rfl; rfl; rfl; intro A; conv => whnf))
  rename_i bk br
  have hmv : ∀ (i : Nat) (x : List SV), ((OM.openF 1 l).map mvX)[i]? = some x → ∃ n m, (OM.openF 1 l)[i]? = some (n, m) ∧ x = mvX (n, m) ∧ m.r.ok = true := by
    intro i x hx
    rw [List.getElem?_map, Option.map_eq_some_iff] at hx
    obtain ⟨⟨n, m⟩, h1, h2⟩ := hx
    exact ⟨n, m, h1, h2.symm, hok m (openF_in h1)⟩
  refine r_rangeX (fun i => [.blk 13 bk [.v (.string key)] 9, .blk 14 br [.v (.bool (decide (stop < i)))] 4]) ((OM.openF 1 l).map mvX) stop .ret 40 rfl (by simp) ?_ (mopen1193 (t := t) (bx := b) hl) ?_ (by decide) ?_ ?_ ?_
  · rw [decide_eq_false (Nat.not_lt_zero _)]; exact seG
  · intro x hx
    obtain ⟨y, _, rfl⟩ := List.mem_map.1 hx
    rfl
  · intro i x hx hi lp rc W' S'
    obtain ⟨n, m, h1, rfl, hr⟩ := hmv i x hx
    have hil : i < (OM.openF 1 l).length := (List.getElem?_eq_some_iff.1 h1).1
    have hxi : (OM.openF 1 l)[i] = (n, m) := (List.getElem?_eq_some_iff.1 h1).2
    rw [decide_eq_false (by omega)]
    conv => whnf
    by_cases hlt : i < stop
    · have hno : m.r.has key = false := by
        have := List.not_of_lt_findIdx (p := fun x : Int × OM.Mv => x.2.r.has key) (xs := OM.openF 1 l) (i := i) (by omega)
        rw [hxi] at this
        simpa using this
      have hhas1023 := fun w => has1023 (k := key) hr (rsz hr).lo (rsz hr).hi hk w
      rw [hno] at hhas1023
      rw [if_pos hlt, decide_eq_false (by omega)]
      repeat' (first
 | ((with_reducible (first | refine r_region ?_ | refine And.intro rfl ?_ | intro b)); conv => whnf))
      refine AssignX.rm rmG ?_
      repeat' (first
 | with_reducible ((first | refine r_seq (fun KS hS => ?_) | (refine hS _ _ ?_; clear hS KS) | (refine hB _ ?_; clear hB KB) | refine r_block ?_))
 | ((with_reducible (first | refine r_region ?_ | refine r_cond (fun KA hA KB hB => ?_) | refine r_skip ?_ | refine And.intro rfl ?_)); conv => whnf)
 | ((with_reducible refine CallK.at 23 ?_); refine CallK.pu (fun w => hhas1023 w) ?_; conv => whnf))
      exact ⟨rfl, seG⟩
    · obtain rfl : i = stop := by omega
      have hyes : m.r.has key = true := by
        have := List.findIdx_getElem (p := fun x : Int × OM.Mv => x.2.r.has key) (xs := OM.openF 1 l) (w := by omega)
        simp only [hstop] at this
        rw [hxi] at this
        exact this
      have hhas1023 := fun w => has1023 (k := key) hr (rsz hr).lo (rsz hr).hi hk w
      rw [hyes] at hhas1023
      rw [if_neg hlt, decide_eq_true (by omega)]
      repeat' (first
 | ((with_reducible (first | refine r_region ?_ | refine And.intro rfl ?_ | intro b)); conv => whnf))
      refine AssignX.rm rmG ?_
      repeat' (first
 | with_reducible ((first | refine r_seq (fun KS hS => ?_) | (refine hS _ _ ?_; clear hS KS) | (refine hA _ ?_; clear hA KA) | refine r_block ?_))
 | ((with_reducible (first | refine r_region ?_ | refine r_cond (fun KA hA KB hB => ?_) | refine r_ret ?_ | refine And.intro rfl ?_)); conv => whnf)
 | ((with_reducible refine CallK.at 23 ?_); refine CallK.pu (fun w => hhas1023 w) ?_; conv => whnf))
      exact ⟨rfl, seG⟩
  · intro hle
    rw [List.length_map] at hle
    rw [decide_eq_false (by omega)]
    conv => whnf
    repeat' (first
 | with_reducible ((first | refine r_seq (fun KS hS => ?_) | (refine hS _ _ ?_; clear hS KS)))
 | ((with_reducible (first | refine r_region ?_ | refine r_ret ?_ | refine And.intro rfl ?_)); conv => whnf))
    exact FinK.frL (by rw [decide_eq_false (by omega)]; rfl) seG
  · intro hle
    rw [List.length_map] at hle
    rw [decide_eq_true (by omega)]
    conv => whnf
    repeat' (first
 | ((with_reducible refine And.intro rfl ?_); conv => whnf))
    exact FinK.frL (by rw [decide_eq_true (by omega)]; rfl) seG
abbrev opI (l : List OM.Mv) : List Value := (OM.openF 1 l).map fun x => .int .i64 x.1
theorem mopenL1074 {t : Nat} {l : List OM.Mv} (hl : l.length ≤ 64) (w : World) :
    FrZ Tryz.prog 74 #[pv t] w (AssL [.ext 12 (MvsA t l)]) (fun z : Option Addr × Nat => .slice z.1 (OM.openF 1 l).length z.2) (fun z => AssL [.ext 12 (MvsA t l), .ext 1 (SlA 3 1 z.1 (OM.openF 1 l).length z.2 (opI l))]) := by
  refine enter_frZ TBok (H := [.ext 12 (MvsA t l)]) all_foot Tryz.func74 rfl rfl Tryz.ntmps74 [.loc t 0 0] rfl rfl ?_
  intro S _ _
  conv => whnf
  repeat' (first
 | with_reducible ((first | refine r_seq (fun KS hS => ?_) | (refine hS _ _ ?_; clear hS KS) | refine r_block ?_))
 | ((with_reducible (first | refine r_region ?_ | refine r_ret ?_ | refine And.intro rfl ?_ | intro b)); conv => whnf)
 | (apply in1133; rfl; rfl; rfl; intro A; conv => whnf))
  rename_i bk
  refine r_rangeN (fun i => [.ext 5 (BxE 13 70 3 1 bk i ((opI l).take i))]) ((OM.openF 1 l).map mvX) 40 rfl ?_ (mopen1193 (t := t) (bx := b) hl) ?_ (by decide) ?_ ?_
  · exact HSub.trans (HSub.app2 (A' := [.blk 11 b [.loc t 0 0] 118, .ext 12 (MvsA t l)]) (HSub.refl _) (bx_nil (j := 13))) seG
  · intro x hx
    obtain ⟨y, _, rfl⟩ := List.mem_map.1 hx
    rfl
  · intro i x hx lp rc W' S'
    rw [List.getElem?_map, Option.map_eq_some_iff] at hx
    obtain ⟨⟨n, m⟩, hx, rfl⟩ := hx
    have hi : (opI l)[i]? = some (.int .i64 n) := by rw [List.getElem?_map, hx]; rfl
    have hil : i < (OM.openF 1 l).length := (List.getElem?_eq_some_iff.1 hx).1
    have hil2 := OM.openF_length l 1
    have hil3 := List.countP_le_length (p := OM.isOpen) (l := l)
    conv => whnf
    repeat' (first
 | ((with_reducible refine r_region ?_); conv => whnf))
    refine AssignX.rm rmG ?_
    refine Run.ex (A := bxH 13 70 3 1 bk i ((opI l).take i)) (i := 5) rmG ?_
    rintro ⟨a, cap⟩
    dsimp only [bxH, layF]
    repeat' (first
 | with_reducible refine r_block ?_
 | ((with_reducible (first | refine r_region ?_ | refine And.intro rfl ?_ | intro b)); conv => whnf)
 | ((with_reducible refine OpK.id ?_); refine OpK.app (k := 1) rfl rfl rfl rfl rfl rfl rfl rfl atG (SrcK.slc rfl rfl lmG (Nat.le_refl _) rfl) (big_ok (by omega) (by decide)) (fun a' cap' => ?_); conv => whnf))
    rw [← take_snoc hi]
    exact ⟨rfl, HSub.trans (HSub.app2 (A' := [.ext 40 _]) (HSub.refl _) (bx_id (i := 3) (j := 13) (a := a') (cap := cap'))) seG⟩
  · conv => whnf
    refine hS _ _ ?_
    clear hS KS
    dsimp only [List.cons_append, List.nil_append]
    refine Run.ex (A := bxH 13 70 3 1 bk ((OM.openF 1 l).map mvX).length ((opI l).take ((OM.openF 1 l).map mvX).length)) (i := 5) rmG ?_
    rintro ⟨a, cap⟩
    dsimp only [bxH, layF]
    have htk : (opI l).take ((OM.openF 1 l).map mvX).length = opI l := List.take_of_length_le (by rw [List.length_map, List.length_map]; exact Nat.le_refl _)
    rw [htk, List.length_map]
    repeat' (first
 | with_reducible ((first | refine r_seq (fun KS hS => ?_) | (refine hS _ _ ?_; clear hS KS)))
 | ((with_reducible (first | refine r_region ?_ | refine r_ret ?_ | refine And.intro rfl ?_)); conv => whnf))
    exact FinK.frZL (a, cap) rfl seG
end Go.Proofs.YtjkmpaggfbghiaaGreatDoor
