/- Contracts and lemmas for the claim (part 14); no condition of its own. -/
import Derived.Test.YtjkmpaggfbghiaaGreatDoorYQC713
import Derived.Test.YtjkmpaggfbghiaaGreatDoorYQC706
import Derived.Test.YtjkmpaggfbghiaaGreatDoorYQC700
import Derived.Test.YtjkmpaggfbghiaaGreatDoorCards
import Derived.Test.YtjkmpaggfbghiaaGreatDoorTie
import Derived.ProofKit
import Derived.OpenShut
import Derived.Lay
import Derived.LaidMore
import Derived.LaidHandle
import Derived.Carry
import Derived.MakeChecks
import Derived.Deep.DeepHandedRow
import Derived.ChangeMaps5
import Derived.ChangeSlices
set_option linter.all false
set_option linter.unusedVariables false
set_option linter.unusedSimpArgs false
set_option linter.unnecessarySimpa false
set_option linter.all false
namespace Go.Proofs.YtjkmpaggfbghiaaGreatDoor
open Go Go.X
set_option maxRecDepth 100000
set_option maxHeartbeats 0
theorem apply1014 {d : Nat} {o : OM.St} {c : OM.Cmd} {a : Option Addr} {cap : Nat} {o0 o1 : Obj} (hko : KObj o0 o1) (hI : OM.Inv o) (hok : c.ok = true) (ha : c.kind ≠ 11 → (a, cap) = (none, 0)) (w : World) :
    Fr Tryz.prog 14 #[pv d, .agg (denL (cmV c a c.d.steps.length cap)).toArray] w (AssL [.ext 12 (OrchA d o), .ext 9 (GlA o0 o1), .ext 8 (dfA c.d a cap)]) (rpV (o.apply c).2) (AssL [.ext 12 (OrchA d (o.apply c).1), .ext 9 (GlA o0 o1), .ext 8 (dfA c.d a cap)]) := by
  have hdn0 := hI.dn
  cases OM.ok_cases hok with
  | noop =>
    have hdx : o.dox OM.zCmd = (o, ⟨0, 0⟩) := OM.dox_noop o
    have hdn := OM.dox_done o OM.zCmd
    obtain ⟨hd1, hd2⟩ := hdn
    unfold OM.St.apply
    rw [hdx] at hd1 hd2 ⊢
    cases ha (by show (0 : Int) ≠ 11; decide)
    refine enter_fr TBok (H := [.ext 12 (OrchA d o), .ext 9 (GlA o0 o1), .ext 8 (dfA OM.zDef none 0)]) all_foot Tryz.func14 rfl rfl Tryz.ntmps14 [.loc d 0 0, .agg (cmV OM.zCmd none 0 0)] rfl rfl ?_
    intro S
    conv => whnf
    repeat' (first
 | with_reducible refine r_stop 7 ?_
 | with_reducible ((first | refine r_seq (fun KS hS => ?_) | (refine hS _ _ ?_; clear hS KS) | (refine hA _ ?_; clear hA KA) | (refine hB _ ?_; clear hB KB)))
 | ((with_reducible (first | refine r_region ?_ | refine r_cond (fun KA hA KB hB => ?_) | refine r_skip ?_ | refine And.intro rfl ?_ | intro b)); conv => whnf)
 | ((with_reducible refine CallK.id ?_); refine CallK.s1V (by repeat (first | with_reducible apply Rm.head | apply Rm.tail)) (fun ms w hk => made1041 (by have := hI.gr; omega) w) ?_; conv => whnf)
 | ((with_reducible refine OpK.id ?_); refine OpK.mkMK rfl ?_; conv => whnf)
 | ((with_reducible refine OpK.id ?_); (first | refine OpK.inK rfl rfl rfl rfl rfl rfl rfl rfl (by repeat (first | with_reducible apply At.head | apply At.tail)) ⟨by decide, by decide⟩ ?_ | refine OpK.lkV (s := .fn 47 []) rfl rfl rfl rfl rfl rfl rfl rfl (SeesM.ext (by repeat (first | with_reducible apply At.head | apply At.tail))) rfl ?_); conv => whnf)
 | ((with_reducible refine CallK.at 46 ?_); refine CallK.pu (fun w => refuse1046 w) ?_; conv => whnf)
 | ((with_reducible refine CallK.at 53 ?_); refine CallK.pu (fun w => ckNoop1053 w) ?_; conv => whnf)
 | ((with_reducible refine CallK.at 47 ?_); refine CallK.pu (fun w => noop1047 (c := OM.zCmd) w) ?_; conv => whnf)
 | ((with_reducible apply OpK.more); (focus refine sok); (conv => whnf); fail_if_success guard_target =ₛ False)
 | with_reducible apply_assumption -symm -exfalso)
    refine StopR.mk ?_
    refine Run.ex (A := orH d o) (i := 12) (by repeat (first | with_reducible apply Rm.head | apply Rm.tail)) ?_
    rintro ⟨t1, t2, t3⟩
    dsimp only [orH, layF]
    repeat' (first
 | with_reducible ((first | refine r_seq (fun KS hS => ?_) | (refine hS _ _ ?_; clear hS KS)))
 | ((with_reducible (first | refine r_region ?_ | refine r_ret ?_ | refine And.intro rfl ?_)); conv => whnf)
 | ((with_reducible refine WrapK.i64 ?_ ?_); (focus omega); conv => whnf)
 | ((with_reducible refine OpK.id ?_); refine OpK.minI rfl rfl rfl ?_; conv => whnf))
    all_goals exact FinK.frL rfl (HSub.trans (HSub.app2 (A' := [.ext 12 (OrchA d { o with done := min (o.done + 1) 1099511627776 })]) (or_id (i := 0) (j := 1) (k := 2) (l := 3) (d := d) (s := { o with done := min (o.done + 1) 1099511627776 }) (t1 := t1) (t2 := t2) (t3 := t3)) (HSub.refl [.ext 9 (GlA o0 o1), .ext 8 (dfA OM.zDef none 0)])) (by (try dsimp only [List.cons_append, List.nil_append, den, denL]); refine SelI.spec ?_; (repeat (first | refine SelI.blk (by repeat (first | with_reducible apply Rm.head | apply Rm.tail)) ?_ | refine SelI.ext (by repeat (first | with_reducible apply Rm.head | apply Rm.tail)) ?_ | (refine SelI.blk' (by repeat (first | with_reducible apply Rm.head | apply Rm.tail)) ?_ ?_; focus rfl) | (refine SelI.ext' (by repeat (first | with_reducible apply Rm.head | apply Rm.tail)) ?_ ?_; focus rfl))); exact SelI.nil))
  | start x y df hx hy hd =>
    have hdx : o.dox { OM.zCmd with kind := 11, call := x, saga := y, d := df } = o.doStart { OM.zCmd with kind := 11, call := x, saga := y, d := df } := OM.dox_start o x y df hok
    have hdn := OM.dox_done o { OM.zCmd with kind := 11, call := x, saga := y, d := df }
    obtain ⟨hd1, hd2⟩ := hdn
    unfold OM.St.apply
    rw [hdx] at hd1 hd2 ⊢
    have hst1048 := fun w => start1048 (d := d) (a := a) (cap := cap) (c := { OM.zCmd with kind := 11, call := x, saga := y, d := df }) hI hd hy w
    clear hdx
    generalize o.doStart { OM.zCmd with kind := 11, call := x, saga := y, d := df } = X at hst1048 hd1 hd2 ⊢
    obtain ⟨⟨gr, dn, sg, mv, pt⟩, rep⟩ := X
    dsimp only at hst1048 hd1 hd2 ⊢
    subst hd1 hd2
    refine enter_fr TBok (H := [.ext 12 (OrchA d o), .ext 9 (GlA o0 o1), .ext 8 (dfA df a cap)]) all_foot Tryz.func14 rfl rfl Tryz.ntmps14 [.loc d 0 0, .agg (cmV { OM.zCmd with kind := 11, call := x, saga := y, d := df } a df.steps.length cap)] rfl rfl ?_
    intro S
    conv => whnf
    repeat' (first
 | with_reducible refine r_stop 7 ?_
 | with_reducible ((first | refine r_seq (fun KS hS => ?_) | (refine hS _ _ ?_; clear hS KS) | (refine hA _ ?_; clear hA KA) | (refine hB _ ?_; clear hB KB)))
 | ((with_reducible (first | refine r_region ?_ | refine r_cond (fun KA hA KB hB => ?_) | refine r_skip ?_ | refine And.intro rfl ?_ | intro b)); conv => whnf)
 | ((with_reducible refine CallK.id ?_); refine CallK.s1V (by repeat (first | with_reducible apply Rm.head | apply Rm.tail)) (fun ms w hk => made1041 (by have := hI.gr; omega) w) ?_; conv => whnf)
 | ((with_reducible refine OpK.id ?_); refine OpK.mkMK rfl ?_; conv => whnf)
 | ((with_reducible refine OpK.id ?_); (first | refine OpK.inK rfl rfl rfl rfl rfl rfl rfl rfl (by repeat (first | with_reducible apply At.head | apply At.tail)) ⟨by decide, by decide⟩ ?_ | refine OpK.lkV (s := .fn 48 []) rfl rfl rfl rfl rfl rfl rfl rfl (SeesM.ext (by repeat (first | with_reducible apply At.head | apply At.tail))) rfl ?_); conv => whnf)
 | ((with_reducible refine CallK.at 46 ?_); refine CallK.pu (fun w => refuse1046 w) ?_; conv => whnf)
 | ((with_reducible refine CallK.at 53 ?_); refine CallK.puW (fun ms w hk => ckStart1053 (c := { OM.zCmd with kind := 11, call := x, saga := y, d := df }) hx hy hd (Sees.rd (Sees.ext (by repeat (first | with_reducible apply At.head | apply At.tail))) hk)) ?_; conv => whnf)
 | ((with_reducible refine CallK.id ?_); refine CallK.s2V (by repeat (first | with_reducible apply Rm.head | apply Rm.tail)) (by repeat (first | with_reducible apply Rm.head | apply Rm.tail)) (fun ms w hk => hst1048 w) ?_; conv => whnf)
 | ((with_reducible apply OpK.more); (focus refine sok); (conv => whnf); fail_if_success guard_target =ₛ False)
 | with_reducible apply_assumption -symm -exfalso)
    refine StopR.mk ?_
    refine Run.ex (A := orH d ⟨o.groups, o.done, sg, mv, pt⟩) (i := 12) (by repeat (first | with_reducible apply Rm.head | apply Rm.tail)) ?_
    rintro ⟨t1, t2, t3⟩
    dsimp only [orH, layF]
    repeat' (first
 | with_reducible ((first | refine r_seq (fun KS hS => ?_) | (refine hS _ _ ?_; clear hS KS)))
 | ((with_reducible (first | refine r_region ?_ | refine r_ret ?_ | refine And.intro rfl ?_)); conv => whnf)
 | ((with_reducible refine WrapK.i64 ?_ ?_); (focus omega); conv => whnf)
 | ((with_reducible refine OpK.id ?_); refine OpK.minI rfl rfl rfl ?_; conv => whnf))
    all_goals exact FinK.frL rfl (HSub.trans (HSub.app2 (A' := [.ext 12 (OrchA d ⟨o.groups, min (o.done + 1) 1099511627776, sg, mv, pt⟩)]) (or_id (i := 0) (j := 1) (k := 2) (l := 3) (d := d) (s := ⟨o.groups, min (o.done + 1) 1099511627776, sg, mv, pt⟩) (t1 := t1) (t2 := t2) (t3 := t3)) (HSub.refl [.ext 9 (GlA o0 o1), .ext 8 (dfA df a cap)])) (by (try dsimp only [List.cons_append, List.nil_append, den, denL]); refine SelI.spec ?_; (repeat (first | refine SelI.blk (by repeat (first | with_reducible apply Rm.head | apply Rm.tail)) ?_ | refine SelI.ext (by repeat (first | with_reducible apply Rm.head | apply Rm.tail)) ?_ | (refine SelI.blk' (by repeat (first | with_reducible apply Rm.head | apply Rm.tail)) ?_ ?_; focus rfl) | (refine SelI.ext' (by repeat (first | with_reducible apply Rm.head | apply Rm.tail)) ?_ ?_; focus rfl))); exact SelI.nil))
  | status x y hx hy =>
    have hdx : o.dox { OM.zCmd with kind := 12, call := x, saga := y } = (o, o.told y) := OM.dox_status o x y hok
    have hdn := OM.dox_done o { OM.zCmd with kind := 12, call := x, saga := y }
    obtain ⟨hd1, hd2⟩ := hdn
    unfold OM.St.apply
    rw [hdx] at hd1 hd2 ⊢
    cases ha (by show (12 : Int) ≠ 11; decide)
    have hsu1049 := fun w => status1049 (d := d) (a := none) (n := 0) (cap := 0) (c := { OM.zCmd with kind := 12, call := x, saga := y }) hI w
    refine enter_fr TBok (H := [.ext 12 (OrchA d o), .ext 9 (GlA o0 o1), .ext 8 (dfA OM.zDef none 0)]) all_foot Tryz.func14 rfl rfl Tryz.ntmps14 [.loc d 0 0, .agg (cmV { OM.zCmd with kind := 12, call := x, saga := y } none 0 0)] rfl rfl ?_
    intro S
    conv => whnf
    repeat' (first
 | with_reducible refine r_stop 7 ?_
 | with_reducible ((first | refine r_seq (fun KS hS => ?_) | (refine hS _ _ ?_; clear hS KS) | (refine hA _ ?_; clear hA KA) | (refine hB _ ?_; clear hB KB)))
 | ((with_reducible (first | refine r_region ?_ | refine r_cond (fun KA hA KB hB => ?_) | refine r_skip ?_ | refine And.intro rfl ?_ | intro b)); conv => whnf)
 | ((with_reducible refine CallK.id ?_); refine CallK.s1V (by repeat (first | with_reducible apply Rm.head | apply Rm.tail)) (fun ms w hk => made1041 (by have := hI.gr; omega) w) ?_; conv => whnf)
 | ((with_reducible refine OpK.id ?_); refine OpK.mkMK rfl ?_; conv => whnf)
 | ((with_reducible refine OpK.id ?_); (first | refine OpK.inK rfl rfl rfl rfl rfl rfl rfl rfl (by repeat (first | with_reducible apply At.head | apply At.tail)) ⟨by decide, by decide⟩ ?_ | refine OpK.lkV (s := .fn 49 []) rfl rfl rfl rfl rfl rfl rfl rfl (SeesM.ext (by repeat (first | with_reducible apply At.head | apply At.tail))) rfl ?_); conv => whnf)
 | ((with_reducible refine CallK.at 46 ?_); refine CallK.pu (fun w => refuse1046 w) ?_; conv => whnf)
 | ((with_reducible refine CallK.at 53 ?_); refine CallK.pu (fun w => ckAskA1053 (c := { OM.zCmd with kind := 12, call := x, saga := y }) hx hy w) ?_; conv => whnf)
 | ((with_reducible refine CallK.id ?_); refine CallK.s1V (by repeat (first | with_reducible apply Rm.head | apply Rm.tail)) (fun ms w hk => hsu1049 w) ?_; conv => whnf)
 | ((with_reducible apply OpK.more); (focus refine sok); (conv => whnf); fail_if_success guard_target =ₛ False)
 | with_reducible apply_assumption -symm -exfalso)
    refine StopR.mk ?_
    refine Run.ex (A := orH d o) (i := 12) (by repeat (first | with_reducible apply Rm.head | apply Rm.tail)) ?_
    rintro ⟨t1, t2, t3⟩
    dsimp only [orH, layF]
    repeat' (first
 | with_reducible ((first | refine r_seq (fun KS hS => ?_) | (refine hS _ _ ?_; clear hS KS)))
 | ((with_reducible (first | refine r_region ?_ | refine r_ret ?_ | refine And.intro rfl ?_)); conv => whnf)
 | ((with_reducible refine WrapK.i64 ?_ ?_); (focus omega); conv => whnf)
 | ((with_reducible refine OpK.id ?_); refine OpK.minI rfl rfl rfl ?_; conv => whnf))
    all_goals exact FinK.frL rfl (HSub.trans (HSub.app2 (A' := [.ext 12 (OrchA d { o with done := min (o.done + 1) 1099511627776 })]) (or_id (i := 0) (j := 1) (k := 2) (l := 3) (d := d) (s := { o with done := min (o.done + 1) 1099511627776 }) (t1 := t1) (t2 := t2) (t3 := t3)) (HSub.refl [.ext 9 (GlA o0 o1), .ext 8 (dfA OM.zDef none 0)])) (by (try dsimp only [List.cons_append, List.nil_append, den, denL]); refine SelI.spec ?_; (repeat (first | refine SelI.blk (by repeat (first | with_reducible apply Rm.head | apply Rm.tail)) ?_ | refine SelI.ext (by repeat (first | with_reducible apply Rm.head | apply Rm.tail)) ?_ | (refine SelI.blk' (by repeat (first | with_reducible apply Rm.head | apply Rm.tail)) ?_ ?_; focus rfl) | (refine SelI.ext' (by repeat (first | with_reducible apply Rm.head | apply Rm.tail)) ?_ ?_; focus rfl))); exact SelI.nil))
  | cancel x y hx hy =>
    have hdx : o.dox { OM.zCmd with kind := 13, call := x, saga := y } = o.doCancel { OM.zCmd with kind := 13, call := x, saga := y } := OM.dox_cancel o x y hok
    have hdn := OM.dox_done o { OM.zCmd with kind := 13, call := x, saga := y }
    obtain ⟨hd1, hd2⟩ := hdn
    unfold OM.St.apply
    rw [hdx] at hd1 hd2 ⊢
    cases ha (by show (13 : Int) ≠ 11; decide)
    have hca1050 := fun w => cancel1050 (d := d) (a := none) (n := 0) (cap := 0) (c := { OM.zCmd with kind := 13, call := x, saga := y }) hI w
    clear hdx
    generalize o.doCancel { OM.zCmd with kind := 13, call := x, saga := y } = X at hca1050 hd1 hd2 ⊢
    obtain ⟨⟨gr, dn, sg, mv, pt⟩, rep⟩ := X
    dsimp only at hca1050 hd1 hd2 ⊢
    subst hd1 hd2
    refine enter_fr TBok (H := [.ext 12 (OrchA d o), .ext 9 (GlA o0 o1), .ext 8 (dfA OM.zDef none 0)]) all_foot Tryz.func14 rfl rfl Tryz.ntmps14 [.loc d 0 0, .agg (cmV { OM.zCmd with kind := 13, call := x, saga := y } none 0 0)] rfl rfl ?_
    intro S
    conv => whnf
    repeat' (first
 | with_reducible refine r_stop 7 ?_
 | with_reducible ((first | refine r_seq (fun KS hS => ?_) | (refine hS _ _ ?_; clear hS KS) | (refine hA _ ?_; clear hA KA) | (refine hB _ ?_; clear hB KB)))
 | ((with_reducible (first | refine r_region ?_ | refine r_cond (fun KA hA KB hB => ?_) | refine r_skip ?_ | refine And.intro rfl ?_ | intro b)); conv => whnf)
 | ((with_reducible refine CallK.id ?_); refine CallK.s1V (by repeat (first | with_reducible apply Rm.head | apply Rm.tail)) (fun ms w hk => made1041 (by have := hI.gr; omega) w) ?_; conv => whnf)
 | ((with_reducible refine OpK.id ?_); refine OpK.mkMK rfl ?_; conv => whnf)
 | ((with_reducible refine OpK.id ?_); (first | refine OpK.inK rfl rfl rfl rfl rfl rfl rfl rfl (by repeat (first | with_reducible apply At.head | apply At.tail)) ⟨by decide, by decide⟩ ?_ | refine OpK.lkV (s := .fn 50 []) rfl rfl rfl rfl rfl rfl rfl rfl (SeesM.ext (by repeat (first | with_reducible apply At.head | apply At.tail))) rfl ?_); conv => whnf)
 | ((with_reducible refine CallK.at 46 ?_); refine CallK.pu (fun w => refuse1046 w) ?_; conv => whnf)
 | ((with_reducible refine CallK.at 53 ?_); refine CallK.pu (fun w => ckAskB1053 (c := { OM.zCmd with kind := 13, call := x, saga := y }) hx hy w) ?_; conv => whnf)
 | ((with_reducible refine CallK.id ?_); refine CallK.s1V (by repeat (first | with_reducible apply Rm.head | apply Rm.tail)) (fun ms w hk => hca1050 w) ?_; conv => whnf)
 | ((with_reducible apply OpK.more); (focus refine sok); (conv => whnf); fail_if_success guard_target =ₛ False)
 | with_reducible apply_assumption -symm -exfalso)
    refine StopR.mk ?_
    refine Run.ex (A := orH d ⟨o.groups, o.done, sg, mv, pt⟩) (i := 12) (by repeat (first | with_reducible apply Rm.head | apply Rm.tail)) ?_
    rintro ⟨t1, t2, t3⟩
    dsimp only [orH, layF]
    repeat' (first
 | with_reducible ((first | refine r_seq (fun KS hS => ?_) | (refine hS _ _ ?_; clear hS KS)))
 | ((with_reducible (first | refine r_region ?_ | refine r_ret ?_ | refine And.intro rfl ?_)); conv => whnf)
 | ((with_reducible refine WrapK.i64 ?_ ?_); (focus omega); conv => whnf)
 | ((with_reducible refine OpK.id ?_); refine OpK.minI rfl rfl rfl ?_; conv => whnf))
    all_goals exact FinK.frL rfl (HSub.trans (HSub.app2 (A' := [.ext 12 (OrchA d ⟨o.groups, min (o.done + 1) 1099511627776, sg, mv, pt⟩)]) (or_id (i := 0) (j := 1) (k := 2) (l := 3) (d := d) (s := ⟨o.groups, min (o.done + 1) 1099511627776, sg, mv, pt⟩) (t1 := t1) (t2 := t2) (t3 := t3)) (HSub.refl [.ext 9 (GlA o0 o1), .ext 8 (dfA OM.zDef none 0)])) (by (try dsimp only [List.cons_append, List.nil_append, den, denL]); refine SelI.spec ?_; (repeat (first | refine SelI.blk (by repeat (first | with_reducible apply Rm.head | apply Rm.tail)) ?_ | refine SelI.ext (by repeat (first | with_reducible apply Rm.head | apply Rm.tail)) ?_ | (refine SelI.blk' (by repeat (first | with_reducible apply Rm.head | apply Rm.tail)) ?_ ?_; focus rfl) | (refine SelI.ext' (by repeat (first | with_reducible apply Rm.head | apply Rm.tail)) ?_ ?_; focus rfl))); exact SelI.nil))
  | move x r g hx hr hg =>
    have hdx : o.dox { OM.zCmd with kind := 14, call := x, r := r, group := g } = o.doMove { OM.zCmd with kind := 14, call := x, r := r, group := g } := OM.dox_move o x r g hok
    have hdn := OM.dox_done o { OM.zCmd with kind := 14, call := x, r := r, group := g }
    obtain ⟨hd1, hd2⟩ := hdn
    unfold OM.St.apply
    rw [hdx] at hd1 hd2 ⊢
    cases ha (by show (14 : Int) ≠ 11; decide)
    have hmv1051 := fun w => move1051 (d := d) (a := none) (n := 0) (cap := 0) (c := { OM.zCmd with kind := 14, call := x, r := r, group := g }) hI hr hg w
    clear hdx
    generalize o.doMove { OM.zCmd with kind := 14, call := x, r := r, group := g } = X at hmv1051 hd1 hd2 ⊢
    obtain ⟨⟨gr, dn, sg, mv, pt⟩, rep⟩ := X
    dsimp only at hmv1051 hd1 hd2 ⊢
    subst hd1 hd2
    refine enter_fr TBok (H := [.ext 12 (OrchA d o), .ext 9 (GlA o0 o1), .ext 8 (dfA OM.zDef none 0)]) all_foot Tryz.func14 rfl rfl Tryz.ntmps14 [.loc d 0 0, .agg (cmV { OM.zCmd with kind := 14, call := x, r := r, group := g } none 0 0)] rfl rfl ?_
    intro S
    conv => whnf
    repeat' (first
 | with_reducible refine r_stop 7 ?_
 | with_reducible ((first | refine r_seq (fun KS hS => ?_) | (refine hS _ _ ?_; clear hS KS) | (refine hA _ ?_; clear hA KA) | (refine hB _ ?_; clear hB KB)))
 | ((with_reducible (first | refine r_region ?_ | refine r_cond (fun KA hA KB hB => ?_) | refine r_skip ?_ | refine And.intro rfl ?_ | intro b)); conv => whnf)
 | ((with_reducible refine CallK.id ?_); refine CallK.s1V (by repeat (first | with_reducible apply Rm.head | apply Rm.tail)) (fun ms w hk => made1041 (by have := hI.gr; omega) w) ?_; conv => whnf)
 | ((with_reducible refine OpK.id ?_); refine OpK.mkMK rfl ?_; conv => whnf)
 | ((with_reducible refine OpK.id ?_); (first | refine OpK.inK rfl rfl rfl rfl rfl rfl rfl rfl (by repeat (first | with_reducible apply At.head | apply At.tail)) ⟨by decide, by decide⟩ ?_ | refine OpK.lkV (s := .fn 51 []) rfl rfl rfl rfl rfl rfl rfl rfl (SeesM.ext (by repeat (first | with_reducible apply At.head | apply At.tail))) rfl ?_); conv => whnf)
 | ((with_reducible refine CallK.at 46 ?_); refine CallK.pu (fun w => refuse1046 w) ?_; conv => whnf)
 | ((with_reducible refine CallK.at 53 ?_); refine CallK.pu (fun w => ckMove1053 (c := { OM.zCmd with kind := 14, call := x, r := r, group := g }) hx hr hg w) ?_; conv => whnf)
 | ((with_reducible refine CallK.id ?_); refine CallK.s1V (by repeat (first | with_reducible apply Rm.head | apply Rm.tail)) (fun ms w hk => hmv1051 w) ?_; conv => whnf)
 | ((with_reducible apply OpK.more); (focus refine sok); (conv => whnf); fail_if_success guard_target =ₛ False)
 | with_reducible apply_assumption -symm -exfalso)
    refine StopR.mk ?_
    refine Run.ex (A := orH d ⟨o.groups, o.done, sg, mv, pt⟩) (i := 12) (by repeat (first | with_reducible apply Rm.head | apply Rm.tail)) ?_
    rintro ⟨t1, t2, t3⟩
    dsimp only [orH, layF]
    repeat' (first
 | with_reducible ((first | refine r_seq (fun KS hS => ?_) | (refine hS _ _ ?_; clear hS KS)))
 | ((with_reducible (first | refine r_region ?_ | refine r_ret ?_ | refine And.intro rfl ?_)); conv => whnf)
 | ((with_reducible refine WrapK.i64 ?_ ?_); (focus omega); conv => whnf)
 | ((with_reducible refine OpK.id ?_); refine OpK.minI rfl rfl rfl ?_; conv => whnf))
    all_goals exact FinK.frL rfl (HSub.trans (HSub.app2 (A' := [.ext 12 (OrchA d ⟨o.groups, min (o.done + 1) 1099511627776, sg, mv, pt⟩)]) (or_id (i := 0) (j := 1) (k := 2) (l := 3) (d := d) (s := ⟨o.groups, min (o.done + 1) 1099511627776, sg, mv, pt⟩) (t1 := t1) (t2 := t2) (t3 := t3)) (HSub.refl [.ext 9 (GlA o0 o1), .ext 8 (dfA OM.zDef none 0)])) (by (try dsimp only [List.cons_append, List.nil_append, den, denL]); refine SelI.spec ?_; (repeat (first | refine SelI.blk (by repeat (first | with_reducible apply Rm.head | apply Rm.tail)) ?_ | refine SelI.ext (by repeat (first | with_reducible apply Rm.head | apply Rm.tail)) ?_ | (refine SelI.blk' (by repeat (first | with_reducible apply Rm.head | apply Rm.tail)) ?_ ?_; focus rfl) | (refine SelI.ext' (by repeat (first | with_reducible apply Rm.head | apply Rm.tail)) ?_ ?_; focus rfl))); exact SelI.nil))
  | result i e s hi he hs =>
    have hdx : o.dox { OM.zCmd with kind := 15, item := i, res := e, data := s } = o.doResult { OM.zCmd with kind := 15, item := i, res := e, data := s } := OM.dox_result o i e s hok
    have hdn := OM.dox_done o { OM.zCmd with kind := 15, item := i, res := e, data := s }
    obtain ⟨hd1, hd2⟩ := hdn
    unfold OM.St.apply
    rw [hdx] at hd1 hd2 ⊢
    cases ha (by show (15 : Int) ≠ 11; decide)
    have hre1052 := fun w => result1052 (d := d) (a := none) (n := 0) (cap := 0) (c := { OM.zCmd with kind := 15, item := i, res := e, data := s }) hko hI he hs w
    clear hdx
    generalize o.doResult { OM.zCmd with kind := 15, item := i, res := e, data := s } = X at hre1052 hd1 hd2 ⊢
    obtain ⟨⟨gr, dn, sg, mv, pt⟩, rep⟩ := X
    dsimp only at hre1052 hd1 hd2 ⊢
    subst hd1 hd2
    refine enter_fr TBok (H := [.ext 12 (OrchA d o), .ext 9 (GlA o0 o1), .ext 8 (dfA OM.zDef none 0)]) all_foot Tryz.func14 rfl rfl Tryz.ntmps14 [.loc d 0 0, .agg (cmV { OM.zCmd with kind := 15, item := i, res := e, data := s } none 0 0)] rfl rfl ?_
    intro S
    conv => whnf
    repeat' (first
 | with_reducible refine r_stop 7 ?_
 | with_reducible ((first | refine r_seq (fun KS hS => ?_) | (refine hS _ _ ?_; clear hS KS) | (refine hA _ ?_; clear hA KA) | (refine hB _ ?_; clear hB KB)))
 | ((with_reducible (first | refine r_region ?_ | refine r_cond (fun KA hA KB hB => ?_) | refine r_skip ?_ | refine And.intro rfl ?_ | intro b)); conv => whnf)
 | ((with_reducible refine CallK.id ?_); refine CallK.s1V (by repeat (first | with_reducible apply Rm.head | apply Rm.tail)) (fun ms w hk => made1041 (by have := hI.gr; omega) w) ?_; conv => whnf)
 | ((with_reducible refine OpK.id ?_); refine OpK.mkMK rfl ?_; conv => whnf)
 | ((with_reducible refine OpK.id ?_); (first | refine OpK.inK rfl rfl rfl rfl rfl rfl rfl rfl (by repeat (first | with_reducible apply At.head | apply At.tail)) ⟨by decide, by decide⟩ ?_ | refine OpK.lkV (s := .fn 52 []) rfl rfl rfl rfl rfl rfl rfl rfl (SeesM.ext (by repeat (first | with_reducible apply At.head | apply At.tail))) rfl ?_); conv => whnf)
 | ((with_reducible refine CallK.at 46 ?_); refine CallK.pu (fun w => refuse1046 w) ?_; conv => whnf)
 | ((with_reducible refine CallK.at 53 ?_); refine CallK.pu (fun w => ckResult1053 (c := { OM.zCmd with kind := 15, item := i, res := e, data := s }) hi he hs w) ?_; conv => whnf)
 | ((with_reducible refine CallK.id ?_); refine CallK.s2V (by repeat (first | with_reducible apply Rm.head | apply Rm.tail)) (by repeat (first | with_reducible apply Rm.head | apply Rm.tail)) (fun ms w hk => hre1052 w) ?_; conv => whnf)
 | ((with_reducible apply OpK.more); (focus refine sok); (conv => whnf); fail_if_success guard_target =ₛ False)
 | with_reducible apply_assumption -symm -exfalso)
    refine StopR.mk ?_
    refine Run.ex (A := orH d ⟨o.groups, o.done, sg, mv, pt⟩) (i := 12) (by repeat (first | with_reducible apply Rm.head | apply Rm.tail)) ?_
    rintro ⟨t1, t2, t3⟩
    dsimp only [orH, layF]
    repeat' (first
 | with_reducible ((first | refine r_seq (fun KS hS => ?_) | (refine hS _ _ ?_; clear hS KS)))
 | ((with_reducible (first | refine r_region ?_ | refine r_ret ?_ | refine And.intro rfl ?_)); conv => whnf)
 | ((with_reducible refine WrapK.i64 ?_ ?_); (focus omega); conv => whnf)
 | ((with_reducible refine OpK.id ?_); refine OpK.minI rfl rfl rfl ?_; conv => whnf))
    all_goals exact FinK.frL rfl (HSub.trans (HSub.app2 (A' := [.ext 12 (OrchA d ⟨o.groups, min (o.done + 1) 1099511627776, sg, mv, pt⟩)]) (or_id (i := 0) (j := 1) (k := 2) (l := 3) (d := d) (s := ⟨o.groups, min (o.done + 1) 1099511627776, sg, mv, pt⟩) (t1 := t1) (t2 := t2) (t3 := t3)) (HSub.refl [.ext 9 (GlA o0 o1), .ext 8 (dfA OM.zDef none 0)])) (by (try dsimp only [List.cons_append, List.nil_append, den, denL]); refine SelI.spec ?_; (repeat (first | refine SelI.blk (by repeat (first | with_reducible apply Rm.head | apply Rm.tail)) ?_ | refine SelI.ext (by repeat (first | with_reducible apply Rm.head | apply Rm.tail)) ?_ | (refine SelI.blk' (by repeat (first | with_reducible apply Rm.head | apply Rm.tail)) ?_ ?_; focus rfl) | (refine SelI.ext' (by repeat (first | with_reducible apply Rm.head | apply Rm.tail)) ?_ ?_; focus rfl))); exact SelI.nil))
end Go.Proofs.YtjkmpaggfbghiaaGreatDoor

set_option linter.all false
namespace Go.Proofs.YtjkmpaggfbghiaaGreatDoor
open Go Go.X
set_option maxRecDepth 100000
set_option maxHeartbeats 0
theorem sok2 : SOk Tryz.prog [29, 31, 33, 34, 37] := sokB_spec (by kernel_rfl)
theorem eqItems1028 {L : List OM.Item} {a a' : Option Addr} {cap cap' : Nat} {w : World} (hr : RdS w 31 6 a L.length cap (L.flatMap itC)) (hr' : RdS w 31 6 a' L.length cap' (L.flatMap itC)) (hl : L.length ≤ 1000) :
    Pu Tryz.prog 28 #[.slice a L.length cap, .slice a' L.length cap'] w (.bool true) := by
  have sa := fun n' r H => Sees.old (c := ⟨Tryz.prog, TB, n', w, noS, r, TBok⟩) (H := H) hr.old
  have sb := fun n' r H => Sees.old (c := ⟨Tryz.prog, TB, n', w, noS, r, TBok⟩) (H := H) hr'.old
  refine enter_sound TBok Tryz.func28 rfl rfl Tryz.ntmps28 [.v (.slice a L.length cap), .v (.slice a' L.length cap')] (Kn.start w noS) rfl rfl ?_
  conv => whnf
  repeat' (first
 | with_reducible ((first | refine r_seq (fun KS hS => ?_) | (refine hS _ _ ?_; clear hS KS) | (refine hB _ ?_; clear hB KB) | refine r_block ?_))
 | ((with_reducible (first | refine r_region ?_ | refine r_cond (fun KA hA KB hB => ?_) | refine r_skip ?_)); conv => whnf)
 | (refine if_ndecF (by omega) ?_; conv => whnf)
 | with_reducible apply_assumption -symm -exfalso)
  refine r_loop (α := Nat) (fun i => [(13, .v (.int .i64 (i : Nat))), (12, .v (.int .i64 L.length)), (0, .v (.slice a L.length cap)), (1, .v (.slice a' L.length cap'))]) (fun _ => []) (fun i => i ≤ L.length) (fun i => L.length - i) 0 (Nat.zero_le _) (by repeat' (first | exact Sub.nil | (refine Sub.cons rfl rfl ?_))) (HSub.none _) ?_
  intro i hi KL hL
  by_cases hlt : i < L.length
  · obtain ⟨y, hy⟩ : ∃ y, L[i]? = some y := ⟨_, List.getElem?_eq_getElem hlt⟩
    have hcomp : (!((decide (y.eff.saga = y.eff.saga) && (decide (y.eff.step = y.eff.step) && (decide (y.eff.phase = y.eff.phase) && true))) && (decide (y.move = y.move) && ((y.in_ == y.in_) && (decide (y.group = y.group) && true))))) = false := by
      rw [itEq y y]; simp
    repeat' (first
 | with_reducible ((first | refine r_seq (fun KS hS => ?_) | (refine hS _ _ ?_; clear hS KS) | (refine hA _ ?_; clear hA KA) | (refine hB _ ?_; clear hB KB) | refine r_block ?_))
 | ((with_reducible (first | refine r_region ?_ | refine r_cond (fun KA hA KB hB => ?_) | refine r_skip ?_)); conv => whnf)
 | ((with_reducible refine WrapK.i64 ?_ ?_); (focus omega); conv => whnf)
 | ((with_reducible refine QK.id ?_); (first | refine QK.idx (k := 6) rfl rfl rfl rfl rfl rfl rfl (sa _ _ _) (by omega) (by omega) (it_at hy) (fun b off hp => ?_) | refine QK.idx (k := 6) rfl rfl rfl rfl rfl rfl rfl (sb _ _ _) (by omega) (by omega) (it_at hy) (fun b off hp => ?_) | refine QK.ldp rfl rfl hp (List.cons_ne_nil _ _) ?_); conv => whnf)
 | ((with_reducible refine IK.id ?_); refine IK.neqV sok2 rfl rfl rfl ?_; conv => whnf)
 | (refine if_f hcomp ?_; conv => whnf)
 | (refine hL (i + 1) _ _ (by show i + 1 ≤ _; omega) (by show L.length - (i + 1) < L.length - i; omega) (by repeat' (first | exact Sub.nil | (refine Sub.cons rfl rfl ?_))) (HSub.none _))
 | (apply r_quiet; refine mixed; kernel_rfl; kernel_rfl; kernel_rfl; conv => whnf)
 | (refine if_decT (by omega) ?_; conv => whnf)
 | with_reducible apply_assumption -symm -exfalso)
  · obtain rfl : i = L.length := by omega
    repeat' (first
 | with_reducible ((first | refine r_seq (fun KS hS => ?_) | (refine hS _ _ ?_; clear hS KS) | (refine hB _ ?_; clear hB KB)))
 | ((with_reducible (first | refine r_region ?_ | refine r_cond (fun KA hA KB hB => ?_) | refine r_ret ?_ | refine r_exit ?_)); conv => whnf)
 | (refine if_decF (by omega) ?_; conv => whnf)
 | with_reducible apply_assumption -symm -exfalso)
    exact FinK.pu rfl
theorem pay1031 (w : World) : FrZ Tryz.prog 31 #[] w emp (fun b : Nat => .agg #[.string OM.payD.name, .int .i64 OM.payD.retries, .int .i64 OM.payD.deadline, .slice (some ⟨b, 0, none⟩) OM.payD.steps.length 2]) (fun b => dfA OM.payD (some ⟨b, 0, none⟩) 2) := by
  refine enter_frZ TBok (H := []) emp_foot Tryz.func31 rfl rfl Tryz.ntmps31 [] rfl rfl ?_
  intro S hz8 hz9
  clear hz8 hz9
  conv => whnf
  repeat' (first
 | with_reducible ((first | refine r_seq (fun KS hS => ?_) | (refine hS _ _ ?_; clear hS KS)))
 | ((with_reducible (first | refine r_region ?_ | refine r_ret ?_ | refine And.intro rfl ?_ | intro b)); conv => whnf))
  have hk : HSub [.ext 0 (dfA OM.payD (some ⟨b, 0, none⟩) 2)] [.blk 1 b [.v (.string ⟨#[97]⟩), .v (.int .i64 3), .v (.string ⟨#[98]⟩), .v (.int .i64 (-4))] 80] :=
    X.HSub.slc (i := 1) (i' := 0) (e := 80) (k := 2) (b := b) (len := 2) (cs := [.v (.string ⟨#[97]⟩), .v (.int .i64 3), .v (.string ⟨#[98]⟩), .v (.int .i64 (-4))]) rfl
  exact FinK.frZ (i := 0) b rfl (HSub.trans hk (by (try dsimp only [List.cons_append, List.nil_append, den, denL]); refine SelI.spec ?_; (repeat (first | refine SelI.blk (by repeat (first | with_reducible apply Rm.head | apply Rm.tail)) ?_ | refine SelI.ext (by repeat (first | with_reducible apply Rm.head | apply Rm.tail)) ?_ | (refine SelI.blk' (by repeat (first | with_reducible apply Rm.head | apply Rm.tail)) ?_ ?_; focus rfl) | (refine SelI.ext' (by repeat (first | with_reducible apply Rm.head | apply Rm.tail)) ?_ ?_; focus rfl))); exact SelI.nil))
theorem effect1038 (a b c d : Int) (w : World) : Pu Tryz.prog 38 #[.int .i64 a, .int .i64 b, .int .i64 c, .int .i64 d] w (.agg (denL (itV (OM.effI a b c d))).toArray) := by
  refine enter_sound TBok Tryz.func38 rfl rfl Tryz.ntmps38 [.v (.int .i64 a), .v (.int .i64 b), .v (.int .i64 c), .v (.int .i64 d)] (Kn.start w noS) rfl rfl ?_
  conv => whnf
  repeat' (first
 | with_reducible ((first | refine r_seq (fun KS hS => ?_) | (refine hS _ _ ?_; clear hS KS)))
 | ((with_reducible (first | refine r_region ?_ | refine r_ret ?_ | refine And.intro rfl ?_ | intro b)); conv => whnf))
  all_goals exact FinK.pu rfl
end Go.Proofs.YtjkmpaggfbghiaaGreatDoor

set_option linter.all false
namespace Go.Proofs.YtjkmpaggfbghiaaGreatDoor
open Go Go.X
set_option maxRecDepth 100000
set_option maxHeartbeats 0
def wkc (i : Nat) : OM.Cmd := match i with
  | 0 => { OM.zCmd with kind := 11, saga := 7, d := OM.payD }
  | 1 => { OM.zCmd with kind := 14, r := ⟨OM.sB, OM.sC⟩, group := 2 }
  | 2 => OM.resC (OM.effI 7 0 1 1) 0 OM.eps
  | 3 => OM.resC (OM.effI 7 0 1 1) 0 OM.eps
  | 4 => OM.resC OM.outI 0 OM.sX
  | 5 => OM.resC OM.inI 0 OM.eps
  | 6 => OM.resC (OM.effI 7 1 1 2) 7 OM.eps
  | _ => { OM.zCmd with kind := 12, saga := 7 }
def wkr (i : Nat) : OM.Rep := match i with
  | 1 => ⟨0, 1⟩
  | 3 => ⟨9, 0⟩
  | 7 => ⟨0, 3⟩
  | _ => ⟨0, 0⟩
def wki (i : Nat) : List OM.Item := match i with
  | 0 => [OM.effI 7 0 1 1]
  | 1 => [OM.effI 7 0 1 1, OM.outI]
  | 2 => [OM.outI]
  | 3 => [OM.outI]
  | 4 => [OM.inI]
  | 5 => [OM.effI 7 1 1 2]
  | _ => [OM.effI 7 0 2 1]
def wkT : Nat → OM.St
  | 0 => OM.init 3
  | i + 1 => ((wkT i).apply (wkc i)).1
theorem wk_facts : ∀ i : Fin 8, (wkc i.val).ok = true ∧ ((wkT i.val).apply (wkc i.val)).2 = wkr i.val ∧ (wkT (i.val + 1)).items = wki i.val ∧ (i.val ≠ 0 → (wkc i.val).kind ≠ 11) := by decide +kernel
theorem wk_end : (wkT 8).command (OM.effI 7 0 2 1) = some { OM.zCmd with kind := 1, eff := ⟨7, 0, 2⟩, key := OM.sA, delta := 3 } ∧ (wkT 8).done = 8 ∧ OQuiet (wkT 8) = false := by decide +kernel
theorem wk_inv : ∀ i, OM.Inv (wkT i)
  | 0 => OM.Inv.init (g := 3) (by decide)
  | i + 1 => (wk_inv i).apply _
def wkA (z : Nat → Nat) (i : Nat) : Option Addr × Nat := match i with
  | 0 => (some ⟨z 0, 0, none⟩, 2)
  | _ => (none, 0)
def zfW (z : Nat → Nat) (i : Nat) : Nat := match i with
  | 0 => z 4
  | 1 => z 11
  | 2 => z 17
  | 3 => z 23
  | 4 => z 29
  | 5 => z 35
  | 6 => z 41
  | _ => z 46
def itsL (z : Nat → Nat) : List Blk := [.blk 204 (z 4) (itV (OM.effI 7 0 1 1)) 31, .blk 211 (z 11) (itV (OM.effI 7 0 1 1) ++ itV OM.outI) 31, .blk 217 (z 17) (itV OM.outI) 31, .blk 223 (z 23) (itV OM.outI) 31, .blk 229 (z 29) (itV OM.inI) 31, .blk 235 (z 35) (itV (OM.effI 7 1 1 2)) 31, .blk 241 (z 41) (itV (OM.effI 7 0 2 1)) 31, .blk 246 (z 46) (itV (OM.effI 7 0 2 1)) 31]
def ItsA (z : Nat → Nat) : Ass := AssL (itsL z)
theorem its_mem (z : Nat → Nat) : ∀ i : Nat, i < 8 → ∃ k cs, Blk.blk k (zfW z i) cs 31 ∈ itsL z ∧ denL cs = (wki i).flatMap itC ∧ cs.length = (wki i).length * 6
  | 0, _ => ⟨204, _, List.Mem.head _, rfl, rfl⟩
  | 1, _ => ⟨211, _, .tail _ (.head _), rfl, rfl⟩
  | 2, _ => ⟨217, _, .tail _ (.tail _ (.head _)), rfl, rfl⟩
  | 3, _ => ⟨223, _, .tail _ (.tail _ (.tail _ (.head _))), rfl, rfl⟩
  | 4, _ => ⟨229, _, .tail _ (.tail _ (.tail _ (.tail _ (.head _)))), rfl, rfl⟩
  | 5, _ => ⟨235, _, .tail _ (.tail _ (.tail _ (.tail _ (.tail _ (.head _))))), rfl, rfl⟩
  | 6, _ => ⟨241, _, .tail _ (.tail _ (.tail _ (.tail _ (.tail _ (.tail _ (.head _)))))), rfl, rfl⟩
  | 7, _ => ⟨246, _, .tail _ (.tail _ (.tail _ (.tail _ (.tail _ (.tail _ (.tail _ (.head _))))))), rfl, rfl⟩
  | _ + 8, h => absurd h (by omega)
theorem its_sees {c : Cx} {H : List Blk} {j : Nat} {z : Nat → Nat} {f : Blk → List Blk} (hu : At H (.ext j (ItsA z)) f) {i : Nat} (hi : i < 8) : Sees c H 31 6 (some ⟨zfW z i, 0, none⟩) (wki i).length (wki i).length ((wki i).flatMap itC) := by
  intro ms w hk
  obtain ⟨k, cs, h1, h2, h3⟩ := its_mem z i hi
  have hk2 : Kn c.W c.S ms (itsL z) w := hk.hsub (HSub.trans HSub.unjoin (HSub.pick hu))
  have := RdS.ofGot (hk2.got h1) h3
  rwa [h2] at this
abbrev rowS (z : Nat → Nat) (i : Nat) : List SV := cmV (wkc i) (wkA z i).1 (wkc i).d.steps.length (wkA z i).2 ++ [.v (.int .i64 (wkr i).err), .v (.int .i64 (wkr i).num), .v (.string ⟨#[]⟩)] ++ [.v (.slice (some ⟨zfW z i, 0, none⟩) (wki i).length (wki i).length)]
def rowsC (z : Nat → Nat) : List Value := (List.range 8).flatMap fun i => denL (rowS z i)
theorem row_at (z : Nat → Nat) {i : Nat} (hi : i < 8) : ((rowsC z).drop ((i : Int).toNat * 28)).take 28 = denL (rowS z i) :=
  flat_at (k := 28) (g := fun i => denL (rowS z i)) (fun _ => rfl) (L := List.range 8) (i := i) (x := i) (by rw [List.getElem?_range hi])
theorem works1013 {o0 o1 : Obj} (hko : KObj o0 o1) (w : World) : Fr Tryz.prog 13 #[] w (AssL [.ext 9 (GlA o0 o1)]) (.bool true) (AssL [.ext 9 (GlA o0 o1)]) := by
  refine enter_fr TBok (H := [.ext 9 (GlA o0 o1)]) all_foot Tryz.func13 rfl rfl Tryz.ntmps13 [] rfl rfl ?_
  intro S
  conv => whnf
  repeat' (first
 | with_reducible refine r_stop 6 ?_
 | with_reducible ((first | refine r_seq (fun KS hS => ?_) | (refine hS _ _ ?_; clear hS KS) | (refine hB _ ?_; clear hB KB)))
 | ((with_reducible (first | refine r_region ?_ | refine r_cond (fun KA hA KB hB => ?_) | refine r_skip ?_ | refine And.intro rfl ?_ | intro b)); conv => whnf)
 | ((with_reducible refine CallK.id ?_); refine CallK.fresh (fun ms w hk => new1030 (g := 3) (by decide) w) ?_; conv => whnf)
 | with_reducible apply_assumption -symm -exfalso)
  refine StopR.mk ?_
  rename_i d _ _ b3 b4
  refine r_seq (fun KS2 hS2 => ?_)
  refine r_par (β := Nat) (id := 6) [⟨0, [], none, fun _ q2 => .v (.agg #[.string OM.payD.name, .int .i64 OM.payD.retries, .int .i64 OM.payD.deadline, .slice (some ⟨q2, 0, none⟩) OM.payD.steps.length 2]), fun _ q2 => [.ext 200 (dfA OM.payD (some ⟨q2, 0, none⟩) 2)]⟩,
    ⟨1, [0], none, fun l _ => match l with | [z0] => .agg (cmV (wkc 0) (some ⟨z0, 0, none⟩) 2 2) | _ => .v undef, fun _ _ => []⟩,
    ⟨2, [], none, fun _ _ => .agg [.v (.int .i64 0), .v (.int .i64 0), .v (.string ⟨#[]⟩)], fun _ _ => []⟩,
    ⟨3, [], none, fun _ _ => .agg (itV (OM.effI 7 0 1 1)), fun _ _ => []⟩,
    ⟨4, [3], none, fun _ q2 => .slc q2 204 0 1 1, fun _ q2 => [.blk 204 q2 (itV (OM.effI 7 0 1 1)) 31]⟩,
    ⟨5, [1, 2, 4, 0], none, fun l _ => match l with | [_, _, z4, z0] => .agg (cmV (wkc 0) (some ⟨z0, 0, none⟩) 2 2 ++ [.v (.int .i64 0), .v (.int .i64 0), .v (.string ⟨#[]⟩)] ++ [.slc z4 204 0 1 1]) | _ => .v undef, fun _ _ => []⟩,
    ⟨6, [], none, fun _ _ => .agg [.v (.string ⟨#[98]⟩), .v (.string ⟨#[99]⟩)], fun _ _ => []⟩,
    ⟨7, [6], none, fun _ _ => .agg (cmV (wkc 1) none 0 0), fun _ _ => []⟩,
    ⟨8, [], none, fun _ _ => .agg [.v (.int .i64 0), .v (.int .i64 1), .v (.string ⟨#[]⟩)], fun _ _ => []⟩,
    ⟨9, [], none, fun _ _ => .agg (itV (OM.effI 7 0 1 1)), fun _ _ => []⟩,
    ⟨10, [], none, fun _ _ => .agg (itV (OM.outI)), fun _ _ => []⟩,
    ⟨11, [9, 10], none, fun _ q2 => .slc q2 211 0 2 2, fun _ q2 => [.blk 211 q2 (itV (OM.effI 7 0 1 1) ++ itV (OM.outI)) 31]⟩,
    ⟨12, [7, 8, 11], none, fun l _ => match l with | [_, _, z11] => .agg (cmV (wkc 1) none 0 0 ++ [.v (.int .i64 0), .v (.int .i64 1), .v (.string ⟨#[]⟩)] ++ [.slc z11 211 0 2 2]) | _ => .v undef, fun _ _ => []⟩,
    ⟨13, [], none, fun _ _ => .agg (itV (OM.effI 7 0 1 1)), fun _ _ => []⟩,
    ⟨14, [13], none, fun _ _ => .agg (cmV (wkc 2) none 0 0), fun _ _ => []⟩,
    ⟨15, [], none, fun _ _ => .agg [.v (.int .i64 0), .v (.int .i64 0), .v (.string ⟨#[]⟩)], fun _ _ => []⟩,
    ⟨16, [], none, fun _ _ => .agg (itV (OM.outI)), fun _ _ => []⟩,
    ⟨17, [16], none, fun _ q2 => .slc q2 217 0 1 1, fun _ q2 => [.blk 217 q2 (itV (OM.outI)) 31]⟩,
    ⟨18, [14, 15, 17], none, fun l _ => match l with | [_, _, z17] => .agg (cmV (wkc 2) none 0 0 ++ [.v (.int .i64 0), .v (.int .i64 0), .v (.string ⟨#[]⟩)] ++ [.slc z17 217 0 1 1]) | _ => .v undef, fun _ _ => []⟩,
    ⟨19, [], none, fun _ _ => .agg (itV (OM.effI 7 0 1 1)), fun _ _ => []⟩,
    ⟨20, [19], none, fun _ _ => .agg (cmV (wkc 3) none 0 0), fun _ _ => []⟩,
    ⟨21, [], none, fun _ _ => .agg [.v (.int .i64 9), .v (.int .i64 0), .v (.string ⟨#[]⟩)], fun _ _ => []⟩,
    ⟨22, [], none, fun _ _ => .agg (itV (OM.outI)), fun _ _ => []⟩,
    ⟨23, [22], none, fun _ q2 => .slc q2 223 0 1 1, fun _ q2 => [.blk 223 q2 (itV (OM.outI)) 31]⟩,
    ⟨24, [20, 21, 23], none, fun l _ => match l with | [_, _, z23] => .agg (cmV (wkc 3) none 0 0 ++ [.v (.int .i64 9), .v (.int .i64 0), .v (.string ⟨#[]⟩)] ++ [.slc z23 223 0 1 1]) | _ => .v undef, fun _ _ => []⟩,
    ⟨25, [], none, fun _ _ => .agg (itV (OM.outI)), fun _ _ => []⟩,
    ⟨26, [25], none, fun _ _ => .agg (cmV (wkc 4) none 0 0), fun _ _ => []⟩,
    ⟨27, [], none, fun _ _ => .agg [.v (.int .i64 0), .v (.int .i64 0), .v (.string ⟨#[]⟩)], fun _ _ => []⟩,
    ⟨28, [], none, fun _ _ => .agg (itV (OM.inI)), fun _ _ => []⟩,
    ⟨29, [28], none, fun _ q2 => .slc q2 229 0 1 1, fun _ q2 => [.blk 229 q2 (itV (OM.inI)) 31]⟩,
    ⟨30, [26, 27, 29], none, fun l _ => match l with | [_, _, z29] => .agg (cmV (wkc 4) none 0 0 ++ [.v (.int .i64 0), .v (.int .i64 0), .v (.string ⟨#[]⟩)] ++ [.slc z29 229 0 1 1]) | _ => .v undef, fun _ _ => []⟩,
    ⟨31, [], none, fun _ _ => .agg (itV (OM.inI)), fun _ _ => []⟩,
    ⟨32, [31], none, fun _ _ => .agg (cmV (wkc 5) none 0 0), fun _ _ => []⟩,
    ⟨33, [], none, fun _ _ => .agg [.v (.int .i64 0), .v (.int .i64 0), .v (.string ⟨#[]⟩)], fun _ _ => []⟩,
    ⟨34, [], none, fun _ _ => .agg (itV (OM.effI 7 1 1 2)), fun _ _ => []⟩,
    ⟨35, [34], none, fun _ q2 => .slc q2 235 0 1 1, fun _ q2 => [.blk 235 q2 (itV (OM.effI 7 1 1 2)) 31]⟩,
    ⟨36, [32, 33, 35], none, fun l _ => match l with | [_, _, z35] => .agg (cmV (wkc 5) none 0 0 ++ [.v (.int .i64 0), .v (.int .i64 0), .v (.string ⟨#[]⟩)] ++ [.slc z35 235 0 1 1]) | _ => .v undef, fun _ _ => []⟩,
    ⟨37, [], none, fun _ _ => .agg (itV (OM.effI 7 1 1 2)), fun _ _ => []⟩,
    ⟨38, [37], none, fun _ _ => .agg (cmV (wkc 6) none 0 0), fun _ _ => []⟩,
    ⟨39, [], none, fun _ _ => .agg [.v (.int .i64 0), .v (.int .i64 0), .v (.string ⟨#[]⟩)], fun _ _ => []⟩,
    ⟨40, [], none, fun _ _ => .agg (itV (OM.effI 7 0 2 1)), fun _ _ => []⟩,
    ⟨41, [40], none, fun _ q2 => .slc q2 241 0 1 1, fun _ q2 => [.blk 241 q2 (itV (OM.effI 7 0 2 1)) 31]⟩,
    ⟨42, [38, 39, 41], none, fun l _ => match l with | [_, _, z41] => .agg (cmV (wkc 6) none 0 0 ++ [.v (.int .i64 0), .v (.int .i64 0), .v (.string ⟨#[]⟩)] ++ [.slc z41 241 0 1 1]) | _ => .v undef, fun _ _ => []⟩,
    ⟨43, [], none, fun _ _ => .agg (cmV (wkc 7) none 0 0), fun _ _ => []⟩,
    ⟨44, [], none, fun _ _ => .agg [.v (.int .i64 0), .v (.int .i64 3), .v (.string ⟨#[]⟩)], fun _ _ => []⟩,
    ⟨45, [], none, fun _ _ => .agg (itV (OM.effI 7 0 2 1)), fun _ _ => []⟩,
    ⟨46, [45], none, fun _ q2 => .slc q2 246 0 1 1, fun _ q2 => [.blk 246 q2 (itV (OM.effI 7 0 2 1)) 31]⟩,
    ⟨47, [43, 44, 46], none, fun l _ => match l with | [_, _, z46] => .agg (cmV (wkc 7) none 0 0 ++ [.v (.int .i64 0), .v (.int .i64 3), .v (.string ⟨#[]⟩)] ++ [.slc z46 246 0 1 1]) | _ => .v undef, fun _ _ => []⟩,
    ⟨48, [5, 12, 18, 24, 30, 36, 42, 47, 0, 4, 11, 17, 23, 29, 35, 41, 46], none, fun _ q2 => .v (.slice (some ⟨q2, 0, none⟩) 8 8), fun l q2 => match l with | [_, _, _, _, _, _, _, _, z0, z4, z11, z17, z23, z29, z35, z41, z46] => [.blk 248 q2 ((cmV (wkc 0) (some ⟨z0, 0, none⟩) 2 2 ++ [.v (.int .i64 0), .v (.int .i64 0), .v (.string ⟨#[]⟩)] ++ [.slc z4 204 0 1 1]) ++ (cmV (wkc 1) none 0 0 ++ [.v (.int .i64 0), .v (.int .i64 1), .v (.string ⟨#[]⟩)] ++ [.slc z11 211 0 2 2]) ++ (cmV (wkc 2) none 0 0 ++ [.v (.int .i64 0), .v (.int .i64 0), .v (.string ⟨#[]⟩)] ++ [.slc z17 217 0 1 1]) ++ (cmV (wkc 3) none 0 0 ++ [.v (.int .i64 9), .v (.int .i64 0), .v (.string ⟨#[]⟩)] ++ [.slc z23 223 0 1 1]) ++ (cmV (wkc 4) none 0 0 ++ [.v (.int .i64 0), .v (.int .i64 0), .v (.string ⟨#[]⟩)] ++ [.slc z29 229 0 1 1]) ++ (cmV (wkc 5) none 0 0 ++ [.v (.int .i64 0), .v (.int .i64 0), .v (.string ⟨#[]⟩)] ++ [.slc z35 235 0 1 1]) ++ (cmV (wkc 6) none 0 0 ++ [.v (.int .i64 0), .v (.int .i64 0), .v (.string ⟨#[]⟩)] ++ [.slc z41 241 0 1 1]) ++ (cmV (wkc 7) none 0 0 ++ [.v (.int .i64 0), .v (.int .i64 3), .v (.string ⟨#[]⟩)] ++ [.slc z46 246 0 1 1])) 111] | _ => []⟩,
    ⟨49, [48], none, fun _ _ => .v (.int .i64 8), fun _ _ => []⟩,
    ⟨50, [], none, fun _ _ => .v (.int .i64 0), fun _ _ => []⟩] [] 0 _ mixed (by kernel_rfl) (by kernel_rfl) (HSub.refl _) ?_ ?_
  · conv => whnf
    repeat' (first | ((with_reducible refine And.intro ?_ ?_); all_goals (conv => whnf)) | ((with_reducible intro zz AA KP hP); conv => whnf))
    repeat' (first
 | ((with_reducible intro b); conv => whnf)
 | ((with_reducible refine CallK.id ?_); refine CallK.fresh (fun ms w hk => pay1031 w) ?_; conv => whnf)
 | ((with_reducible refine CallK.at 38 ?_); refine CallK.pu (fun w => effect1038 _ _ _ _ w) ?_; conv => whnf)
 | ((with_reducible refine CallK.at 15 ?_); refine CallK.pu (fun w => result1015 _ _ _ w) ?_; conv => whnf)
 | ((with_reducible apply hP); all_goals (first | exact (0 : Nat) | exact ((none, 0) : Option Addr × Nat) | ((repeat' (first | exact SubD.nil | (refine SubD.cons rfl rfl ?_) | (refine SubD.cons rfl (by simp [den]) ?_))); done) | ((try dsimp only [mapZ, List.cons_append, List.nil_append, den, denL]); refine SelI.spec ?_; repeat (first | apply SelI.nil | refine SelI.blk (by repeat (first | with_reducible apply Rm.head | apply Rm.tail)) ?_ | refine SelI.ext (by repeat (first | with_reducible apply Rm.head | apply Rm.tail)) ?_ | (refine SelI.blk' (by repeat (first | with_reducible apply Rm.head | apply Rm.tail)) ?_ ?_; focus rfl) | (refine SelI.ext' (by repeat (first | with_reducible apply Rm.head | apply Rm.tail)) ?_ ?_; focus rfl))))))
  conv => whnf
  intro zz
  conv => whnf
  try dsimp only
  repeat' (first
 | with_reducible refine r_block ?_
 | with_reducible apply_assumption -symm -exfalso)
  have hI6 : HSub [.ext 7 (ItsA zz)] (itsL zz) := HSub.close fun w S h => h
  have hI5 : HSub [.ext 6 (SlA 111 28 (some ⟨zz 48, 0, none⟩) 8 8 (rowsC zz))] [.blk 248 (zz 48) ((cmV (wkc 0) (some ⟨(zz 0), 0, none⟩) 2 2 ++ [.v (.int .i64 0), .v (.int .i64 0), .v (.string ⟨#[]⟩)] ++ [.slc (zz 4) 204 0 1 1]) ++ (cmV (wkc 1) none 0 0 ++ [.v (.int .i64 0), .v (.int .i64 1), .v (.string ⟨#[]⟩)] ++ [.slc (zz 11) 211 0 2 2]) ++ (cmV (wkc 2) none 0 0 ++ [.v (.int .i64 0), .v (.int .i64 0), .v (.string ⟨#[]⟩)] ++ [.slc (zz 17) 217 0 1 1]) ++ (cmV (wkc 3) none 0 0 ++ [.v (.int .i64 9), .v (.int .i64 0), .v (.string ⟨#[]⟩)] ++ [.slc (zz 23) 223 0 1 1]) ++ (cmV (wkc 4) none 0 0 ++ [.v (.int .i64 0), .v (.int .i64 0), .v (.string ⟨#[]⟩)] ++ [.slc (zz 29) 229 0 1 1]) ++ (cmV (wkc 5) none 0 0 ++ [.v (.int .i64 0), .v (.int .i64 0), .v (.string ⟨#[]⟩)] ++ [.slc (zz 35) 235 0 1 1]) ++ (cmV (wkc 6) none 0 0 ++ [.v (.int .i64 0), .v (.int .i64 0), .v (.string ⟨#[]⟩)] ++ [.slc (zz 41) 241 0 1 1]) ++ (cmV (wkc 7) none 0 0 ++ [.v (.int .i64 0), .v (.int .i64 3), .v (.string ⟨#[]⟩)] ++ [.slc (zz 46) 246 0 1 1])) 111] := HSub.slc (i := 248) (i' := 6) (e := 111) (k := 28) (b := zz 48) (len := 8) rfl
  refine r_loop (α := Nat) (fun i => [(1, .v (pv d)), (67, .v (.slice (some ⟨zz 48, 0, none⟩) 8 8)), (68, .v (.int .i64 8)), (69, .v (.int .i64 (i : Nat)))]) (fun i => [.ext 12 (OrchA d (wkT i)), .ext 9 (GlA o0 o1), .ext 7 (ItsA zz), .ext 6 (SlA 111 28 (some ⟨zz 48, 0, none⟩) 8 8 (rowsC zz)), .ext 8 (dfA (wkc i).d (wkA zz i).1 (wkA zz i).2)]) (fun i => i ≤ 8) (fun i => 8 - i) 0 (Nat.zero_le _) (by repeat' (first | exact Sub.nil | (refine Sub.cons rfl rfl ?_))) ?_ ?_
  · refine HSub.trans (B := [.ext 10 (OrchA d (OM.init 3)), .ext 9 (GlA o0 o1)] ++ ([.ext 7 (ItsA zz)] ++ ([.ext 6 (SlA 111 28 (some ⟨zz 48, 0, none⟩) 8 8 (rowsC zz))] ++ [.ext 200 (dfA OM.payD (some ⟨zz 0, 0, none⟩) 2)]))) (HSub.ext (fun _ _ h => h) (HSub.ext (fun _ _ h => h) (HSub.ext (fun _ _ h => h) (HSub.ext (fun _ _ h => h) (HSub.ext (fun _ _ h => h) HSub.nil))))) ?_
    refine HSub.trans (HSub.app2 (HSub.refl _) (HSub.app2 hI6 (HSub.app2 hI5 (HSub.refl _)))) ?_
    dsimp only [itsL, List.cons_append, List.nil_append]
    exact (by (try dsimp only [List.cons_append, List.nil_append, den, denL]); refine SelI.spec ?_; (repeat (first | refine SelI.blk (by repeat (first | with_reducible apply Rm.head | apply Rm.tail)) ?_ | refine SelI.ext (by repeat (first | with_reducible apply Rm.head | apply Rm.tail)) ?_ | (refine SelI.blk' (by repeat (first | with_reducible apply Rm.head | apply Rm.tail)) ?_ ?_; focus rfl) | (refine SelI.ext' (by repeat (first | with_reducible apply Rm.head | apply Rm.tail)) ?_ ?_; focus rfl))); exact SelI.nil)
  clear hI5 hI6
  intro i hi KL hL2
  by_cases hlt : i < 8
  · repeat' (first
 | with_reducible refine r_stop 9 ?_
 | with_reducible ((first | refine r_seq (fun KS hS => ?_) | (refine hS _ _ ?_; clear hS KS) | (refine hA _ ?_; clear hA KA) | refine r_block ?_))
 | ((with_reducible (first | refine r_region ?_ | refine r_cond (fun KA hA KB hB => ?_) | refine r_skip ?_ | refine And.intro rfl ?_ | intro b)); conv => whnf)
 | ((with_reducible refine OpK.id ?_); (first | refine OpK.idx (k := 28) rfl rfl rfl rfl rfl rfl rfl (Sees.ext (by repeat (first | with_reducible apply At.head | apply At.tail))) (by omega) (by omega) (row_at zz hlt) (fun b off hp => ?_) | refine OpK.ldp rfl rfl hp (List.cons_ne_nil _ _) ?_); conv => whnf)
 | (refine if_decT (by omega) ?_; conv => whnf)
 | with_reducible apply_assumption -symm -exfalso)
    refine StopR.mk ?_
    obtain ⟨hok, hrp, hit, hkd⟩ := wk_facts ⟨i, hlt⟩
    dsimp only at hok hrp hit hkd
    have hI := wk_inv i
    have hI2 := wk_inv (i + 1)
    have hwa : (wkc i).kind ≠ 11 → ((wkA zz i).1, (wkA zz i).2) = (none, 0) := by
      intro hk
      cases i with
      | zero => exact absurd rfl hk
      | succ i => rfl
    have hap1014 : ∀ w, Fr Tryz.prog 14 #[pv d, .agg (denL (cmV (wkc i) (wkA zz i).1 (wkc i).d.steps.length (wkA zz i).2)).toArray] w (AssL [.ext 12 (OrchA d (wkT i)), .ext 9 (GlA o0 o1), .ext 8 (dfA (wkc i).d (wkA zz i).1 (wkA zz i).2)]) (rpV (wkr i)) (AssL [.ext 12 (OrchA d (wkT (i + 1))), .ext 9 (GlA o0 o1), .ext 8 (dfA (wkc i).d (wkA zz i).1 (wkA zz i).2)]) := fun w => by
      have := apply1014 (d := d) (a := (wkA zz i).1) (cap := (wkA zz i).2) hko hI hok hwa w
      rwa [hrp] at this
    have him1012 : ∀ w, FrZ Tryz.prog 12 #[pv d] w (AssL [.ext 12 (OrchA d (wkT (i + 1))), .ext 9 (GlA o0 o1)]) (fun z : Option Addr × Nat => .slice z.1 (wki i).length z.2) (fun z => AssL [.ext 12 (OrchA d (wkT (i + 1))), .ext 9 (GlA o0 o1), .ext 1 (SlA 31 6 z.1 (wki i).length z.2 ((wki i).flatMap itC))]) := fun w => by
      have := items1012 (d := d) hko hI2 w
      unfold imC at this
      rwa [hit] at this
    have hdz : (wkc (i + 1)).d = OM.zDef := by
      unfold wkc
      split <;> rename_i hq <;> first | rfl | (exfalso; revert hq; simp)
    have hdf : dfA (wkc (i + 1)).d (wkA zz (i + 1)).1 (wkA zz (i + 1)).2 = SlA 80 2 none 0 0 [] := by rw [hdz]; rfl
    have hwl : (wki i).length ≤ 1000 := by
      rw [← hit]; exact items_le hI2
    refine r_seq (fun KS3 hS3 => ?_)
    refine r_par (β := Option Addr × Nat) (id := 9) [⟨0, [], none, fun _ _ => .v (pv d), fun _ _ => []⟩, ⟨1, [], none, fun _ _ => .loc b 13 0, fun _ _ => []⟩, ⟨2, [1], none, fun _ _ => .agg (cmV (wkc i) (wkA zz i).1 (wkc i).d.steps.length (wkA zz i).2), fun _ _ => []⟩, ⟨3, [0, 2], some 100, fun _ _ => .agg [.v (.int .i64 (wkr i).err), .v (.int .i64 (wkr i).num), .v (.string ⟨#[]⟩)], fun _ _ => [.ext 12 (OrchA d (wkT (i + 1))), .ext 9 (GlA o0 o1), .ext 8 (dfA (wkc i).d (wkA zz i).1 (wkA zz i).2)]⟩, ⟨4, [], none, fun _ _ => .loc b 13 24, fun _ _ => []⟩, ⟨5, [4], none, fun _ _ => .agg [.v (.int .i64 (wkr i).err), .v (.int .i64 (wkr i).num), .v (.string ⟨#[]⟩)], fun _ _ => []⟩, ⟨6, [3, 5], none, fun _ _ => .v (.bool false), fun _ _ => []⟩, ⟨7, [6, 3], none, fun _ _ => .v (.bool false), fun _ _ => []⟩, ⟨8, [7], none, fun _ _ => .v (pv d), fun _ _ => []⟩, ⟨9, [8, 7, 3], some 3, fun _ q2 => .v (.slice q2.1 (wki i).length q2.2), fun _ q2 => [.ext 12 (OrchA d (wkT (i + 1))), .ext 9 (GlA o0 o1), .ext 8 (dfA (wkc i).d (wkA zz i).1 (wkA zz i).2), .ext 5 (SlA 31 6 q2.1 (wki i).length q2.2 ((wki i).flatMap itC))]⟩, ⟨10, [7], none, fun _ _ => .loc b 13 27, fun _ _ => []⟩, ⟨11, [10, 7], none, fun _ _ => .v (.slice (some ⟨zfW zz i, 0, none⟩) (wki i).length (wki i).length), fun _ _ => []⟩, ⟨12, [9, 11, 7], some 9, fun _ _ => .v (.bool true), fun l _ => match l with | [z9, _, _] => [.ext 12 (OrchA d (wkT (i + 1))), .ext 9 (GlA o0 o1), .ext 8 (dfA (wkc i).d (wkA zz i).1 (wkA zz i).2), .ext 5 (SlA 31 6 z9.1 (wki i).length z9.2 ((wki i).flatMap itC))] | _ => []⟩, ⟨13, [12, 7], none, fun _ _ => .v (.bool false), fun _ _ => []⟩, ⟨14, [7, 13], none, fun _ _ => .v (.bool false), fun _ _ => []⟩] [⟨100, [], none, fun _ _ => .v undef, fun _ _ => [.ext 12 (OrchA d (wkT i)), .ext 9 (GlA o0 o1), .ext 8 (dfA (wkc i).d (wkA zz i).1 (wkA zz i).2)]⟩] 0 [.blk 13 b (rowS zz i) 111, .ext 7 (ItsA zz), .ext 6 (SlA 111 28 (some ⟨zz 48, 0, none⟩) 8 8 (rowsC zz))] mixed (by kernel_rfl) (by kernel_rfl) (by show HSub [.ext 12 (OrchA d (wkT i)), .ext 9 (GlA o0 o1), .ext 8 (dfA (wkc i).d (wkA zz i).1 (wkA zz i).2), .blk 13 b (rowS zz i) 111, .ext 7 (ItsA zz), .ext 6 (SlA 111 28 (some ⟨zz 48, 0, none⟩) 8 8 (rowsC zz))] _; exact (by (try dsimp only [List.cons_append, List.nil_append, den, denL]); refine SelI.spec ?_; (repeat (first | refine SelI.blk (by repeat (first | with_reducible apply Rm.head | apply Rm.tail)) ?_ | refine SelI.ext (by repeat (first | with_reducible apply Rm.head | apply Rm.tail)) ?_ | (refine SelI.blk' (by repeat (first | with_reducible apply Rm.head | apply Rm.tail)) ?_ ?_; focus rfl) | (refine SelI.ext' (by repeat (first | with_reducible apply Rm.head | apply Rm.tail)) ?_ ?_; focus rfl))); exact SelI.nil)) ?_ ?_
    · conv => whnf
      repeat' (first | ((with_reducible refine And.intro ?_ ?_); all_goals (conv => whnf)) | ((with_reducible intro zz2 AA KP hP); conv => whnf))
      repeat' (first
 | ((with_reducible intro b); conv => whnf)
 | ((with_reducible refine CallK.id ?_); (first | (refine CallK.selV (by apply Sel.cons; (case h => repeat (first | with_reducible apply Rm.head | apply Rm.tail)); apply Sel.cons; (case h => repeat (first | with_reducible apply Rm.head | apply Rm.tail)); apply Sel.cons; (case h => repeat (first | with_reducible apply Rm.head | apply Rm.tail)); exact Sel.nil) (fun ms w hk => hap1014 w) ?_; dsimp only [layF]) | refine CallK.s2 (by repeat (first | with_reducible apply Rm.head | apply Rm.tail)) (by repeat (first | with_reducible apply Rm.head | apply Rm.tail)) (fun ms w hk => him1012 w) ?_); conv => whnf)
 | ((with_reducible refine CallK.at 28 ?_); refine CallK.puW (fun ms w hk => eqItems1028 (Sees.rd (Sees.ext (by repeat (first | with_reducible apply At.head | apply At.tail))) hk) (Sees.rd (its_sees (by repeat (first | with_reducible apply At.head | apply At.tail)) hlt) hk) hwl) ?_; conv => whnf)
 | (((with_reducible apply OpK.more); (focus refine sok2); (conv => whnf); fail_if_success guard_target =ₛ False))
 | ((with_reducible apply hP); all_goals (first | exact (0 : Nat) | exact ((none, 0) : Option Addr × Nat) | ((repeat' (first | exact SubD.nil | (refine SubD.cons rfl rfl ?_) | (refine SubD.cons rfl (by simp [den]) ?_))); done) | ((try dsimp only [mapZ, List.cons_append, List.nil_append, den, denL]); refine SelI.spec ?_; repeat (first | apply SelI.nil | refine SelI.blk (by repeat (first | with_reducible apply Rm.head | apply Rm.tail)) ?_ | refine SelI.ext (by repeat (first | with_reducible apply Rm.head | apply Rm.tail)) ?_ | (refine SelI.blk' (by repeat (first | with_reducible apply Rm.head | apply Rm.tail)) ?_ ?_; focus rfl) | (refine SelI.ext' (by repeat (first | with_reducible apply Rm.head | apply Rm.tail)) ?_ ?_; focus rfl))))))
    conv => whnf
    intro zz2
    conv => whnf
    try dsimp only
    repeat' (first
 | with_reducible (refine hB _ ?_; clear hB KB)
 | ((with_reducible (first | refine r_region ?_ | refine r_cond (fun KA hA KB hB => ?_) | refine r_skip ?_)); conv => whnf)
 | ((with_reducible refine WrapK.i64 ?_ ?_); (focus omega); conv => whnf)
 | (refine hL2 (i + 1) _ _ (by show i + 1 ≤ 8; omega) (by show 8 - (i + 1) < 8 - i; omega) (by repeat' (first | exact Sub.nil | (refine Sub.cons rfl rfl ?_))) (by show HSub [.ext 12 (OrchA d (wkT (i + 1))), .ext 9 (GlA o0 o1), .ext 7 (ItsA zz), .ext 6 (SlA 111 28 (some ⟨zz 48, 0, none⟩) 8 8 (rowsC zz)), .ext 8 (dfA (wkc (i + 1)).d (wkA zz (i + 1)).1 (wkA zz (i + 1)).2)] _; rw [hdf]; exact HSub.addSlL (L' := [.ext 12 (OrchA d (wkT (i + 1))), .ext 9 (GlA o0 o1), .ext 7 (ItsA zz), .ext 6 (SlA 111 28 (some ⟨zz 48, 0, none⟩) 8 8 (rowsC zz))]) (by (try dsimp only [List.cons_append, List.nil_append, den, denL]); refine SelI.spec ?_; (repeat (first | refine SelI.blk (by repeat (first | with_reducible apply Rm.head | apply Rm.tail)) ?_ | refine SelI.ext (by repeat (first | with_reducible apply Rm.head | apply Rm.tail)) ?_ | (refine SelI.blk' (by repeat (first | with_reducible apply Rm.head | apply Rm.tail)) ?_ ?_; focus rfl) | (refine SelI.ext' (by repeat (first | with_reducible apply Rm.head | apply Rm.tail)) ?_ ?_; focus rfl))); exact SelI.nil)))
 | with_reducible apply_assumption -symm -exfalso)
  · obtain rfl : i = 8 := by omega
    clear hL2
    have hI := wk_inv 8
    obtain ⟨he1, he2, he3⟩ := wk_end
    have hcm1017 := fun w => command1017 (d := d) (x := OM.effI 7 0 2 1) hko hI w
    have happ1036 := fun w => applied1036 (d := d) (show 0 < (wkT 8).groups by have := hI.gr; omega) w
    have hq1034 := fun w => quiet1034 (d := d) hko hI w
    rw [he1] at hcm1017
    rw [he2] at happ1036
    rw [he3] at hq1034
    clear hI he1 he2 he3
    repeat' (first
 | with_reducible ((first | refine r_seq (fun KS hS => ?_) | (refine hS _ _ ?_; clear hS KS) | (refine hB _ ?_; clear hB KB)))
 | ((with_reducible (first | refine r_region ?_ | refine r_cond (fun KA hA KB hB => ?_) | refine r_ret ?_ | refine r_exit ?_ | refine And.intro rfl ?_ | intro b)); conv => whnf)
 | ((with_reducible refine CallK.at 38 ?_); refine CallK.pu (fun w => effect1038 7 0 2 1 w) ?_; conv => whnf)
 | ((with_reducible refine CallK.id ?_); (first | refine CallK.s2V (by repeat (first | with_reducible apply Rm.head | apply Rm.tail)) (by repeat (first | with_reducible apply Rm.head | apply Rm.tail)) (fun ms w hk => hcm1017 w) ?_ | refine CallK.s1V (by repeat (first | with_reducible apply Rm.head | apply Rm.tail)) (fun ms w hk => happ1036 w) ?_ | refine CallK.s2V (by repeat (first | with_reducible apply Rm.head | apply Rm.tail)) (by repeat (first | with_reducible apply Rm.head | apply Rm.tail)) (fun ms w hk => hq1034 w) ?_); conv => whnf)
 | with_reducible apply_assumption -symm -exfalso)
    exact FinK.frL rfl (by (try dsimp only [List.cons_append, List.nil_append, den, denL]); refine SelI.spec ?_; (repeat (first | refine SelI.blk (by repeat (first | with_reducible apply Rm.head | apply Rm.tail)) ?_ | refine SelI.ext (by repeat (first | with_reducible apply Rm.head | apply Rm.tail)) ?_ | (refine SelI.blk' (by repeat (first | with_reducible apply Rm.head | apply Rm.tail)) ?_ ?_; focus rfl) | (refine SelI.ext' (by repeat (first | with_reducible apply Rm.head | apply Rm.tail)) ?_ ?_; focus rfl))); exact SelI.nil)
end Go.Proofs.YtjkmpaggfbghiaaGreatDoor

set_option linter.all false
namespace Go.Proofs.YtjkmpaggfbghiaaGreatDoor
open Go Go.X Go.ChangeShapes Go.WideShapes Go.RowKit
set_option maxRecDepth 1000000
set_option maxHeartbeats 0
section
variable {H : Type} {enc : TypeId × Value → H} {P : Program}
theorem post_of_below {f : Func} {s : ChangeSpec} {apart fresh handsOn again : Bool} {W W' : World} {args : Array Value} {v : Value} {ds gs : List (DataW H)} {before pa pv : List MemPlace}
    (hW : DataW.Whole enc P f.params.toList s.vars apart W args.toList ds gs before)
    (hres : ∀ (b : Nat) (sp : Nat → Bool) (hd : Bool), DataW.TrodAll enc P W' b sp hd f.resultTypes.toList (v.resultList f.resultTypes.size) (s.fn H (ds ++ gs)).results [])
    (hargs : ∀ sp : Nat → Bool, (∀ p ∈ before, sp p.block = true) → DataW.TrodAll enc P W' 0 sp true f.params.toList args.toList (s.fn H (ds ++ gs)).args pa)
    (hvars : ∀ sp : Nat → Bool, (∀ p ∈ before, sp p.block = true) → DataW.TrodVars enc P W' sp s.vars (s.fn H (ds ++ gs)).vars pv)
    (hps : before = pa ++ pv) (hb : Below W.heap.size W W')
    (hok : ∀ (j : Nat) (t : TypeId) (r : Value), f.resultTypes[j]? = some t → (v.resultList f.resultTypes.size)[j]? = some r → Value.okWide P W' .any 0 t r) :
    s.post enc P f apart fresh handsOn again W args v W' := by
  have hlt : ∀ p ∈ before, p.block < W.heap.size := fun p hp => hW.lt p hp
  have hold : ∀ p ∈ before, (fun b => decide (b < W.heap.size)) p.block = true := fun p hp => by simpa using hlt p hp
  refine ⟨ds, gs, before, [], pa, pv, hW, hres _ _ _, hargs _ hold, hvars _ hold, World.keptBut_mono (fun p hp => ⟨hp, ?_⟩) (hb.frame (· ∈ before)), fun _ => ?_⟩
  · rw [hps, List.mem_append] at hp
    exact Or.inr hp
  · obtain ⟨_, _, _, _, _, hz, hn⟩ := hW
    refine ⟨hok, _, _, ([] ++ pa) ++ pv, ⟨[] ++ pa, pv, trodAll_append (hargs _ (fun _ _ => rfl)) (hres _ _ _), hvars _ (fun _ _ => rfl), rfl, ?_, ?_⟩, ?_⟩
    · intro b off hp
      have hin : MemPlace.cell b off ∈ before := by rw [hps]; simpa using hp
      rw [hb.frozen (hlt _ hin)]
      exact hz b off hin
    · intro ha
      have := hn ha
      rw [hps] at this
      simpa using this
    · intro p hp _
      rw [hps]
      simpa using hp
end
theorem and_t {a b : Bool} (h : a = true) (h' : b = true) : (a && b) = true := by rw [h, h']; rfl
theorem own : ownKnob Tryz.prog.godebug = none := by kernel_rfl
theorem laidOut : laidOutB Tryz.prog = true := by kernel_rfl
section
variable {H : Type} {enc : TypeId × Value → H} {P : Program} {W W' : World} {sp : Nat → Bool}
theorem trodAll_below (hl : laidOutB P = true) (hb : Below W.heap.size W W') : ∀ {ts : List TypeId} {vs : List Value} {ds : List (DataW H)} {ps : List MemPlace}, (ts.all fun t => P.readableRec t && decide (t < P.types.size)) = true →
    DataW.TrodAll enc P W 0 (fun _ => true) true ts vs ds ps → (∀ x ∈ ps, x.block < W.heap.size) → (∀ x ∈ ps, sp x.block = true) → DataW.TrodAll enc P W' 0 sp true ts vs ds ps := by
  intro ts
  induction ts with
  | nil =>
    intro vs ds ps _ h _ _
    obtain ⟨rfl, rfl, rfl⟩ := trodAll_nil h
    rfl
  | cons t ts ih =>
    intro vs ds ps hr h hlt hsp
    obtain ⟨v, vs', d, ds', p, q, rfl, rfl, rfl, h1, h2⟩ := trodAll_cons h
    rw [List.all_cons, Bool.and_eq_true, Bool.and_eq_true] at hr
    exact trodAll_cons_mk (WideElems.Trod_stays hl hr.1.1 (of_decide_eq_true hr.1.2) h1 (fun x hx => hb.same (hlt x (List.mem_append_left _ hx))) (fun x hx => hsp x (List.mem_append_left _ hx)))
      (ih hr.2 h2 (fun x hx => hlt x (List.mem_append_right _ hx)) (fun x hx => hsp x (List.mem_append_right _ hx)))
/-- A LAW's END: it answered true, and nothing that stood ahead of it has turned. -/
theorem law_post {f : Func} {s : ChangeSpec} {t4 : TypeId} {args : Array Value} {ds gs : List (DataW H)} {before : List MemPlace} (hl : laidOutB P = true) (h4 : P.underlying t4 = some .bool)
    (hr : (f.params.toList.all fun t => P.readableRec t && decide (t < P.types.size)) = true) (hres : f.resultTypes = #[t4]) (hv : s.vars = [])
    (hW : DataW.Whole enc P f.params.toList s.vars false W args.toList ds gs before) (hfn : s.fn H (ds ++ gs) = { results := [.lit (.bool true)], args := ds }) (hb : Below W.heap.size W W') :
    s.post enc P f false true false false W args (.bool true) W' := by
  have hlt : ∀ p ∈ before, p.block < W.heap.size := fun p hp => hW.lt p hp
  have hW2 := hW
  obtain ⟨p, q, hA, hV, hbef, _⟩ := hW2
  rw [hv] at hV
  obtain ⟨_, rfl⟩ := trodVars_none hV
  have hfa : (s.fn H (ds ++ gs)).args = ds := by rw [hfn]
  have hfr : (s.fn H (ds ++ gs)).results = [.lit (.bool true)] := by rw [hfn]
  have hfv : (s.fn H (ds ++ gs)).vars = [] := by rw [hfn]
  refine post_of_below (pa := p) (pv := []) hW (fun b sp hd => ?_) (fun sp hsp => ?_) (fun sp _ => ?_) hbef hb (ok_one hres rfl (okWide_bool_mk h4 _))
  · rw [hfr, hres]; exact trodAll_mk1 (shut_bool h4 _)
  · rw [hfa]
    exact trodAll_below hl hb hr hA (fun x hx => hlt x (by rw [hbef]; exact List.mem_append_left _ hx)) (fun x hx => hsp x (by rw [hbef]; exact List.mem_append_left _ hx))
  · rw [hfv, hv]; rfl
end
theorem laidMetH.plain {P : Program} {l : List (String × DataW Unit)} {w : World} (h : laidMetH P l w) : laidMet P (l.filter fun x => x.2.handleName?.isNone) w := by
  unfold laidMetH at h
  generalize hfl : (l.filter fun x => x.2.handleName?.isSome) = fl at h
  cases fl with
  | nil =>
    have e : (l.filter fun x => x.2.handleName?.isNone) = l := by
      rw [List.filter_eq_self]
      intro x hx
      have := (List.filter_eq_nil_iff.1 hfl) x hx
      cases hn : x.2.handleName? with
      | none => rfl
      | some s => rw [hn] at this; exact absurd rfl this
    rw [e]
    exact h
  | cons q qs => exact h.1
theorem KObj.of_laid {l : List (String × DataW Unit)} {W : World} (h : laidMetH Tryz.prog l W) (hm1 : ("skald/saga.phases", Rows.laid_skald_saga_phases) ∈ l) (hm2 : ("skald/saga.follow", Rows.laid_skald_saga_follow) ∈ l) :
    ∃ o0 o1, KObj o0 o1 ∧ W.heap[0]? = some o0 ∧ W.heap[1]? = some o1 := by
  obtain ⟨t1, h1⟩ := laid_ints (laidMetH.plain h) (n := "skald/saga.phases") (k := .i64) (zs := [0, 1, 3, 2]) (List.mem_filter.2 ⟨hm1, by kernel_rfl⟩) (g := 0) (by kernel_rfl) (t := 135) (e := 3) (by kernel_rfl) Tryz.underlying135 Tryz.underlying3 (by kernel_rfl) (by kernel_rfl) (by decide)
  obtain ⟨t0, f0, h0⟩ := laid_fns h (n := "skald/saga.follow") (ds := [.nil, .iface "func" (.lit (.string [40, 115, 107, 97, 108, 100, 47, 115, 97, 103, 97, 46, 83, 97, 103, 97, 41, 46, 102, 111, 114, 119, 97, 114, 100])), .iface "func" (.lit (.string [40, 115, 107, 97, 108, 100, 47, 115, 97, 103, 97, 46, 83, 97, 103, 97, 41, 46, 102, 114, 101, 101])), .iface "func" (.lit (.string [40, 115, 107, 97, 108, 100, 47, 115, 97, 103, 97, 46, 83, 97, 103, 97, 41, 46, 117, 110, 100, 111]))]) hm2 (g := 1) (by kernel_rfl) (t := 282) (e := 281) (by kernel_rfl) Tryz.underlying282 Tryz.underlying281 (by kernel_rfl) (by kernel_rfl)
    (.z (.f "(skald/saga.Saga).forward" (by kernel_rfl) (by kernel_rfl) (.f "(skald/saga.Saga).free" (by kernel_rfl) (by kernel_rfl) (.f "(skald/saga.Saga).undo" (by kernel_rfl) (by kernel_rfl) .nil))))
  exact ⟨_, _, ⟨⟨t1, (0, 0), rfl⟩, ⟨t0, f0, rfl⟩⟩, h1, h0⟩
/-- a law's walk, as a call that changes nothing that was there -/
theorem pu_of_gl {P : Program} {f : FuncId} {args : Array Value} {w : World} {o0 o1 : Obj} (h0 : w.heap[0]? = some o0) (h1 : w.heap[1]? = some o1)
    (h : FrZ P f args w (AssL [.ext 9 (GlX o0 o1)]) (fun _ : Unit => .bool true) (fun _ => AssL [.ext 9 (GlA o0 o1)])) : Pu P f args w (.bool true) := by
  have l0 : 0 < w.heap.size := (Array.getElem?_eq_some_iff.1 h0).1
  have l1 : 1 < w.heap.size := (Array.getElem?_eq_some_iff.1 h1).1
  refine (h (fun k => (k = 0 ∨ k = 1) ∨ False) (.cons (x := .ext 9 (GlX o0 o1)) (S := fun k => k = 0 ∨ k = 1) ⟨fun _ hk => hk, ⟨.inl rfl, .inr rfl⟩, h0, h1⟩ (by rintro k (rfl | rfl) <;> assumption) .nil (fun _ _ hk => hk)) (by
    rintro k ((rfl | rfl) | hk)
    · exact l0
    · exact l1
    · exact hk.elim)).mono ?_
  rintro e w' ⟨_, rfl, he, S', hA, _⟩
  have hA : Holds w' [.ext 9 (GlA o0 o1)] S' := hA
  cases hA with
  | @cons _ _ S1 T1 hx hb hH hd =>
    obtain ⟨_, g0, g1⟩ := hx
    refine ⟨rfl, he.os, he.tape, he.output, he.size, fun k hk => ?_⟩
    by_cases e0 : k = 0
    · subst e0; rw [g0, h0]
    · by_cases e1 : k = 1
      · subst e1; rw [g1, h1]
      · exact he.old k hk (fun e => e.elim (fun e => e.elim e0 e1) id)
section
variable {H : Type} {enc : TypeId × Value → H} {w : World} {base : Nat} {sp : Nat → Bool} {held : Bool}
end
end Go.Proofs.YtjkmpaggfbghiaaGreatDoor
