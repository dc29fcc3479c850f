/- Contracts and lemmas for the claim (part 13); no condition of its own. -/
import Derived.Test.YtjkmpaggfbghiaaGreatDoorYQC1012
import Derived.Test.YtjkmpaggfbghiaaGreatDoorYQC1006
import Derived.Test.YtjkmpaggfbghiaaGreatDoorYQC1009
import Derived.Test.YtjkmpaggfbghiaaGreatDoorYQC1008
set_option linter.all false
set_option maxRecDepth 100000
set_option maxHeartbeats 0
set_option linter.unusedVariables false
set_option linter.unusedSimpArgs false
set_option linter.unnecessarySimpa false
namespace Go.Proofs.YtjkmpaggfbghiaaGreatDoor
open Go Go.X
abbrev zSg : List Value := [.string ⟨#[]⟩, .int .i64 0, .int .i64 0, .slice none 0 0, .int .i64 0, .int .i64 0, .bool false, .int .i64 0, .int .i64 0, .int .i64 0]
theorem saga1020 {d : Nat} {o : OM.St} {id : Int} {s : OM.Sg} (hI : OM.Inv o) (hg : o.get id = some s) (w : World) :
    FrZ Tryz.prog 20 #[pv d, .int .i64 id] w (AssL [.ext 12 (OrchA d o)]) (fun z : Option Addr × Nat => .tuple #[sgV s z, .int .i64 0]) (fun z => AssL [.ext 12 (OrchA d o), .ext 1 (stA s z)]) := by
  have hL := LOk.ofInv hI
  have hgr := hI.gr
  have hmem := getL_mem hg
  have hok : OM.SOk s := hL.ok _ hmem
  have hid : 1 ≤ id ∧ id ≤ 9999 := hL.id _ hmem
  refine enter_frZ TBok (H := [.ext 12 (OrchA d o)]) all_foot Tryz.func20 rfl rfl Tryz.ntmps20 [.loc d 0 0, .v (.int .i64 id)] rfl rfl ?_
  intro S _ _
  conv => whnf
  repeat' (first
 | with_reducible refine r_stop 3 ?_
 | with_reducible ((first | refine r_seq (fun KS hS => ?_) | (refine hS _ _ ?_; clear hS KS) | (refine hB _ ?_; clear hB KB)))
 | ((with_reducible (first | refine r_region ?_ | refine r_cond (fun KA hA KB hB => ?_) | refine r_skip ?_ | intro b)); conv => whnf)
 | ((with_reducible refine CallK.id ?_); refine CallK.s1V rmG (fun ms w hk => made1041 (by omega) w) ?_; conv => whnf)
 | with_reducible apply_assumption -symm -exfalso)
  refine StopR.mk ?_
  refine Run.ex (A := orH d o) (i := 12) rmG ?_
  rintro ⟨t1, t2, t3⟩
  dsimp only [orH, layF]
  repeat' (first
 | with_reducible ((first | refine r_seq (fun KS hS => ?_) | (refine hS _ _ ?_; clear hS KS) | (refine hB _ ?_; clear hB KB)))
 | ((with_reducible (first | refine r_region ?_ | refine r_cond (fun KA hA KB hB => ?_) | refine r_ret ?_ | refine r_skip ?_ | refine And.intro rfl ?_ | intro b)); conv => whnf)
 | ((with_reducible refine CallK.id ?_); refine CallK.s1 rmG (fun ms w hk => get1056 hg hok (zok_id hid) w) ?_; conv => whnf)
 | with_reducible apply_assumption -symm -exfalso)
  all_goals exact FinK.frZL _ rfl (HSub.trans (HSub.app2 (A' := [.ext 12 (OrchA d o)]) (or_id (i := 0) (j := 1) (k := 2) (l := 3) (d := d) (s := o) (t1 := t1) (t2 := t2) (t3 := t3)) (HSub.refl _)) seG)
theorem noSaga1020 {d : Nat} {o : OM.St} {id : Int} (hI : OM.Inv o) (hg : o.get id = none) (w : World) :
    Fr Tryz.prog 20 #[pv d, .int .i64 id] w (AssL [.ext 12 (OrchA d o)]) (.tuple #[.agg zSg.toArray, .int .i64 5]) (AssL [.ext 12 (OrchA d o)]) := by
  have hgr := hI.gr
  refine enter_fr TBok (H := [.ext 12 (OrchA d o)]) all_foot Tryz.func20 rfl rfl Tryz.ntmps20 [.loc d 0 0, .v (.int .i64 id)] rfl rfl ?_
  intro S
  conv => whnf
  repeat' (first
 | with_reducible refine r_stop 3 ?_
 | with_reducible ((first | refine r_seq (fun KS hS => ?_) | (refine hS _ _ ?_; clear hS KS) | (refine hB _ ?_; clear hB KB)))
 | ((with_reducible (first | refine r_region ?_ | refine r_cond (fun KA hA KB hB => ?_) | refine r_skip ?_ | intro b)); conv => whnf)
 | ((with_reducible refine CallK.id ?_); refine CallK.s1V rmG (fun ms w hk => made1041 (by omega) w) ?_; conv => whnf)
 | with_reducible apply_assumption -symm -exfalso)
  refine StopR.mk ?_
  refine Run.ex (A := orH d o) (i := 12) rmG ?_
  rintro ⟨t1, t2, t3⟩
  dsimp only [orH, layF]
  repeat' (first
 | with_reducible ((first | refine r_seq (fun KS hS => ?_) | (refine hS _ _ ?_; clear hS KS) | (refine hA _ ?_; clear hA KA)))
 | ((with_reducible (first | refine r_region ?_ | refine r_cond (fun KA hA KB hB => ?_) | refine r_ret ?_ | refine And.intro rfl ?_ | intro b)); conv => whnf)
 | ((with_reducible refine CallK.id ?_); refine CallK.s1V rmG (fun ms w hk => noGet1056 hg w) ?_; conv => whnf))
  all_goals exact FinK.frL rfl (HSub.trans (or_id (i := 0) (j := 1) (k := 2) (l := 3) (d := d) (s := o) (t1 := t1) (t2 := t2) (t3 := t3)) seG)
theorem applied1036 {d : Nat} {o : OM.St} (hg : 0 < o.groups) (w : World) :
    Fr Tryz.prog 36 #[pv d] w (AssL [.ext 12 (OrchA d o)]) (.int .i64 o.done) (AssL [.ext 12 (OrchA d o)]) := by
  refine enter_fr TBok (H := [.ext 12 (OrchA d o)]) all_foot Tryz.func36 rfl rfl Tryz.ntmps36 [.loc d 0 0] rfl rfl ?_
  intro S
  conv => whnf
  repeat' (first
 | with_reducible refine r_stop 3 ?_
 | with_reducible ((first | refine r_seq (fun KS hS => ?_) | (refine hS _ _ ?_; clear hS KS) | (refine hB _ ?_; clear hB KB)))
 | ((with_reducible (first | refine r_region ?_ | refine r_cond (fun KA hA KB hB => ?_) | refine r_skip ?_)); conv => whnf)
 | ((with_reducible refine CallK.id ?_); refine CallK.s1V rmG (fun ms w hk => made1041 (by omega) w) ?_; conv => whnf)
 | with_reducible apply_assumption -symm -exfalso)
  refine StopR.mk ?_
  refine Run.ex (A := orH d o) (i := 12) rmG ?_
  rintro ⟨t1, t2, t3⟩
  dsimp only [orH, layF]
  repeat' (first
 | with_reducible ((first | refine r_seq (fun KS hS => ?_) | (refine hS _ _ ?_; clear hS KS)))
 | ((with_reducible (first | refine r_region ?_ | refine r_ret ?_ | refine And.intro rfl ?_)); conv => whnf))
  all_goals exact FinK.frL rfl (HSub.trans (or_id (i := 0) (j := 1) (k := 2) (l := 3) (d := d) (s := o) (t1 := t1) (t2 := t2) (t3 := t3)) seG)
theorem noop1047 {d : Nat} {c : OM.Cmd} {a : Option Addr} {n cap : Nat} (w : World) : Pu Tryz.prog 47 #[pv d, .agg (denL (cmV c a n cap)).toArray] w (rpV ⟨0, 0⟩) := by
  refine enter_sound TBok Tryz.func47 rfl rfl Tryz.ntmps47 [.v (pv d), .agg (cmV c a n cap)] (Kn.start w noS) rfl rfl ?_
  conv => whnf
  repeat' (first
 | with_reducible ((first | refine r_seq (fun KS hS => ?_) | (refine hS _ _ ?_; clear hS KS)))
 | ((with_reducible (first | refine r_region ?_ | refine r_ret ?_ | refine And.intro rfl ?_ | intro b)); conv => whnf))
  all_goals exact FinK.pu rfl
theorem madeP1041 {d : Nat} {n : Int} {w : World} (hn : 0 < n) (h : OldC w d 0 [.v (.int .i64 n)]) : Pu Tryz.prog 41 #[pv d] w (.bool true) := by
  refine enter_sound TBok Tryz.func41 rfl rfl Tryz.ntmps41 [.v (pv d)] (Kn.start w noS) rfl rfl ?_
  conv => whnf
  have hdec : decide (0 < n) = true := decide_eq_true hn
  repeat' (first
 | with_reducible ((first | refine r_seq (fun KS hS => ?_) | (refine hS _ _ ?_; clear hS KS)))
 | ((with_reducible (first | refine r_region ?_ | refine r_ret ?_ | intro b)); conv => whnf)
 | ((with_reducible refine OpK.id ?_); (first | refine OpK.fap rfl rfl (h.pc id) ?_ | refine OpK.ldp rfl rfl (h.pc id) (List.cons_ne_nil _ _) ?_); conv => whnf)
 | ((with_reducible apply OpK.more); (focus refine sok); (conv => whnf); fail_if_success guard_target =ₛ False))
  all_goals exact FinK.pu (by rw [hdec]; rfl)
def OQuiet (o : OM.St) : Bool := decide (((nxE o.sagas).length : Int) = 0) && decide (((OM.openF 1 o.moves).length : Int) = 0)
theorem quiet1034 {d : Nat} {o : OM.St} {o0 o1 : Obj} (hko : KObj o0 o1) (hI : OM.Inv o) (w : World) :
    Fr Tryz.prog 34 #[pv d] w (AssL [.ext 12 (OrchA d o), .ext 9 (GlA o0 o1)]) (.bool (OQuiet o)) (AssL [.ext 12 (OrchA d o), .ext 9 (GlA o0 o1)]) := by
  have hgr := hI.gr
  have hL := LOk.ofInv hI
  have hml := hI.mlen
  refine enter_fr TBok (H := [.ext 12 (OrchA d o), .ext 9 (GlA o0 o1)]) all_foot Tryz.func34 rfl rfl Tryz.ntmps34 [.loc d 0 0] rfl rfl ?_
  intro S
  conv => whnf
  refine Run.ex (A := orH d o) (i := 12) rmG ?_
  rintro ⟨t1, t2, t3⟩
  dsimp only [orH, layF]
  have hq1073 := fun t w => tquiet1073 (t := t) (L := o.sagas) hko hL w
  unfold OQuiet
  by_cases hq : ((nxE o.sagas).length : Int) = 0
  · rw [decide_eq_true hq] at hq1073 ⊢
    repeat' (first
 | with_reducible ((first | refine r_seq (fun KS hS => ?_) | (refine hS _ _ ?_; clear hS KS)))
 | ((with_reducible (first | refine r_region ?_ | refine r_ret ?_ | refine And.intro rfl ?_ | intro b)); conv => whnf)
 | ((with_reducible refine CallK.at 41 ?_); refine CallK.puW (fun ms w hk => madeP1041 (d := d) (n := o.groups) (by omega) (OldC.of_got (hk.got lmG) rfl)) ?_; conv => whnf)
 | ((with_reducible refine CallK.id ?_); (first | refine CallK.s2V rmG rmG (fun ms w hk => hq1073 _ w) ?_ | refine CallK.s1 rmG (fun ms w hk => mopenL1074 (l := o.moves) hml w) ?_); conv => whnf))
    all_goals exact FinK.frL (by first | rfl | (rw [decide_eq_true hq, Bool.true_and]; rfl)) (HSub.trans (HSub.app2 (A' := [.ext 12 (OrchA d o)]) (or_id (i := 0) (j := 1) (k := 2) (l := 3) (d := d) (s := o) (t1 := t1) (t2 := t2) (t3 := t3)) (HSub.refl _)) seG)
  · rw [decide_eq_false hq] at hq1073 ⊢
    repeat' (first
 | with_reducible ((first | refine r_seq (fun KS hS => ?_) | (refine hS _ _ ?_; clear hS KS)))
 | ((with_reducible (first | refine r_region ?_ | refine r_ret ?_ | refine And.intro rfl ?_)); conv => whnf)
 | ((with_reducible refine CallK.at 41 ?_); refine CallK.puW (fun ms w hk => madeP1041 (d := d) (n := o.groups) (by omega) (OldC.of_got (hk.got lmG) rfl)) ?_; conv => whnf)
 | ((with_reducible refine CallK.id ?_); refine CallK.s2V rmG rmG (fun ms w hk => hq1073 _ w) ?_; conv => whnf))
    all_goals exact FinK.frL (by first | rfl | (rw [decide_eq_false hq, Bool.false_and]; rfl)) (HSub.trans (HSub.app2 (A' := [.ext 12 (OrchA d o)]) (or_id (i := 0) (j := 1) (k := 2) (l := 3) (d := d) (s := o) (t1 := t1) (t2 := t2) (t3 := t3)) (HSub.refl _)) seG)
theorem room1103 {d : Nat} {o : OM.St} (hI : OM.Inv o) (w : World) :
    Fr Tryz.prog 103 #[pv d] w (AssL [.ext 12 (OrchA d o)]) (.int .i64 o.room) (AssL [.ext 12 (OrchA d o)]) := by
  have hml := hI.mlen
  have hpl : o.parts.length ≤ 64 := by have := hI.room; omega
  refine enter_fr TBok (H := [.ext 12 (OrchA d o)]) all_foot Tryz.func103 rfl rfl Tryz.ntmps103 [.loc d 0 0] rfl rfl ?_
  intro S
  conv => whnf
  have hp0 : 0 < o.parts.length := List.length_pos_iff.2 hI.cov.2
  have hol := OM.openF_length o.moves 1
  have hol2 := List.countP_le_length (p := OM.isOpen) (l := o.moves)
  refine Run.ex (A := orH d o) (i := 12) rmG ?_
  rintro ⟨t1, t2, t3⟩
  dsimp only [orH, layF]
  repeat' (first
 | with_reducible refine r_stop 1 ?_
 | with_reducible ((first | refine r_seq (fun KS hS => ?_) | (refine hS _ _ ?_; clear hS KS)))
 | ((with_reducible refine r_region ?_); conv => whnf))
  refine StopR.mk ?_
  refine r_seq (fun KS hS => ?_)
  refine r_par (β := Option Addr × Nat) (id := 1) [nq 0 [] (.loc d 0 0), nq 1 [0] (.loc d 0 0), nq 2 [1] (.loc d 0 4), nq 3 [2] (.loc t3 22 0), ⟨4, [3], none, fun _ z2 => .v (.slice z2.1 o.parts.length z2.2), fun _ z2 => [.ext 90 (SlA 37 2 z2.1 o.parts.length z2.2 (o.parts.flatMap rgC))]⟩, nq 5 [4] (.v (.int .i64 (o.parts.length : Int))), nq 6 [5] (.v (.int .i64 (64 - (o.parts.length : Int)))), nq 7 [] (.loc d 0 0), nq 8 [7] (.loc d 0 0), nq 9 [8] (.loc d 0 3), nq 10 [9] (.loc t2 21 0), ⟨11, [10], none, fun _ z2 => .v (.slice z2.1 (OM.openF 1 o.moves).length z2.2), fun _ z2 => [.ext 91 (SlA 3 1 z2.1 (OM.openF 1 o.moves).length z2.2 (opI o.moves))]⟩, nq 12 [11] (.v (.int .i64 ((OM.openF 1 o.moves).length : Int))), nq 13 [12] (.v (.int .i64 (2 * ((OM.openF 1 o.moves).length : Int)))), nq 14 [6, 13] (.v (.int .i64 (64 - (o.parts.length : Int) - 2 * ((OM.openF 1 o.moves).length : Int))))] [] 1 _ mixed (by kernel_rfl) (by kernel_rfl) (HSub.refl _) ?_ ?_
  · conv => whnf
    repeat' (first | ((with_reducible refine And.intro ?_ ?_); all_goals (conv => whnf)) | ((with_reducible intro zz AA KP hP); conv => whnf))
    repeat' (first
 | ((with_reducible intro b); conv => whnf)
 | ((with_reducible refine WrapK.i64 ?_ ?_); (focus omega); conv => whnf)
 | ((with_reducible refine CallK.id ?_); (first | refine CallK.s1 rmG (fun ms w hk => ranges1060 (l := o.parts) hp0 (by omega) w) ?_ | refine CallK.s1 rmG (fun ms w hk => mopenL1074 (l := o.moves) hml w) ?_); conv => whnf)
 | ((with_reducible apply hP); all_goals (first | exact b | exact (none, 0) | ((repeat' (first | exact SubD.nil | (refine SubD.cons rfl rfl ?_))); done) | exact seZ)))
  conv => whnf
  intro zz
  conv => whnf
  try dsimp only
  repeat' (first
 | with_reducible (refine hS _ _ ?_; clear hS KS)
 | ((with_reducible refine r_ret ?_); conv => whnf)
 | ((with_reducible ((first | refine InAt.mk (fun K' hK => ?_) | (refine hK _ ?_; clear hK K')))); conv => whnf))
  all_goals exact FinK.frL rfl (HSub.trans (or_id (i := 0) (j := 1) (k := 2) (l := 3) (d := d) (s := o) (t1 := t1) (t2 := t2) (t3 := t3)) seG)
def stRep (o : OM.St) (id : Int) : OM.Rep := match o.get id with | none => ⟨5, 0⟩ | some s => ⟨0, s.st⟩
theorem status1049 {d : Nat} {o : OM.St} {c : OM.Cmd} {a : Option Addr} {n cap : Nat} (hI : OM.Inv o) (w : World) :
    Fr Tryz.prog 49 #[pv d, .agg (denL (cmV c a n cap)).toArray] w (AssL [.ext 12 (OrchA d o)]) (rpV (stRep o c.saga)) (AssL [.ext 12 (OrchA d o)]) := by
  unfold stRep
  cases hg : o.get c.saga with
  | some s =>
    refine enter_fr TBok (H := [.ext 12 (OrchA d o)]) all_foot Tryz.func49 rfl rfl Tryz.ntmps49 [.loc d 0 0, .agg (cmV c a n cap)] rfl rfl ?_
    intro S
    conv => whnf
    repeat' (first
 | with_reducible ((first | refine r_seq (fun KS hS => ?_) | (refine hS _ _ ?_; clear hS KS)))
 | ((with_reducible (first | refine r_region ?_ | refine r_ret ?_ | refine And.intro rfl ?_ | intro b)); conv => whnf)
 | ((with_reducible refine CallK.id ?_); refine CallK.s1 rmG (fun ms w hk => saga1020 hI hg w) ?_; conv => whnf))
    all_goals exact FinK.frL rfl seG
  | none =>
    refine enter_fr TBok (H := [.ext 12 (OrchA d o)]) all_foot Tryz.func49 rfl rfl Tryz.ntmps49 [.loc d 0 0, .agg (cmV c a n cap)] rfl rfl ?_
    intro S
    conv => whnf
    repeat' (first
 | with_reducible ((first | refine r_seq (fun KS hS => ?_) | (refine hS _ _ ?_; clear hS KS)))
 | ((with_reducible (first | refine r_region ?_ | refine r_ret ?_ | refine And.intro rfl ?_ | intro b)); conv => whnf)
 | ((with_reducible refine CallK.id ?_); refine CallK.s1V rmG (fun ms w hk => noSaga1020 hI hg w) ?_; conv => whnf))
    all_goals exact FinK.frL rfl seG
theorem cancel1050 {d : Nat} {o : OM.St} {c : OM.Cmd} {a : Option Addr} {n cap : Nat} (hI : OM.Inv o) (w : World) :
    Fr Tryz.prog 50 #[pv d, .agg (denL (cmV c a n cap)).toArray] w (AssL [.ext 12 (OrchA d o)]) (rpV (o.doCancel c).2) (AssL [.ext 12 (OrchA d (o.doCancel c).1)]) := by
  have hL := LOk.ofInv hI
  unfold OM.St.doCancel
  cases hg : o.get c.saga with
  | none =>
    dsimp only
    refine enter_fr TBok (H := [.ext 12 (OrchA d o)]) all_foot Tryz.func50 rfl rfl Tryz.ntmps50 [.loc d 0 0, .agg (cmV c a n cap)] rfl rfl ?_
    intro S
    conv => whnf
    repeat' (first
 | with_reducible ((first | refine r_seq (fun KS hS => ?_) | (refine hS _ _ ?_; clear hS KS) | (refine hA _ ?_; clear hA KA)))
 | ((with_reducible (first | refine r_region ?_ | refine r_cond (fun KA hA KB hB => ?_) | refine r_ret ?_ | refine And.intro rfl ?_ | intro b)); conv => whnf)
 | ((with_reducible refine CallK.id ?_); refine CallK.s1V rmG (fun ms w hk => noSaga1020 hI hg w) ?_; conv => whnf)
 | ((with_reducible refine CallK.at 46 ?_); refine CallK.pu (fun w => refuse1046 w) ?_; conv => whnf))
    all_goals exact FinK.frL rfl seG
  | some s =>
    have hmem := getL_mem hg
    have hok : OM.SOk s := hL.ok _ hmem
    have hid : 1 ≤ c.saga ∧ c.saga ≤ 9999 := hL.id _ hmem
    dsimp only
    by_cases h1 : s.st = 1
    · rw [if_pos h1]
      refine enter_fr TBok (H := [.ext 12 (OrchA d o)]) all_foot Tryz.func50 rfl rfl Tryz.ntmps50 [.loc d 0 0, .agg (cmV c a n cap)] rfl rfl ?_
      intro S
      conv => whnf
      repeat' (first
 | with_reducible refine r_stop 4 ?_
 | with_reducible ((first | refine r_seq (fun KS hS => ?_) | (refine hS _ _ ?_; clear hS KS) | (refine hB _ ?_; clear hB KB)))
 | ((with_reducible (first | refine r_region ?_ | refine r_cond (fun KA hA KB hB => ?_) | refine r_skip ?_ | refine And.intro rfl ?_ | intro b)); conv => whnf)
 | ((with_reducible refine CallK.id ?_); refine CallK.s1 rmG (fun ms w hk => saga1020 hI hg w) ?_; conv => whnf)
 | with_reducible apply_assumption -symm -exfalso)
      refine StopR.mk ?_
      refine Run.ex (A := orH d o) (i := 12) rmG ?_
      rintro ⟨t1, t2, t3⟩
      dsimp only [orH, layF]
      repeat' (first
 | with_reducible ((first | refine r_seq (fun KS hS => ?_) | (refine hS _ _ ?_; clear hS KS)))
 | ((with_reducible (first | refine r_ret ?_ | refine And.intro rfl ?_)); conv => whnf)
 | (apply r_split 6 (id := 4); refine mixed; kernel_rfl; kernel_rfl; kernel_rfl; intro K' hK; conv => whnf)
 | ((with_reducible refine CallK.id ?_); refine CallK.s1V rmG (fun ms w hk => tcancel1098 hL.srt hg hok h1 (zok_id hid) w) ?_; conv => whnf)
 | ((with_reducible refine CallK.at 46 ?_); refine CallK.pu (fun w => refuse1046 w) ?_; conv => whnf)
 | ((with_reducible ((first | refine AnyAt.mk (fun K' hK => ?_) | (refine hK _ ?_; clear hK K') | (refine hK _ _ ?_; clear hK K')))); conv => whnf))
      all_goals exact FinK.frL rfl (HSub.trans (or_id (i := 0) (j := 1) (k := 2) (l := 3) (d := d) (s := { o with sagas := OM.putS c.saga { s with cancel := true } o.sagas }) (t1 := t1) (t2 := t2) (t3 := t3)) seG)
    · rw [if_neg h1]
      refine enter_fr TBok (H := [.ext 12 (OrchA d o)]) all_foot Tryz.func50 rfl rfl Tryz.ntmps50 [.loc d 0 0, .agg (cmV c a n cap)] rfl rfl ?_
      intro S
      conv => whnf
      repeat' (first
 | with_reducible refine r_stop 4 ?_
 | with_reducible ((first | refine r_seq (fun KS hS => ?_) | (refine hS _ _ ?_; clear hS KS) | (refine hB _ ?_; clear hB KB)))
 | ((with_reducible (first | refine r_region ?_ | refine r_cond (fun KA hA KB hB => ?_) | refine r_skip ?_ | refine And.intro rfl ?_ | intro b)); conv => whnf)
 | ((with_reducible refine CallK.id ?_); refine CallK.s1 rmG (fun ms w hk => saga1020 hI hg w) ?_; conv => whnf)
 | with_reducible apply_assumption -symm -exfalso)
      refine StopR.mk ?_
      refine Run.ex (A := orH d o) (i := 12) rmG ?_
      rintro ⟨t1, t2, t3⟩
      dsimp only [orH, layF]
      repeat' (first
 | with_reducible ((first | refine r_seq (fun KS hS => ?_) | (refine hS _ _ ?_; clear hS KS)))
 | ((with_reducible (first | refine r_ret ?_ | refine And.intro rfl ?_)); conv => whnf)
 | (apply r_split 6 (id := 4); refine mixed; kernel_rfl; kernel_rfl; kernel_rfl; intro K' hK; conv => whnf)
 | ((with_reducible refine CallK.id ?_); refine CallK.s1V rmG (fun ms w hk => tnoCancel1098 hg hok h1 w) ?_; conv => whnf)
 | ((with_reducible refine CallK.at 46 ?_); refine CallK.pu (fun w => refuse1046 w) ?_; conv => whnf)
 | ((with_reducible ((first | refine AnyAt.mk (fun K' hK => ?_) | (refine hK _ ?_; clear hK K') | (refine hK _ _ ?_; clear hK K')))); conv => whnf))
      all_goals exact FinK.frL rfl (HSub.trans (or_id (i := 0) (j := 1) (k := 2) (l := 3) (d := d) (s := o) (t1 := t1) (t2 := t2) (t3 := t3)) seG)
theorem mcl1100 {d b2 b3 j : Nat} {o : OM.St} {c : OM.Cmd} {m : OM.Mv} {a : Option Addr} {n cap : Nat} (hm : o.moves[j]? = some m) (hml : o.moves.length ≤ 64) (hmo : m.r.ok = true) (hr : c.r.ok = true) (w : World) :
    Fr Tryz.prog 100 #[.int .i64 ((j : Nat) + 1), pv b2, pv b3] w (AssL [.blk 1 b2 [.loc d 0 0] 23, .blk 2 b3 (cmV c a n cap) 42, .ext 13 (OrchA d o)]) (.bool (OM.meets m.r c.r)) (AssL [.blk 1 b2 [.loc d 0 0] 23, .blk 2 b3 (cmV c a n cap) 42, .ext 13 (OrchA d o)]) := by
  refine enter_fr TBok (H := [.blk 1 b2 [.loc d 0 0] 23, .blk 2 b3 (cmV c a n cap) 42, .ext 13 (OrchA d o)]) all_foot Tryz.func100 rfl rfl Tryz.ntmps100 [.v (.int .i64 ((j : Nat) + 1)), .loc b2 1 0, .loc b3 2 0] rfl rfl ?_
  intro S
  conv => whnf
  refine Run.ex (A := orH d o) (i := 13) rmG ?_
  rintro ⟨t1, t2, t3⟩
  dsimp only [orH, layF]
  repeat' (first
 | with_reducible ((first | refine r_seq (fun KS hS => ?_) | (refine hS _ _ ?_; clear hS KS)))
 | ((with_reducible (first | refine r_region ?_ | refine r_ret ?_ | refine And.intro rfl ?_ | intro b)); conv => whnf)
 | ((with_reducible refine CallK.id ?_); refine CallK.s1V rmG (fun ms w hk => mget1065 hm hml w) ?_; conv => whnf)
 | ((with_reducible refine CallK.at 101 ?_); refine CallK.pu (fun w => meet1101 hmo hr (rsz hmo) (rsz hr) w) ?_; conv => whnf))
  all_goals exact FinK.frL rfl (HSub.trans (HSub.app2 (A' := [.blk 1 b2 [.loc d 0 0] 23, .blk 2 b3 (cmV c a n cap) 42]) (B' := [.ext 13 (OrchA d o)]) (HSub.refl _) (or_id (i := 0) (j := 1) (k := 2) (l := 3) (d := d) (s := o) (t1 := t1) (t2 := t2) (t3 := t3))) seG)
abbrev mP (c : OM.Cmd) (x : Int × OM.Mv) : Bool := OM.meets x.2.r c.r
def ixV (l : List (Int × OM.Mv)) (c : OM.Cmd) : Int := if l.findIdx (mP c) < l.length then (l.findIdx (mP c) : Nat) else -1
abbrev mvB (d b2 b3 : Nat) (o : OM.St) (c : OM.Cmd) (a0 : Option Addr) (n0 cap0 : Nat) (a : Option Addr) (cap : Nat) : List Blk := [.ext 14 (SlA 3 1 a (OM.openF 1 o.moves).length cap (opI o.moves)), .blk 1 b2 [.loc d 0 0] 23, .blk 2 b3 (cmV c a0 n0 cap0) 42, .ext 13 (OrchA d o)]
theorem index1154 {d b2 b3 : Nat} {o : OM.St} {c : OM.Cmd} {a0 a : Option Addr} {n0 cap0 cap : Nat} (hI : OM.Inv o) (hr : c.r.ok = true) (w : World) :
    Fr Tryz.prog 154 #[.slice a (OM.openF 1 o.moves).length cap, .func (.func 100) #[] #[pv b2, pv b3]] w (AssL (mvB d b2 b3 o c a0 n0 cap0 a cap)) (.int .i64 (ixV o.openM c)) (AssL (mvB d b2 b3 o c a0 n0 cap0 a cap)) := by
  have hml := hI.mlen
  have hmo := inv_mok hI
  have hol := OM.openF_length o.moves 1
  have hol2 := List.countP_le_length (p := OM.isOpen) (l := o.moves)
  obtain ⟨L, hLe⟩ : ∃ L, o.openM = L := ⟨_, rfl⟩
  have hLe' : OM.openF 1 o.moves = L := hLe
  obtain ⟨stop, hstop⟩ : ∃ stop, L.findIdx (mP c) = stop := ⟨_, rfl⟩
  have hsl : stop ≤ L.length := by rw [← hstop]; exact List.findIdx_le_length
  have hat : ∀ {i : Nat} {x : Int × OM.Mv}, L[i]? = some x → ((opI o.moves).drop ((i : Int).toNat * 1)).take 1 = denL [.v (.int .i64 x.1)] := fun h => oi_at (l := o.moves) (by rw [hLe']; exact h)
  have hop : ∀ {i : Nat} {x : Int × OM.Mv}, L[i]? = some x → ∃ j m, x = (((j : Nat) : Int) + 1, m) ∧ o.moves[j]? = some m ∧ m.r.ok = true := fun {i} {x} h => by
    rw [← hLe'] at h
    obtain ⟨n, m⟩ := x
    obtain ⟨q, hq, hn, _⟩ := OM.openF_mem.1 (List.mem_of_getElem? h)
    exact ⟨q, m, by rw [hn, Int.add_comm], hq, hmo m (List.mem_of_getElem? hq)⟩
  unfold ixV
  rw [hLe, hstop]
  rw [hLe'] at hol
  have hmvB : mvB d b2 b3 o c a0 n0 cap0 a cap = [.ext 14 (SlA 3 1 a L.length cap (opI o.moves)), .blk 1 b2 [.loc d 0 0] 23, .blk 2 b3 (cmV c a0 n0 cap0) 42, .ext 13 (OrchA d o)] := by rw [← hLe']
  rw [hmvB, hLe']
  refine enter_fr TBok (H := [.ext 14 (SlA 3 1 a L.length cap (opI o.moves)), .blk 1 b2 [.loc d 0 0] 23, .blk 2 b3 (cmV c a0 n0 cap0) 42, .ext 13 (OrchA d o)]) all_foot Tryz.func154 rfl rfl Tryz.ntmps154 [.v (.slice a L.length cap), .fn 100 [.loc b2 1 0, .loc b3 2 0]] rfl rfl ?_
  intro S
  conv => whnf
  repeat' (first
 | with_reducible ((first | refine r_seq (fun KS hS => ?_) | (refine hS _ _ ?_; clear hS KS) | refine r_block ?_))
 | ((with_reducible refine r_region ?_); conv => whnf))
  refine r_loop (α := Nat) (fun i => [(0, .v (.slice a L.length cap)), (1, .fn 100 [.loc b2 1 0, .loc b3 2 0]), (7, .v (.int .i64 (L.length : Nat))), (8, .v (.int .i64 (i : Nat)))]) (fun _ => [.ext 14 (SlA 3 1 a L.length cap (opI o.moves)), .blk 1 b2 [.loc d 0 0] 23, .blk 2 b3 (cmV c a0 n0 cap0) 42, .ext 13 (OrchA d o)]) (fun i => i ≤ stop) (fun i => L.length - i) 0 (Nat.zero_le _) suG seG ?_
  intro i hi KL hL
  by_cases hlt : i < L.length
  · obtain ⟨x, hx⟩ : ∃ x, L[i]? = some x := ⟨_, List.getElem?_eq_getElem hlt⟩
    have hxi : L[i] = x := (List.getElem?_eq_some_iff.1 hx).2
    have hxc := hat hx
    obtain ⟨j, m, rfl, hjm, hmr⟩ := hop hx
    have hcl1100 := fun w => mcl1100 (d := d) (b2 := b2) (b3 := b3) (c := c) (a := a0) (n := n0) (cap := cap0) hjm hml hmr hr w
    dsimp only at hxc
    by_cases hls : i < stop
    · have hno : OM.meets m.r c.r = false := by
        have := List.not_of_lt_findIdx (p := mP c) (xs := L) (i := i) (by omega)
        rw [hxi] at this
        simpa [mP] using this
      rw [hno] at hcl1100
      repeat' (first
 | with_reducible ((first | refine r_seq (fun KS hS => ?_) | (refine hS _ _ ?_; clear hS KS) | (refine hA _ ?_; clear hA KA) | (refine hB _ ?_; clear hB KB) | refine r_block ?_))
 | ((with_reducible (first | refine r_region ?_ | refine r_cond (fun KA hA KB hB => ?_) | refine r_skip ?_)); conv => whnf)
 | ((with_reducible refine WrapK.i64 ?_ ?_); (focus omega); conv => whnf)
 | ((with_reducible refine OpK.id ?_); (first | refine OpK.idx (k := 1) rfl rfl rfl rfl rfl rfl rfl (Sees.ext atG) (by omega) (by omega) hxc (fun b off hp => ?_) | refine OpK.ldp rfl rfl hp (List.cons_ne_nil _ _) ?_); conv => whnf)
 | ((with_reducible refine CallK.id ?_); refine CallK.selV (by apply Sel.cons; (case h => exact rmG); apply Sel.cons; (case h => exact rmG); apply Sel.cons; (case h => exact rmG); exact Sel.nil) (fun ms w hk => hcl1100 w) ?_; dsimp only [layF]; conv => whnf)
 | (refine hL (i + 1) _ _ (by show i + 1 ≤ _; omega) (by show L.length - (i + 1) < L.length - i; omega) suG seG)
 | (refine if_decT (by omega) ?_; conv => whnf)
 | with_reducible apply_assumption -symm -exfalso)
    · obtain rfl : i = stop := by omega
      have hyes : OM.meets m.r c.r = true := by
        have := List.findIdx_getElem (p := mP c) (xs := L) (w := by omega)
        simp only [hstop] at this
        rw [hxi] at this
        exact this
      rw [hyes] at hcl1100
      repeat' (first
 | with_reducible ((first | refine r_seq (fun KS hS => ?_) | (refine hS _ _ ?_; clear hS KS) | (refine hA _ ?_; clear hA KA) | refine r_block ?_))
 | ((with_reducible (first | refine r_region ?_ | refine r_cond (fun KA hA KB hB => ?_) | refine r_ret ?_ | refine r_skip ?_)); conv => whnf)
 | ((with_reducible refine OpK.id ?_); (first | refine OpK.idx (k := 1) rfl rfl rfl rfl rfl rfl rfl (Sees.ext atG) (by omega) (by omega) hxc (fun b off hp => ?_) | refine OpK.ldp rfl rfl hp (List.cons_ne_nil _ _) ?_); conv => whnf)
 | ((with_reducible refine CallK.id ?_); refine CallK.selV (by apply Sel.cons; (case h => exact rmG); apply Sel.cons; (case h => exact rmG); apply Sel.cons; (case h => exact rmG); exact Sel.nil) (fun ms w hk => hcl1100 w) ?_; dsimp only [layF]; conv => whnf)
 | (refine if_decT (by omega) ?_; conv => whnf)
 | with_reducible apply_assumption -symm -exfalso)
      all_goals exact FinK.frL (by rw [if_pos hlt]; rfl) seG
  · repeat' (first
 | with_reducible ((first | refine r_seq (fun KS hS => ?_) | (refine hS _ _ ?_; clear hS KS) | (refine hB _ ?_; clear hB KB)))
 | ((with_reducible (first | refine r_region ?_ | refine r_cond (fun KA hA KB hB => ?_) | refine r_ret ?_ | refine r_exit ?_)); conv => whnf)
 | (refine if_decF (by omega) ?_; conv => whnf)
 | with_reducible apply_assumption -symm -exfalso)
    all_goals exact FinK.frL (by rw [if_neg (by omega)]; rfl) seG
theorem contains1102 {d b2 b3 : Nat} {o : OM.St} {c : OM.Cmd} {a0 a : Option Addr} {n0 cap0 cap : Nat} (hI : OM.Inv o) (hr : c.r.ok = true) (w : World) :
    Fr Tryz.prog 102 #[.slice a (OM.openF 1 o.moves).length cap, .func (.func 100) #[] #[pv b2, pv b3]] w (AssL (mvB d b2 b3 o c a0 n0 cap0 a cap)) (.bool (o.openM.any (mP c))) (AssL (mvB d b2 b3 o c a0 n0 cap0 a cap)) := by
  have hany : o.openM.any (mP c) = decide (0 ≤ ixV o.openM c) := by
    unfold ixV
    rw [Bool.eq_iff_iff, decide_eq_true_eq]
    constructor
    · intro h
      have : o.openM.findIdx (mP c) < o.openM.length := by rw [List.findIdx_lt_length]; exact List.any_eq_true.1 h
      rw [if_pos this]; omega
    · intro h
      split at h
      · rename_i hlt
        rw [List.findIdx_lt_length] at hlt
        exact List.any_eq_true.2 hlt
      · omega
  rw [hany]
  refine enter_fr TBok (H := mvB d b2 b3 o c a0 n0 cap0 a cap) all_foot Tryz.func102 rfl rfl Tryz.ntmps102 [.v (.slice a (OM.openF 1 o.moves).length cap), .fn 100 [.loc b2 1 0, .loc b3 2 0]] rfl rfl ?_
  intro S
  conv => whnf
  repeat' (first
 | with_reducible ((first | refine r_seq (fun KS hS => ?_) | (refine hS _ _ ?_; clear hS KS)))
 | ((with_reducible (first | refine r_region ?_ | refine r_ret ?_)); conv => whnf)
 | ((with_reducible refine CallK.id ?_); refine CallK.selV (by apply Sel.cons; (case h => exact rmG); apply Sel.cons; (case h => exact rmG); apply Sel.cons; (case h => exact rmG); apply Sel.cons; (case h => exact rmG); exact Sel.nil) (fun ms w hk => index1154 hI hr w) ?_; dsimp only [layF]; conv => whnf))
  all_goals exact FinK.frL rfl seG
theorem doMove_no {o : OM.St} {c : OM.Cmd} {fr : Int} {is : Bool} (hov : ownV (OM.ownerF c.r 0 o.parts) = .tuple #[.int .i64 fr, .bool is, .int .i64 0]) (hA : ¬ o.groups ≤ c.group) (h : is = false ∨ fr = c.group) : o.doMove c = (o, ⟨9, 0⟩) := by
  unfold OM.St.doMove OM.St.owner
  rw [if_neg hA]
  cases ho : OM.ownerF c.r 0 o.parts with
  | none => rfl
  | some g =>
    rw [ho] at hov
    simp only [ownV, Value.tuple.injEq, Array.mk.injEq, List.cons.injEq, Value.int.injEq, Value.bool.injEq, true_and, and_true] at hov
    obtain ⟨rfl, rfl⟩ := hov
    dsimp only
    rw [if_pos]
    rcases h with h | h
    · left; simpa using h
    · exact .inr h
theorem doMove_yes {o : OM.St} {c : OM.Cmd} {fr : Int} {is : Bool} (hov : ownV (OM.ownerF c.r 0 o.parts) = .tuple #[.int .i64 fr, .bool is, .int .i64 0]) (hA : ¬ o.groups ≤ c.group) (h : is = true) (hne : fr ≠ c.group) : OM.ownerF c.r 0 o.parts = some fr ∧ 0 < fr ∧ o.doMove c = if o.openM.any (mP c) then (o, ⟨17, 0⟩) else if o.room < 2 then (o, ⟨4, 0⟩) else if 64 ≤ o.moves.length then (o, ⟨4, 0⟩) else ({ o with moves := o.moves ++ [⟨c.r, fr, c.group, 1, OM.eps⟩] }, ⟨0, o.moves.length + 1⟩) := by
  unfold OM.St.doMove OM.St.owner
  rw [if_neg hA]
  cases ho : OM.ownerF c.r 0 o.parts with
  | none =>
    rw [ho] at hov
    simp only [ownV, Value.tuple.injEq, Array.mk.injEq, List.cons.injEq, Value.int.injEq, Value.bool.injEq, true_and, and_true] at hov
    exact absurd (hov.2.trans h) (by decide)
  | some g =>
    rw [ho] at hov
    simp only [ownV, Value.tuple.injEq, Array.mk.injEq, List.cons.injEq, Value.int.injEq, Value.bool.injEq, true_and, and_true] at hov
    obtain ⟨rfl, rfl⟩ := hov
    have h0 : 0 < g := by simpa using h
    refine ⟨rfl, h0, ?_⟩
    dsimp only
    rw [if_neg (by omega)]
theorem owner_grp {o : OM.St} (h : OM.Inv o) {r : OM.Rg} (hr : r.ok = true) {fr : Int} (hf : OM.ownerF r 0 o.parts = some fr) : 1 ≤ fr ∧ fr < o.groups := by
  have hr' := OM.ok_iff.1 hr
  have hown := (OM.ownerF_spec (fun p hp => (h.prt p hp).1) hf).2
  obtain ⟨p, hp, hpr⟩ := h.cov.at r.lo
  have hpm : OM.meets p.r r = true := (OM.meets_iff (h.cov.ok p hp) hr').2 ⟨_, hpr, OM.inR_lo hr'⟩
  have hpg := hown p hp hpm
  have hpp := h.prt p hp
  omega
theorem move1051 {d : Nat} {o : OM.St} {c : OM.Cmd} {a : Option Addr} {n cap : Nat} (hI : OM.Inv o) (hr : c.r.ok = true) (hg : 1 ≤ c.group ∧ c.group ≤ 7) (w : World) :
    Fr Tryz.prog 51 #[pv d, .agg (denL (cmV c a n cap)).toArray] w (AssL [.ext 12 (OrchA d o)]) (rpV (o.doMove c).2) (AssL [.ext 12 (OrchA d (o.doMove c).1)]) := by
  have hgr := hI.gr
  have hml := hI.mlen
  have hmo := inv_mok hI
  have hpo := inv_pok hI
  have hpl : o.parts.length ≤ 64 := by have := hI.room; omega
  have hp0 : 0 < o.parts.length := List.length_pos_iff.2 hI.cov.2
  have hol := OM.openF_length o.moves 1
  have hol2 := List.countP_le_length (p := OM.isOpen) (l := o.moves)
  obtain ⟨fr, is, hov⟩ : ∃ (fr : Int) (is : Bool), ownV (OM.ownerF c.r 0 o.parts) = .tuple #[.int .i64 fr, .bool is, .int .i64 0] := by
    cases OM.ownerF c.r 0 o.parts with
    | none => exact ⟨0, false, rfl⟩
    | some g => exact ⟨g, decide (0 < g), rfl⟩
  have how1099 := fun t w => owner1099 (t := t) hp0 (by omega) hpo hr w
  rw [hov] at how1099
  refine enter_fr TBok (H := [.ext 12 (OrchA d o)]) all_foot Tryz.func51 rfl rfl Tryz.ntmps51 [.loc d 0 0, .agg (cmV c a n cap)] rfl rfl ?_
  intro S
  conv => whnf
  refine Run.ex (A := orH d o) (i := 12) rmG ?_
  rintro ⟨t1, t2, t3⟩
  dsimp only [orH, layF]
  repeat' (first
 | with_reducible refine r_stop 1 ?_
 | with_reducible ((first | refine r_seq (fun KS hS => ?_) | (refine hS _ _ ?_; clear hS KS)))
 | ((with_reducible (first | refine r_region ?_ | intro b)); conv => whnf))
  refine StopR.mk ?_
  rename_i b2 b3
  revert b
  intro b4
  repeat' (first
 | with_reducible refine r_stop 4 ?_
 | with_reducible ((first | refine r_seq (fun KS hS => ?_) | (refine hS _ _ ?_; clear hS KS) | refine r_block ?_))
 | ((with_reducible (first | refine r_region ?_ | refine And.intro rfl ?_ | intro b)); conv => whnf)
 | (apply r_split 6 (id := 1); refine mixed; kernel_rfl; kernel_rfl; kernel_rfl; intro K' hK; conv => whnf)
 | ((with_reducible refine CallK.id ?_); (first | refine CallK.s1V rmG (fun ms w hk => how1099 _ w) ?_ | refine CallK.s1 rmG (fun ms w hk => mopenL1074 (l := o.moves) hml w) ?_); conv => whnf)
 | ((with_reducible ((first | refine InAt.mk (fun K' hK => ?_) | refine AnyAt.mk (fun K' hK => ?_) | (refine hK _ ?_; clear hK K') | (refine hK _ _ ?_; clear hK K')))); conv => whnf))
  refine StopR.mk ?_
  rcases b with ⟨al, cl⟩
  dsimp only
  by_cases hA : o.groups ≤ c.group
  · have hres : o.doMove c = (o, ⟨2, 0⟩) := by unfold OM.St.doMove; rw [if_pos hA]
    repeat' (first
 | with_reducible ((first | refine r_seq (fun KS hS => ?_) | (refine hS _ _ ?_; clear hS KS) | (refine hA _ ?_; clear hA KA)))
 | ((with_reducible (first | refine r_region ?_ | refine r_cond (fun KA hA KB hB => ?_) | refine r_ret ?_ | refine And.intro rfl ?_)); conv => whnf)
 | ((with_reducible refine CallK.at 46 ?_); refine CallK.pu (fun w => refuse1046 w) ?_; conv => whnf)
 | (apply r_quiet; refine mixed; kernel_rfl; kernel_rfl; kernel_rfl; conv => whnf)
 | (refine if_decT (by omega) ?_; conv => whnf))
    all_goals exact FinK.frL (by rw [hres]; rfl) (by rw [hres]; exact HSub.trans (or_id (i := 0) (j := 1) (k := 2) (l := 3) (d := d) (s := o) (t1 := t1) (t2 := t2) (t3 := t3)) seG)
  by_cases hB : is = false
  · have hres := doMove_no hov hA (.inl hB)
    subst hB
    repeat' (first
 | with_reducible ((first | refine r_seq (fun KS hS => ?_) | (refine hS _ _ ?_; clear hS KS) | (refine hA _ ?_; clear hA KA) | (refine hB _ ?_; clear hB KB)))
 | ((with_reducible (first | refine r_region ?_ | refine r_cond (fun KA hA KB hB => ?_) | refine r_ret ?_ | refine And.intro rfl ?_)); conv => whnf)
 | ((with_reducible refine CallK.at 46 ?_); refine CallK.pu (fun w => refuse1046 w) ?_; conv => whnf)
 | (apply r_quiet; refine mixed; kernel_rfl; kernel_rfl; kernel_rfl; conv => whnf)
 | (refine if_decF (by omega) ?_; conv => whnf))
    all_goals exact FinK.frL (by rw [hres]; rfl) (by rw [hres]; exact HSub.trans (or_id (i := 0) (j := 1) (k := 2) (l := 3) (d := d) (s := o) (t1 := t1) (t2 := t2) (t3 := t3)) seG)
  have hB : is = true := by simpa using hB
  by_cases hC : fr = c.group
  · have hres := doMove_no hov hA (.inr hC)
    subst hB
    repeat' (first
 | with_reducible ((first | refine r_seq (fun KS hS => ?_) | (refine hS _ _ ?_; clear hS KS) | (refine hA _ ?_; clear hA KA) | (refine hB _ ?_; clear hB KB)))
 | ((with_reducible (first | refine r_region ?_ | refine r_cond (fun KA hA KB hB => ?_) | refine r_ret ?_ | refine And.intro rfl ?_)); conv => whnf)
 | ((with_reducible refine CallK.at 46 ?_); refine CallK.pu (fun w => refuse1046 w) ?_; conv => whnf)
 | (apply r_quiet; refine mixed; kernel_rfl; kernel_rfl; kernel_rfl; conv => whnf)
 | ((first | refine if_decT (by omega) ?_ | refine if_decF (by omega) ?_); conv => whnf))
    all_goals exact FinK.frL (by rw [hres]; rfl) (by rw [hres]; exact HSub.trans (or_id (i := 0) (j := 1) (k := 2) (l := 3) (d := d) (s := o) (t1 := t1) (t2 := t2) (t3 := t3)) seG)
  obtain ⟨hfr, hfr0, hyes⟩ := doMove_yes hov hA hB hC
  subst hB
  have hgrp := owner_grp hI hr hfr
  have hct1102 := fun w => contains1102 (d := d) (b2 := b2) (b3 := b3) (a0 := a) (a := al) (n0 := n) (cap0 := cap) (cap := cl) hI hr w
  repeat' (first
 | with_reducible refine r_stop 8 ?_
 | with_reducible ((first | refine r_seq (fun KS hS => ?_) | (refine hS _ _ ?_; clear hS KS) | (refine hB _ ?_; clear hB KB)))
 | ((with_reducible (first | refine r_region ?_ | refine r_cond (fun KA hA KB hB => ?_) | refine And.intro rfl ?_)); conv => whnf)
 | (apply r_quiet; refine mixed; kernel_rfl; kernel_rfl; kernel_rfl; conv => whnf)
 | (refine if_decF (by omega) ?_; conv => whnf))
  refine StopR.mk ?_
  refine Run.hsub (H' := [.blk 3 b4 [.v (.int .i64 0), .v (.int .i64 0), .v (.string ⟨#[]⟩)] 34, .ext 14 (SlA 3 1 al (OM.openF 1 o.moves).length cl (opI o.moves)), .blk 1 b2 [.loc d 0 0] 23, .blk 2 b3 (cmV c a n cap) 42, .ext 13 (OrchA d o)]) (HSub.trans (HSub.app2 (A' := [.blk 3 b4 [.v (.int .i64 0), .v (.int .i64 0), .v (.string ⟨#[]⟩)] 34, .ext 14 (SlA 3 1 al (OM.openF 1 o.moves).length cl (opI o.moves)), .blk 1 b2 [.loc d 0 0] 23, .blk 2 b3 (cmV c a n cap) 42]) (B' := [.ext 13 (OrchA d o)]) (HSub.refl _) (or_id (i := 0) (j := 1) (k := 2) (l := 3) (d := d) (s := o) (t1 := t1) (t2 := t2) (t3 := t3))) seG) ?_
  by_cases hD : o.openM.any (mP c) = true
  · have hres : o.doMove c = (o, ⟨17, 0⟩) := by rw [hyes, if_pos hD]
    rw [hD] at hct1102
    repeat' (first
 | with_reducible ((first | refine r_seq (fun KS hS => ?_) | (refine hS _ _ ?_; clear hS KS) | (refine hA _ ?_; clear hA KA)))
 | ((with_reducible (first | refine r_region ?_ | refine r_cond (fun KA hA KB hB => ?_) | refine r_ret ?_ | refine And.intro rfl ?_)); conv => whnf)
 | ((with_reducible refine CallK.id ?_); refine CallK.selV (by apply Sel.cons; (case h => exact rmG); apply Sel.cons; (case h => exact rmG); apply Sel.cons; (case h => exact rmG); apply Sel.cons; (case h => exact rmG); exact Sel.nil) (fun ms w hk => hct1102 w) ?_; dsimp only [layF]; conv => whnf)
 | ((with_reducible refine CallK.at 46 ?_); refine CallK.pu (fun w => refuse1046 w) ?_; conv => whnf))
    all_goals exact FinK.frL (by rw [hres]; rfl) (by rw [hres]; exact seG)
  rw [if_neg hD] at hyes
  have hD' : o.openM.any (mP c) = false := by simpa using hD
  rw [hD'] at hct1102
  by_cases hE : o.room < 2
  · have hres : o.doMove c = (o, ⟨4, 0⟩) := by rw [hyes, if_pos hE]
    repeat' (first
 | with_reducible ((first | refine r_seq (fun KS hS => ?_) | (refine hS _ _ ?_; clear hS KS) | (refine hA _ ?_; clear hA KA) | (refine hB _ ?_; clear hB KB)))
 | ((with_reducible (first | refine r_region ?_ | refine r_cond (fun KA hA KB hB => ?_) | refine r_ret ?_ | refine And.intro rfl ?_)); conv => whnf)
 | ((with_reducible refine CallK.id ?_); (first | (refine CallK.selV (by apply Sel.cons; (case h => exact rmG); apply Sel.cons; (case h => exact rmG); apply Sel.cons; (case h => exact rmG); apply Sel.cons; (case h => exact rmG); exact Sel.nil) (fun ms w hk => hct1102 w) ?_; dsimp only [layF]) | refine CallK.s1V rmG (fun ms w hk => room1103 hI w) ?_); conv => whnf)
 | ((with_reducible refine CallK.at 46 ?_); refine CallK.pu (fun w => refuse1046 w) ?_; conv => whnf)
 | (refine if_decT (by omega) ?_; conv => whnf))
    all_goals exact FinK.frL (by rw [hres]; rfl) (by rw [hres]; exact seG)
  rw [if_neg hE] at hyes
  have hno : ∀ m ∈ o.moves, m.st ≠ 3 → OM.meets m.r c.r = false := by
    intro m hm hmo
    obtain ⟨i, hi⟩ := List.mem_iff_getElem?.1 hm
    have hin : ((1 + i : Int), m) ∈ o.openM := OM.openF_mem.2 ⟨i, hi, rfl, hmo⟩
    cases hx : OM.meets m.r c.r with
    | false => rfl
    | true => exact absurd (List.any_eq_true.2 ⟨_, hin, hx⟩) hD
  repeat' (first
 | with_reducible refine r_stop 12 ?_
 | with_reducible ((first | refine r_seq (fun KS hS => ?_) | (refine hS _ _ ?_; clear hS KS) | (refine hB _ ?_; clear hB KB)))
 | ((with_reducible (first | refine r_region ?_ | refine r_cond (fun KA hA KB hB => ?_) | refine r_skip ?_ | refine And.intro rfl ?_)); conv => whnf)
 | ((with_reducible refine CallK.id ?_); (first | (refine CallK.selV (by apply Sel.cons; (case h => exact rmG); apply Sel.cons; (case h => exact rmG); apply Sel.cons; (case h => exact rmG); apply Sel.cons; (case h => exact rmG); exact Sel.nil) (fun ms w hk => hct1102 w) ?_; dsimp only [layF]) | refine CallK.s1V rmG (fun ms w hk => room1103 hI w) ?_); conv => whnf)
 | (refine if_decF (by omega) ?_; conv => whnf)
 | with_reducible apply_assumption -symm -exfalso)
  refine StopR.mk ?_
  refine Run.ex (A := orH d o) (i := 13) rmG ?_
  rintro ⟨t1, t2, t3⟩
  dsimp only [orH, layF]
  by_cases hF : 64 ≤ o.moves.length
  · have hres : o.doMove c = (o, ⟨4, 0⟩) := by rw [hyes, if_pos hF]
    repeat' (first
 | with_reducible ((first | refine r_seq (fun KS hS => ?_) | (refine hS _ _ ?_; clear hS KS)))
 | ((with_reducible (first | refine r_region ?_ | refine r_ret ?_ | refine And.intro rfl ?_)); conv => whnf)
 | (apply r_split 9 (id := 12); refine mixed; kernel_rfl; kernel_rfl; kernel_rfl; intro K' hK; conv => whnf)
 | ((with_reducible refine CallK.id ?_); refine CallK.s1V rmG (fun ms w hk => mfull1104 (by omega) hml hr (by omega) hg hC hmo hno w) ?_; conv => whnf)
 | ((with_reducible ((first | refine InAt.mk (fun K' hK => ?_) | refine AnyAt.mk (fun K' hK => ?_) | (refine hK _ ?_; clear hK K') | (refine hK _ _ ?_; clear hK K')))); conv => whnf))
    all_goals exact FinK.frL (by rw [hres]; rfl) (by rw [hres]; exact HSub.trans (or_id (i := 0) (j := 1) (k := 2) (l := 3) (d := d) (s := o) (t1 := t1) (t2 := t2) (t3 := t3)) seG)
  · have hres := hyes
    rw [if_neg hF] at hres
    repeat' (first
 | with_reducible ((first | refine r_seq (fun KS hS => ?_) | (refine hS _ _ ?_; clear hS KS)))
 | ((with_reducible (first | refine r_region ?_ | refine r_ret ?_ | refine And.intro rfl ?_)); conv => whnf)
 | (apply r_split 9 (id := 12); refine mixed; kernel_rfl; kernel_rfl; kernel_rfl; intro K' hK; conv => whnf)
 | ((with_reducible refine CallK.id ?_); refine CallK.s1V rmG (fun ms w hk => mstart1104 (by omega) hr (by omega) hg hC hmo hno w) ?_; conv => whnf)
 | ((with_reducible ((first | refine InAt.mk (fun K' hK => ?_) | refine AnyAt.mk (fun K' hK => ?_) | (refine hK _ ?_; clear hK K') | (refine hK _ _ ?_; clear hK K')))); conv => whnf))
    all_goals exact FinK.frL (by rw [hres]; rfl) (by rw [hres]; exact HSub.trans (or_id (i := 0) (j := 1) (k := 2) (l := 3) (d := d) (s := { o with moves := o.moves ++ [⟨c.r, fr, c.group, 1, OM.eps⟩] }) (t1 := t1) (t2 := t2) (t3 := t3)) seG)
theorem ownerF_of {r : OM.Rg} {g : Int} : ∀ {l : List OM.Pt} {own : Int}, (∀ p ∈ l, OM.meets p.r r = true → p.group = g) → (own = 0 ∨ own = g) → ∃ x, OM.ownerF r own l = some x ∧ ((∃ p ∈ l, OM.meets p.r r = true) → x = g) ∧ (own = g → x = g)
  | [], own, _, _ => ⟨own, rfl, fun ⟨p, hp, _⟩ => (List.not_mem_nil hp).elim, id⟩
  | p :: l, own, hl, ho => by
    have hl' : ∀ q ∈ l, OM.meets q.r r = true → q.group = g := fun q hq => hl q (by simp [hq])
    unfold OM.ownerF
    by_cases hm : OM.meets p.r r = true
    · have hp := hl p (by simp) hm
      rw [if_pos hm, if_neg (by rintro ⟨a, b⟩; rcases ho with h | h <;> omega), hp]
      obtain ⟨x, h1, _, h3⟩ := ownerF_of (own := g) hl' (.inr rfl)
      exact ⟨x, h1, fun _ => h3 rfl, fun _ => h3 rfl⟩
    · rw [if_neg hm]
      obtain ⟨x, h1, h2, h3⟩ := ownerF_of (own := own) hl' ho
      refine ⟨x, h1, ?_, h3⟩
      rintro ⟨q, hq, hqm⟩
      rcases List.mem_cons.1 hq with rfl | hq
      · exact absurd hqm hm
      · exact h2 ⟨q, hq, hqm⟩
theorem takenMove {j : Nat} {o : OM.St} {m : OM.Mv} (hI : OM.Inv o) (hm : o.moves[j]? = some m) (ho : m.st ≠ 3) :
    ∃ e : Int, ∀ (t : Nat) (w : World), Fr Tryz.prog 108 #[pv t, .agg #[.string m.r.lo, .string m.r.hi], .int .i64 m.to] w (AssL [.ext 12 (PtsA t o.parts)]) (.tuple #[.int .i64 e, .int .i64 0]) (AssL [.ext 12 (PtsA t (OM.moveP o.parts m.r m.to))]) := by
  have hgr := hI.gr
  have hmm := hI.mok m (List.mem_of_getElem? hm)
  have hp0 : 0 < o.parts.length := List.length_pos_iff.2 hI.cov.2
  have hpl : o.parts.length ≤ 64 := by have := hI.room; omega
  have hrok : m.r.ok = true := OM.ok_iff.2 hmm.1
  obtain ⟨p, hp, hpr⟩ := hI.cov.at m.r.lo
  have hpm : OM.meets p.r m.r = true := (OM.meets_iff (hI.cov.ok p hp) hmm.1).2 ⟨_, hpr, OM.inR_lo hmm.1⟩
  obtain ⟨x, h1, h2, _⟩ := ownerF_of (own := 0) (fun q hq hqm => hI.own m (List.mem_of_getElem? hm) ho q hq hqm) (.inl rfl)
  obtain rfl := h2 ⟨p, hp, hpm⟩
  have hT := (hI.taken (m' := { m with st := 3, data := OM.eps }) hm ho rfl rfl rfl rfl (by decide : OM.eps.size ≤ 65536)).room
  have hlen : (OM.moveP o.parts m.r m.to).length ≤ 64 := by
    dsimp only at hT
    omega
  exact ⟨_, fun t w => rmove1108 hp0 hpl (inv_pok hI) (fun q hq => ⟨by have := (hI.prt q hq).2.2.1; omega, (hI.prt q hq).2.2.2⟩) hrok (by omega) h1 (by omega) (by omega) ⟨p, hp, hpm⟩ hlen w⟩
theorem result1052 {d : Nat} {o : OM.St} {c : OM.Cmd} {a : Option Addr} {n cap : Nat} {o0 o1 : Obj} (hko : KObj o0 o1) (hI : OM.Inv o) (hr : 0 ≤ c.res ∧ c.res ≤ 18) (hd : c.data.size ≤ 65536) (w : World) :
    Fr Tryz.prog 52 #[pv d, .agg (denL (cmV c a n cap)).toArray] w (AssL [.ext 12 (OrchA d o), .ext 9 (GlA o0 o1)]) (rpV (o.doResult c).2) (AssL [.ext 12 (OrchA d (o.doResult c).1), .ext 9 (GlA o0 o1)]) := by
  have hcm1017 := fun w => command1017 (d := d) (x := c.item) hko hI w
  have hnow := now_ok hI
  have hL := LOk.ofInv hI
  have hml := hI.mlen
  cases hcc : o.command c.item with
  | none =>
    have hres : o.doResult c = (o, ⟨9, 0⟩) := by unfold OM.St.doResult; rw [if_pos (.inl (by rw [hcc]; rfl))]
    rw [hcc] at hcm1017
    refine enter_fr TBok (H := [.ext 12 (OrchA d o), .ext 9 (GlA o0 o1)]) all_foot Tryz.func52 rfl rfl Tryz.ntmps52 [.loc d 0 0, .agg (cmV c a n cap)] rfl rfl ?_
    intro S
    conv => whnf
    repeat' (first
 | with_reducible ((first | refine r_seq (fun KS hS => ?_) | (refine hS _ _ ?_; clear hS KS) | (refine hA _ ?_; clear hA KA)))
 | ((with_reducible (first | refine r_region ?_ | refine r_cond (fun KA hA KB hB => ?_) | refine r_ret ?_ | refine And.intro rfl ?_ | intro b)); conv => whnf)
 | ((with_reducible refine CallK.id ?_); refine CallK.s2V rmG rmG (fun ms w hk => hcm1017 w) ?_; conv => whnf)
 | ((with_reducible refine CallK.at 46 ?_); refine CallK.pu (fun w => refuse1046 w) ?_; conv => whnf))
    all_goals exact FinK.frL (by rw [hres]; rfl) (by rw [hres]; exact seG)
  | some cc =>
    rw [hcc] at hcm1017
    by_cases h9 : 0 < c.item.move ∧ c.res ≠ 0
    · have hres : o.doResult c = (o, ⟨9, 0⟩) := by unfold OM.St.doResult; rw [if_pos (.inr h9)]
      obtain ⟨h9a, h9b⟩ := h9
      refine enter_fr TBok (H := [.ext 12 (OrchA d o), .ext 9 (GlA o0 o1)]) all_foot Tryz.func52 rfl rfl Tryz.ntmps52 [.loc d 0 0, .agg (cmV c a n cap)] rfl rfl ?_
      intro S
      conv => whnf
      repeat' (first
 | with_reducible ((first | refine r_seq (fun KS hS => ?_) | (refine hS _ _ ?_; clear hS KS) | (refine hA _ ?_; clear hA KA)))
 | ((with_reducible (first | refine r_region ?_ | refine r_cond (fun KA hA KB hB => ?_) | refine r_ret ?_ | refine And.intro rfl ?_ | intro b)); conv => whnf)
 | ((with_reducible refine CallK.id ?_); refine CallK.s2V rmG rmG (fun ms w hk => hcm1017 w) ?_; conv => whnf)
 | ((with_reducible refine CallK.at 46 ?_); refine CallK.pu (fun w => refuse1046 w) ?_; conv => whnf)
 | ((first | refine if_decT (by omega) ?_ | refine if_ndecT (by omega) ?_); conv => whnf))
      all_goals exact FinK.frL (by rw [hres]; rfl) (by rw [hres]; exact seG)
    have hsome : ¬ ((o.command c.item).isNone = true ∨ (0 < c.item.move ∧ c.res ≠ 0)) := by rw [hcc]; simpa using h9
    rcases OM.wanted_spec (OM.command_spec hcc) with ⟨id, s, h1, h2, h3, h4, h5⟩ | ⟨j, m, h1, h2, h3⟩
    · have hid : c.item.eff.saga = id := by rw [h3]
      have hg : o.get c.item.eff.saga = some s := by rw [hid]; exact OM.get_of_mem hI.srt h1
      have hok : OM.SOk s := (hI.sok _ h1).2.2
      have hz : 1 ≤ c.item.eff.saga ∧ c.item.eff.saga ≤ 9999 := by rw [hid]; exact ⟨(hI.sok _ h1).1, (hI.sok _ h1).2.1⟩
      have hres : o.doResult c = ({ o with sagas := OM.putS c.item.eff.saga (s.follow c.res o.now) o.sagas }, ⟨0, 0⟩) := by unfold OM.St.doResult; rw [if_neg hsome, if_pos h4, hg]
      have htr1105 : ∀ t w, Fr Tryz.prog 105 #[pv t, .int .i64 c.item.eff.saga, .agg #[.int .i64 c.item.eff.saga, .int .i64 c.item.eff.step, .int .i64 c.item.eff.phase], .int .i64 c.res, .int .i64 (min o.done 2147483648)] w (AssL [.ext 0 (TabA t o.sagas), .ext 9 (GlA o0 o1)]) (.int .i64 0) (AssL [.ext 0 (TabA t (OM.putS c.item.eff.saga (s.follow c.res o.now) o.sagas)), .ext 9 (GlA o0 o1)]) := fun t w => by
        have e1 : c.item.eff.step = s.at_ := by rw [h3]
        have e2 : c.item.eff.phase = OM.phaseOf s.st := by rw [h3]
        rw [e1, e2]
        exact tresult1105 hko hL.srt hg hok h2 hr hnow hz w
      clear h3 hid
      refine enter_fr TBok (H := [.ext 12 (OrchA d o), .ext 9 (GlA o0 o1)]) all_foot Tryz.func52 rfl rfl Tryz.ntmps52 [.loc d 0 0, .agg (cmV c a n cap)] rfl rfl ?_
      intro S
      conv => whnf
      repeat' (first
 | with_reducible refine r_stop 6 ?_
 | with_reducible ((first | refine r_seq (fun KS hS => ?_) | (refine hS _ _ ?_; clear hS KS) | (refine hA _ ?_; clear hA KA) | (refine hB _ ?_; clear hB KB)))
 | ((with_reducible (first | refine r_region ?_ | refine r_cond (fun KA hA KB hB => ?_) | refine r_skip ?_ | refine And.intro rfl ?_ | intro b)); conv => whnf)
 | ((with_reducible refine CallK.id ?_); refine CallK.s2V rmG rmG (fun ms w hk => hcm1017 w) ?_; conv => whnf)
 | ((first | refine if_decT (by omega) ?_ | refine if_decF (by omega) ?_); conv => whnf)
 | with_reducible apply_assumption -symm -exfalso)
      refine StopR.mk ?_
      refine Run.ex (A := orH d o) (i := 12) rmG ?_
      rintro ⟨t1, t2, t3⟩
      dsimp only [orH, layF]
      repeat' (first
 | with_reducible ((first | refine r_seq (fun KS hS => ?_) | (refine hS _ _ ?_; clear hS KS)))
 | ((with_reducible (first | refine r_ret ?_ | refine And.intro rfl ?_)); conv => whnf)
 | (apply r_split 13 (id := 6); refine mixed; kernel_rfl; kernel_rfl; kernel_rfl; intro K' hK; conv => whnf)
 | ((with_reducible refine CallQ.at 97 ?_); refine CallQ.puW (fun ms w hk => nowP1097 (d := d) (n := o.groups) (k := o.done) (OldC.of_got (hk.got lmG) rfl) (OldC.of_got (hk.got lmG) rfl)) ?_; conv => whnf)
 | ((with_reducible refine CallK.id ?_); refine CallK.s2V rmG rmG (fun ms w hk => htr1105 _ w) ?_; conv => whnf)
 | ((with_reducible refine CallK.at 46 ?_); refine CallK.pu (fun w => refuse1046 w) ?_; conv => whnf)
 | ((with_reducible ((first | refine AnyAt.mk (fun K' hK => ?_) | (refine hK _ ?_; clear hK K') | (refine hK _ _ ?_; clear hK K')))); conv => whnf))
      all_goals exact FinK.frL (by rw [hres]; rfl) (by rw [hres]; exact HSub.trans (HSub.app2 (A' := [.ext 12 (OrchA d { o with sagas := OM.putS c.item.eff.saga (s.follow c.res o.now) o.sagas })]) (or_id (i := 0) (j := 1) (k := 2) (l := 3) (d := d) (s := { o with sagas := OM.putS c.item.eff.saga (s.follow c.res o.now) o.sagas }) (t1 := t1) (t2 := t2) (t3 := t3)) (HSub.refl [.ext 9 (GlA o0 o1)])) seG)
    · have hfst : c.item = (OM.mvItem (1 + j) m).1 := by rw [← h3]
      rw [OM.mvItem_fst] at hfst
      have hmm := hI.mok m (List.mem_of_getElem? h1)
      by_cases h2m : m.st = 2
      · rw [if_pos h2m] at hfst
        have e1 : c.item.move = (j : Nat) + 1 := by rw [hfst]; exact Int.add_comm _ _
        have e2 : c.item.in_ = true := by rw [hfst]
        have e2' : (!c.item.in_) = false := by rw [e2]; rfl
        have e3 : (c.item.move - 1).toNat = j := by omega
        have hres : o.doResult c = ({ o with moves := o.moves.modify j (fun m => { m with st := 3, data := OM.eps }), parts := OM.moveP o.parts m.r m.to }, ⟨0, 0⟩) := by
          unfold OM.St.doResult OM.setM
          rw [if_neg hsome, if_neg (by omega), if_neg (by rw [e2]; simp), e3, h1]
        have hmg1065 := fun t w => mget1065 (t := t) h1 hml w
        have htk1107 := fun t w => taken1107 (t := t) h1 h2m hml w
        obtain ⟨ep, hrm1108⟩ := takenMove hI h1 h2
        rw [← e1] at hmg1065 htk1107
        clear hfst
        refine enter_fr TBok (H := [.ext 12 (OrchA d o), .ext 9 (GlA o0 o1)]) all_foot Tryz.func52 rfl rfl Tryz.ntmps52 [.loc d 0 0, .agg (cmV c a n cap)] rfl rfl ?_
        intro S
        conv => whnf
        repeat' (first
 | with_reducible refine r_stop 2 ?_
 | with_reducible ((first | refine r_seq (fun KS hS => ?_) | (refine hS _ _ ?_; clear hS KS)))
 | ((with_reducible (first | refine r_region ?_ | refine And.intro rfl ?_ | intro b)); conv => whnf))
        refine StopR.mk ?_
        rename_i b3 b4
        revert b
        intro b5
        repeat' (first
 | with_reducible refine r_stop 9 ?_
 | with_reducible ((first | refine r_seq (fun KS hS => ?_) | (refine hS _ _ ?_; clear hS KS) | (refine hB _ ?_; clear hB KB)))
 | ((with_reducible (first | refine r_region ?_ | refine r_cond (fun KA hA KB hB => ?_) | refine r_skip ?_ | refine And.intro rfl ?_ | intro b)); conv => whnf)
 | (refine if_f e2' ?_; conv => whnf)
 | ((with_reducible refine CallK.id ?_); refine CallK.s2V rmG rmG (fun ms w hk => hcm1017 w) ?_; conv => whnf)
 | ((first | refine if_decT (by omega) ?_ | refine if_decF (by omega) ?_ | refine if_ndecF (by omega) ?_); conv => whnf)
 | with_reducible apply_assumption -symm -exfalso)
        refine StopR.mk ?_
        refine Run.ex (A := orH d o) (i := 12) rmG ?_
        rintro ⟨t1, t2, t3⟩
        dsimp only [orH, layF]
        refine r_seq (fun KS2 hS2 => ?_)
        refine r_par (β := Nat) (id := 9) [nq 0 [] (.loc d 0 0), nq 1 [0] (.loc d 0 0), nq 2 [1] (.loc d 0 3), nq 3 [2] (.loc t2 21 0), nq 4 [] (.loc b5 15 3), nq 5 [4] (.v (.int .i64 c.item.move)), nq 6 [3, 5] (.v (.tuple #[.agg (mvC m).toArray, .int .i64 0])), nq 7 [6] (.v (.tuple #[.agg (mvC m).toArray, .int .i64 0])), nq 8 [7] (.v (.agg (mvC m).toArray)), nq 9 [7] (.v (.int .i64 0)), ⟨10, [], none, fun _ z2 => .loc z2 90 0, fun _ z2 => [.blk 90 z2 [.v (.string ⟨#[]⟩), .v (.string ⟨#[]⟩), .v (.int .i64 0), .v (.int .i64 0), .v (.int .i64 0), .v (.string ⟨#[]⟩)] 83]⟩, ⟨11, [8, 10], some 10, fun _ _ => .v undef, fun l _ => match l with | [_, q2] => [.blk 90 q2 (mvc m) 83] | _ => []⟩] [] 1 _ mixed (by kernel_rfl) (by kernel_rfl) (HSub.refl _) ?_ ?_
        · conv => whnf
          repeat' (first | ((with_reducible refine And.intro ?_ ?_); all_goals (conv => whnf)) | ((with_reducible intro zz AA KP hP); conv => whnf))
          repeat' (first
 | ((with_reducible intro b); conv => whnf)
 | ((with_reducible refine CallK.id ?_); refine CallK.s1V rmG (fun ms w hk => hmg1065 _ w) ?_; conv => whnf)
 | ((with_reducible apply hP); all_goals (first | exact (0 : Nat) | ((repeat' (first | exact SubD.nil | (refine SubD.cons rfl rfl ?_))); done) | exact seZ)))
        conv => whnf
        intro zz
        conv => whnf
        try dsimp only
        repeat' (first
 | with_reducible ((first | refine r_seq (fun KS hS => ?_) | (refine hS _ _ ?_; clear hS KS) | (refine hA _ ?_; clear hA KA)))
 | ((with_reducible (first | refine r_region ?_ | refine r_cond (fun KA hA KB hB => ?_) | refine r_ret ?_ | refine And.intro rfl ?_)); conv => whnf)
 | (apply r_split 6 (id := 10); refine mixed; kernel_rfl; kernel_rfl; kernel_rfl; intro K' hK; conv => whnf)
 | (apply r_split 8 (id := 12); refine mixed; kernel_rfl; kernel_rfl; kernel_rfl; intro K' hK; conv => whnf)
 | ((with_reducible refine CallK.id ?_); (first | refine CallK.s1V rmG (fun ms w hk => htk1107 _ w) ?_ | refine CallK.s1V rmG (fun ms w hk => hrm1108 _ w) ?_); conv => whnf)
 | ((with_reducible refine CallK.at 46 ?_); refine CallK.pu (fun w => refuse1046 w) ?_; conv => whnf)
 | ((with_reducible ((first | refine InAt.mk (fun K' hK => ?_) | refine AnyAt.mk (fun K' hK => ?_) | (refine hK _ ?_; clear hK K') | (refine hK _ _ ?_; clear hK K')))); conv => whnf)
 | with_reducible apply_assumption -symm -exfalso)
        all_goals exact FinK.frL (by rw [hres]; rfl) (by rw [hres]; exact HSub.trans (HSub.app2 (A' := [.ext 12 (OrchA d { o with moves := o.moves.modify j (fun m => { m with st := 3, data := OM.eps }), parts := OM.moveP o.parts m.r m.to })]) (or_id (i := 0) (j := 1) (k := 2) (l := 3) (d := d) (s := { o with moves := o.moves.modify j (fun m => { m with st := 3, data := OM.eps }), parts := OM.moveP o.parts m.r m.to }) (t1 := t1) (t2 := t2) (t3 := t3)) (HSub.refl [.ext 9 (GlA o0 o1)])) seG)
      · rw [if_neg h2m] at hfst
        have e1 : c.item.move = (j : Nat) + 1 := by rw [hfst]; exact Int.add_comm _ _
        have e2 : c.item.in_ = false := by rw [hfst]
        have e2' : (!c.item.in_) = true := by rw [e2]; rfl
        have e3 : (c.item.move - 1).toNat = j := by omega
        have hres : o.doResult c = ({ o with moves := o.moves.modify j fun m => { m with st := 2, data := c.data } }, ⟨0, 0⟩) := by
          unfold OM.St.doResult OM.setM
          rw [if_neg hsome, if_neg (by omega), if_pos e2, e3]
        have hgv1106 := fun t w => given1106 (t := t) (d := c.data) h1 (by omega) hd hml w
        rw [← e1] at hgv1106
        clear hfst
        refine enter_fr TBok (H := [.ext 12 (OrchA d o), .ext 9 (GlA o0 o1)]) all_foot Tryz.func52 rfl rfl Tryz.ntmps52 [.loc d 0 0, .agg (cmV c a n cap)] rfl rfl ?_
        intro S
        conv => whnf
        repeat' (first
 | with_reducible refine r_stop 8 ?_
 | with_reducible ((first | refine r_seq (fun KS hS => ?_) | (refine hS _ _ ?_; clear hS KS) | (refine hA _ ?_; clear hA KA) | (refine hB _ ?_; clear hB KB)))
 | ((with_reducible (first | refine r_region ?_ | refine r_cond (fun KA hA KB hB => ?_) | refine r_skip ?_ | refine And.intro rfl ?_ | intro b)); conv => whnf)
 | (refine if_t e2' ?_; conv => whnf)
 | ((with_reducible refine CallK.id ?_); refine CallK.s2V rmG rmG (fun ms w hk => hcm1017 w) ?_; conv => whnf)
 | ((first | refine if_decT (by omega) ?_ | refine if_decF (by omega) ?_ | refine if_ndecF (by omega) ?_); conv => whnf)
 | with_reducible apply_assumption -symm -exfalso)
        refine StopR.mk ?_
        refine Run.ex (A := orH d o) (i := 12) rmG ?_
        rintro ⟨t1, t2, t3⟩
        dsimp only [orH, layF]
        repeat' (first
 | with_reducible ((first | refine r_seq (fun KS hS => ?_) | (refine hS _ _ ?_; clear hS KS)))
 | ((with_reducible (first | refine r_ret ?_ | refine And.intro rfl ?_)); conv => whnf)
 | (apply r_split 8 (id := 8); refine mixed; kernel_rfl; kernel_rfl; kernel_rfl; intro K' hK; conv => whnf)
 | ((with_reducible refine CallK.id ?_); refine CallK.s1V rmG (fun ms w hk => hgv1106 _ w) ?_; conv => whnf)
 | ((with_reducible refine CallK.at 46 ?_); refine CallK.pu (fun w => refuse1046 w) ?_; conv => whnf)
 | ((with_reducible ((first | refine AnyAt.mk (fun K' hK => ?_) | (refine hK _ ?_; clear hK K') | (refine hK _ _ ?_; clear hK K')))); conv => whnf))
        all_goals exact FinK.frL (by rw [hres]; rfl) (by rw [hres]; exact HSub.trans (HSub.app2 (A' := [.ext 12 (OrchA d { o with moves := o.moves.modify j fun m => { m with st := 2, data := c.data } })]) (or_id (i := 0) (j := 1) (k := 2) (l := 3) (d := d) (s := { o with moves := o.moves.modify j fun m => { m with st := 2, data := c.data } }) (t1 := t1) (t2 := t2) (t3 := t3)) (HSub.refl [.ext 9 (GlA o0 o1)])) seG)
section
variable {c : Cx}
theorem CallQ.puS {g : FuncId} {l : List SV} {H : List Blk} {k : SV → Prop} (s : SV) (h : ∀ w, Pu c.P g (denL l).toArray w (den s)) (hn : k s) : CallQ c g l H k :=
  ⟨s, fun ms w hk => CT.mono (h w) fun e w' ⟨he, hb⟩ => ⟨he, Kn.below hk hb⟩, hn⟩
theorem CallK.puS {g : FuncId} {l : List SV} {H : List Blk} {nx : K1} (s : SV) (h : ∀ w, Pu c.P g (denL l).toArray w (den s)) (hn : nx s H) : CallK c g l H nx :=
  CallK.pure s (fun _ w _ => h w) hn
end
theorem acc227 {b off : Nat} (w : World) : Pu Tryz.prog 223 #[.pointer (some ⟨b, off, none⟩)] w (.pointer (some ⟨b, off + 1, none⟩)) := by
  refine enter_sound TBok Tryz.func223 rfl rfl Tryz.ntmps223 [.loc b 0 off] (Kn.start w noS) rfl rfl ?_
  conv => whnf
  repeat' (first
 | with_reducible ((first | refine r_seq (fun KS hS => ?_) | (refine hS _ _ ?_; clear hS KS)))
 | ((with_reducible (first | refine r_region ?_ | refine r_ret ?_)); conv => whnf))
  exact FinK.pu rfl
theorem aq227 {n : Nat} {W : World} {S : Nat → Prop} {r : Option Nat} {b i off : Nat} {H : List Blk} {k : SV → Prop} (h : k (.loc b i (off + 1))) : CallQ ⟨Tryz.prog, TB, n, W, S, r, TBok⟩ 223 [.loc b i off] H k :=
  CallQ.puS (.loc b i (off + 1)) (fun w => acc227 w) h
theorem ak227 {n : Nat} {W : World} {S : Nat → Prop} {r : Option Nat} {b i off : Nat} {H : List Blk} {nx : K1} (h : nx (.loc b i (off + 1)) H) : CallK ⟨Tryz.prog, TB, n, W, S, r, TBok⟩ 223 [.loc b i off] H nx :=
  CallK.puS (.loc b i (off + 1)) (fun w => acc227 w) h
theorem acc239 {b off : Nat} (w : World) : Pu Tryz.prog 237 #[.pointer (some ⟨b, off, none⟩)] w (.pointer (some ⟨b, off + 2, none⟩)) := by
  refine enter_sound TBok Tryz.func237 rfl rfl Tryz.ntmps237 [.loc b 0 off] (Kn.start w noS) rfl rfl ?_
  conv => whnf
  repeat' (first
 | with_reducible ((first | refine r_seq (fun KS hS => ?_) | (refine hS _ _ ?_; clear hS KS)))
 | ((with_reducible (first | refine r_region ?_ | refine r_ret ?_)); conv => whnf))
  exact FinK.pu rfl
theorem aq239 {n : Nat} {W : World} {S : Nat → Prop} {r : Option Nat} {b i off : Nat} {H : List Blk} {k : SV → Prop} (h : k (.loc b i (off + 2))) : CallQ ⟨Tryz.prog, TB, n, W, S, r, TBok⟩ 237 [.loc b i off] H k :=
  CallQ.puS (.loc b i (off + 2)) (fun w => acc239 w) h
theorem ak239 {n : Nat} {W : World} {S : Nat → Prop} {r : Option Nat} {b i off : Nat} {H : List Blk} {nx : K1} (h : nx (.loc b i (off + 2)) H) : CallK ⟨Tryz.prog, TB, n, W, S, r, TBok⟩ 237 [.loc b i off] H nx :=
  CallK.puS (.loc b i (off + 2)) (fun w => acc239 w) h
theorem acc249 {b off : Nat} (w : World) : Pu Tryz.prog 247 #[.pointer (some ⟨b, off, none⟩)] w (.pointer (some ⟨b, off + 11, none⟩)) := by
  refine enter_sound TBok Tryz.func247 rfl rfl Tryz.ntmps247 [.loc b 0 off] (Kn.start w noS) rfl rfl ?_
  conv => whnf
  repeat' (first
 | with_reducible ((first | refine r_seq (fun KS hS => ?_) | (refine hS _ _ ?_; clear hS KS)))
 | ((with_reducible (first | refine r_region ?_ | refine r_ret ?_)); conv => whnf))
  exact FinK.pu rfl
theorem aq249 {n : Nat} {W : World} {S : Nat → Prop} {r : Option Nat} {b i off : Nat} {H : List Blk} {k : SV → Prop} (h : k (.loc b i (off + 11))) : CallQ ⟨Tryz.prog, TB, n, W, S, r, TBok⟩ 247 [.loc b i off] H k :=
  CallQ.puS (.loc b i (off + 11)) (fun w => acc249 w) h
theorem ak249 {n : Nat} {W : World} {S : Nat → Prop} {r : Option Nat} {b i off : Nat} {H : List Blk} {nx : K1} (h : nx (.loc b i (off + 11)) H) : CallK ⟨Tryz.prog, TB, n, W, S, r, TBok⟩ 247 [.loc b i off] H nx :=
  CallK.puS (.loc b i (off + 11)) (fun w => acc249 w) h
theorem acc236 {b off : Nat} (w : World) : Pu Tryz.prog 233 #[.pointer (some ⟨b, off, none⟩)] w (.pointer (some ⟨b, off + 23, none⟩)) := by
  refine enter_sound TBok Tryz.func233 rfl rfl Tryz.ntmps233 [.loc b 0 off] (Kn.start w noS) rfl rfl ?_
  conv => whnf
  repeat' (first
 | with_reducible ((first | refine r_seq (fun KS hS => ?_) | (refine hS _ _ ?_; clear hS KS)))
 | ((with_reducible (first | refine r_region ?_ | refine r_ret ?_)); conv => whnf))
  exact FinK.pu rfl
theorem aq236 {n : Nat} {W : World} {S : Nat → Prop} {r : Option Nat} {b i off : Nat} {H : List Blk} {k : SV → Prop} (h : k (.loc b i (off + 23))) : CallQ ⟨Tryz.prog, TB, n, W, S, r, TBok⟩ 233 [.loc b i off] H k :=
  CallQ.puS (.loc b i (off + 23)) (fun w => acc236 w) h
theorem ak236 {n : Nat} {W : World} {S : Nat → Prop} {r : Option Nat} {b i off : Nat} {H : List Blk} {nx : K1} (h : nx (.loc b i (off + 23)) H) : CallK ⟨Tryz.prog, TB, n, W, S, r, TBok⟩ 233 [.loc b i off] H nx :=
  CallK.puS (.loc b i (off + 23)) (fun w => acc236 w) h
end Go.Proofs.YtjkmpaggfbghiaaGreatDoor
namespace Go.Proofs.YtjkmpaggfbghiaaGreatDoor
open Go Go.X
theorem in103 : InSt 109 Tryz.f109 58 := InSt.mk' Tryz.func109 rfl Tryz.ntmps109
theorem in148 : InSt 165 Tryz.f165 2 := InSt.mk' Tryz.func165 rfl Tryz.ntmps165
theorem in149 : InSt 166 Tryz.f166 2 := InSt.mk' Tryz.func166 rfl Tryz.ntmps166
theorem in216 : InSt 211 Tryz.f211 13 := InSt.mk' Tryz.func211 rfl Tryz.ntmps211
theorem in226 : InSt 222 Tryz.f222 13 := InSt.mk' Tryz.func222 rfl Tryz.ntmps222
theorem in288 : InSt 276 Tryz.f276 12 := InSt.mk' Tryz.func276 rfl Tryz.ntmps276
theorem in297 : InSt 287 Tryz.f287 14 := InSt.mk' Tryz.func287 rfl Tryz.ntmps287
theorem in229 : InSt 225 Tryz.f225 9 := InSt.mk' Tryz.func225 rfl Tryz.ntmps225
theorem in292 : InSt 280 Tryz.f280 7 := InSt.mk' Tryz.func280 rfl Tryz.ntmps280
theorem in302 : InSt 292 Tryz.f292 7 := InSt.mk' Tryz.func292 rfl Tryz.ntmps292
theorem in235 : InSt 232 Tryz.f232 6 := InSt.mk' Tryz.func232 rfl Tryz.ntmps232
theorem in29 : InSt 110 Tryz.f110 93 := InSt.mk' Tryz.func110 rfl Tryz.ntmps110
theorem in66 : InSt 172 Tryz.f172 31 := InSt.mk' Tryz.func172 rfl Tryz.ntmps172
theorem in112 : InSt 260 Tryz.f260 26 := InSt.mk' Tryz.func260 rfl Tryz.ntmps260
theorem in250 : InSt 248 Tryz.f248 9 := InSt.mk' Tryz.func248 rfl Tryz.ntmps248
theorem within298 {a lo hi : Int} (h : lo ≤ a ∧ a ≤ hi) (w : World) : Pu Tryz.prog 288 #[.int .i64 a, .int .i64 lo, .int .i64 hi] w (.bool true) := by
  refine enter_sound TBok Tryz.func288 rfl rfl Tryz.ntmps288 [.v (.int .i64 a), .v (.int .i64 lo), .v (.int .i64 hi)] (Kn.start w noS) rfl rfl ?_
  conv => whnf
  repeat' (first
 | with_reducible ((first | refine r_seq (fun KS hS => ?_) | (refine hS _ _ ?_; clear hS KS)))
 | ((with_reducible (first | refine r_region ?_ | refine r_ret ?_)); conv => whnf)
 | (refine if_decT (by omega) ?_; conv => whnf))
  refine FinK.pu ?_
  simp [den]; omega
theorem data237 {s : ByteArray} (h : s.size ≤ 65536) (w : World) : Pu Tryz.prog 234 #[.string s] w (.bool true) := by
  refine enter_sound TBok Tryz.func234 rfl rfl Tryz.ntmps234 [.v (.string s)] (Kn.start w noS) rfl rfl ?_
  conv => whnf
  repeat' (first
 | with_reducible ((first | refine r_seq (fun KS hS => ?_) | (refine hS _ _ ?_; clear hS KS)))
 | ((with_reducible (first | refine r_region ?_ | refine r_ret ?_)); conv => whnf))
  refine FinK.pu ?_
  simp [den]; omega
theorem in1163 : InSt 163 Tryz.f163 2 := InSt.mk' Tryz.func163 rfl Tryz.ntmps163
theorem in1167 : InSt 167 Tryz.f167 2 := InSt.mk' Tryz.func167 rfl Tryz.ntmps167
theorem in1168 : InSt 168 Tryz.f168 2 := InSt.mk' Tryz.func168 rfl Tryz.ntmps168
theorem in1169 : InSt 169 Tryz.f169 2 := InSt.mk' Tryz.func169 rfl Tryz.ntmps169
theorem in1170 : InSt 170 Tryz.f170 2 := InSt.mk' Tryz.func170 rfl Tryz.ntmps170
theorem in1171 : InSt 171 Tryz.f171 2 := InSt.mk' Tryz.func171 rfl Tryz.ntmps171
theorem in1238 : InSt 238 Tryz.f238 9 := InSt.mk' Tryz.func238 rfl Tryz.ntmps238
theorem in1246 : InSt 246 Tryz.f246 6 := InSt.mk' Tryz.func246 rfl Tryz.ntmps246
theorem in1254 : InSt 254 Tryz.f254 6 := InSt.mk' Tryz.func254 rfl Tryz.ntmps254
theorem in1255 : InSt 255 Tryz.f255 15 := InSt.mk' Tryz.func255 rfl Tryz.ntmps255
theorem in1259 : InSt 259 Tryz.f259 5 := InSt.mk' Tryz.func259 rfl Tryz.ntmps259
theorem ckNoop1053  (w : World) : Pu Tryz.prog 53 #[.agg #[.int .i64 0, .int .i64 0, .int .i64 0, .int .i64 0, .int .i64 0, .int .i64 0, .string ⟨#[]⟩, .int .i64 0, .int .i64 0, .string ⟨#[]⟩, .string ⟨#[]⟩, .int .i64 0, .string ⟨#[]⟩, .int .i64 0, .int .i64 0, .slice none 0 0, .int .i64 0, .int .i64 0, .int .i64 0, .int .i64 0, .bool false, .int .i64 0, .int .i64 0, .string ⟨#[]⟩]] w (.int .i64 0) := by
  refine enter_sound TBok Tryz.func53 rfl rfl Tryz.ntmps53 [.agg [.v (.int .i64 0), .v (.int .i64 0), .v (.int .i64 0), .v (.int .i64 0), .v (.int .i64 0), .v (.int .i64 0), .v (.string ⟨#[]⟩), .v (.int .i64 0), .v (.int .i64 0), .v (.string ⟨#[]⟩), .v (.string ⟨#[]⟩), .v (.int .i64 0), .v (.string ⟨#[]⟩), .v (.int .i64 0), .v (.int .i64 0), .v (.slice none 0 0), .v (.int .i64 0), .v (.int .i64 0), .v (.int .i64 0), .v (.int .i64 0), .v (.bool false), .v (.int .i64 0), .v (.int .i64 0), .v (.string ⟨#[]⟩)]] (Kn.start w noS) rfl rfl ?_
  conv => whnf
  repeat' (first
 | with_reducible ((first | refine r_seq (fun KS hS => ?_) | (refine hS _ _ ?_; clear hS KS) | (refine hA _ ?_; clear hA KA) | (refine hB _ ?_; clear hB KB) | refine r_block ?_))
 | ((with_reducible (first | refine r_region ?_ | refine r_cond (fun KA hA KB hB => ?_) | refine r_ret ?_ | refine r_skip ?_ | refine r_exit ?_ | refine And.intro rfl ?_ | intro b)); conv => whnf)
 | ((with_reducible refine CallK.id ?_); (first | apply in103 | apply in29 | apply in66 | apply in112); rfl; rfl; rfl; intro A; conv => whnf)
 | ((with_reducible apply OpK.more); (focus refine sok); (conv => whnf); fail_if_success guard_target =ₛ False)
 | with_reducible (first | refine Rounds.step (fun KL hL => ?_) | refine r_rounds 100 ?_)
 | with_reducible apply_assumption -symm -exfalso)
  all_goals exact FinK.pu rfl
theorem ckAskA1053 {c : OM.Cmd} (hc : 0 ≤ c.call ∧ c.call ≤ 2147483648) (hs : 1 ≤ c.saga ∧ c.saga ≤ 9999) (w : World) : Pu Tryz.prog 53 #[.agg #[.int .i64 12, .int .i64 c.call, .int .i64 c.saga, .int .i64 0, .int .i64 0, .int .i64 0, .string ⟨#[]⟩, .int .i64 0, .int .i64 0, .string ⟨#[]⟩, .string ⟨#[]⟩, .int .i64 0, .string ⟨#[]⟩, .int .i64 0, .int .i64 0, .slice none 0 0, .int .i64 0, .int .i64 0, .int .i64 0, .int .i64 0, .bool false, .int .i64 0, .int .i64 0, .string ⟨#[]⟩]] w (.int .i64 0) := by
  refine enter_sound TBok Tryz.func53 rfl rfl Tryz.ntmps53 [.agg [.v (.int .i64 12), .v (.int .i64 c.call), .v (.int .i64 c.saga), .v (.int .i64 0), .v (.int .i64 0), .v (.int .i64 0), .v (.string ⟨#[]⟩), .v (.int .i64 0), .v (.int .i64 0), .v (.string ⟨#[]⟩), .v (.string ⟨#[]⟩), .v (.int .i64 0), .v (.string ⟨#[]⟩), .v (.int .i64 0), .v (.int .i64 0), .v (.slice none 0 0), .v (.int .i64 0), .v (.int .i64 0), .v (.int .i64 0), .v (.int .i64 0), .v (.bool false), .v (.int .i64 0), .v (.int .i64 0), .v (.string ⟨#[]⟩)]] (Kn.start w noS) rfl rfl ?_
  conv => whnf
  repeat' (first
 | with_reducible ((first | refine r_seq (fun KS hS => ?_) | (refine hS _ _ ?_; clear hS KS) | (refine hA _ ?_; clear hA KA) | (refine hB _ ?_; clear hB KB) | refine r_block ?_))
 | ((with_reducible (first | refine r_region ?_ | refine r_cond (fun KA hA KB hB => ?_) | refine r_ret ?_ | refine r_skip ?_ | refine r_exit ?_ | refine And.intro rfl ?_ | intro b)); conv => whnf)
 | ((with_reducible refine WrapK.i64 ?_ ?_); (focus omega); conv => whnf)
 | ((with_reducible refine CallK.id ?_); (first | apply in103 | apply in226 | apply in297 | apply in302 | apply in29 | apply in66 | apply in112 | apply in1163 | apply in1167); rfl; rfl; rfl; intro A; conv => whnf)
 | (refine aq227 ?_; conv => whnf)
 | (refine ak227 ?_; conv => whnf)
 | (refine aq239 ?_; conv => whnf)
 | (refine ak239 ?_; conv => whnf)
 | ((with_reducible refine CallQ.at 288 ?_); (first | refine CallQ.pu (fun w => within298 hc w) ?_ | refine CallQ.pu (fun w => within298 hs w) ?_); conv => whnf)
 | ((with_reducible apply OpK.more); (focus refine sok); (conv => whnf); fail_if_success guard_target =ₛ False)
 | with_reducible (first | refine Rounds.step (fun KL hL => ?_) | refine r_rounds 100 ?_)
 | (apply r_quiet; refine mixed; kernel_rfl; kernel_rfl; kernel_rfl; conv => whnf)
 | with_reducible apply_assumption -symm -exfalso)
  all_goals exact FinK.pu rfl
theorem ckAskB1053 {c : OM.Cmd} (hc : 0 ≤ c.call ∧ c.call ≤ 2147483648) (hs : 1 ≤ c.saga ∧ c.saga ≤ 9999) (w : World) : Pu Tryz.prog 53 #[.agg #[.int .i64 13, .int .i64 c.call, .int .i64 c.saga, .int .i64 0, .int .i64 0, .int .i64 0, .string ⟨#[]⟩, .int .i64 0, .int .i64 0, .string ⟨#[]⟩, .string ⟨#[]⟩, .int .i64 0, .string ⟨#[]⟩, .int .i64 0, .int .i64 0, .slice none 0 0, .int .i64 0, .int .i64 0, .int .i64 0, .int .i64 0, .bool false, .int .i64 0, .int .i64 0, .string ⟨#[]⟩]] w (.int .i64 0) := by
  refine enter_sound TBok Tryz.func53 rfl rfl Tryz.ntmps53 [.agg [.v (.int .i64 13), .v (.int .i64 c.call), .v (.int .i64 c.saga), .v (.int .i64 0), .v (.int .i64 0), .v (.int .i64 0), .v (.string ⟨#[]⟩), .v (.int .i64 0), .v (.int .i64 0), .v (.string ⟨#[]⟩), .v (.string ⟨#[]⟩), .v (.int .i64 0), .v (.string ⟨#[]⟩), .v (.int .i64 0), .v (.int .i64 0), .v (.slice none 0 0), .v (.int .i64 0), .v (.int .i64 0), .v (.int .i64 0), .v (.int .i64 0), .v (.bool false), .v (.int .i64 0), .v (.int .i64 0), .v (.string ⟨#[]⟩)]] (Kn.start w noS) rfl rfl ?_
  conv => whnf
  repeat' (first
 | with_reducible ((first | refine r_seq (fun KS hS => ?_) | (refine hS _ _ ?_; clear hS KS) | (refine hA _ ?_; clear hA KA) | (refine hB _ ?_; clear hB KB) | refine r_block ?_))
 | ((with_reducible (first | refine r_region ?_ | refine r_cond (fun KA hA KB hB => ?_) | refine r_ret ?_ | refine r_skip ?_ | refine r_exit ?_ | refine And.intro rfl ?_ | intro b)); conv => whnf)
 | ((with_reducible refine WrapK.i64 ?_ ?_); (focus omega); conv => whnf)
 | ((with_reducible refine CallK.id ?_); (first | apply in103 | apply in226 | apply in297 | apply in302 | apply in29 | apply in66 | apply in112 | apply in1163 | apply in1167); rfl; rfl; rfl; intro A; conv => whnf)
 | (refine aq227 ?_; conv => whnf)
 | (refine ak227 ?_; conv => whnf)
 | (refine aq239 ?_; conv => whnf)
 | (refine ak239 ?_; conv => whnf)
 | ((with_reducible refine CallQ.at 288 ?_); (first | refine CallQ.pu (fun w => within298 hc w) ?_ | refine CallQ.pu (fun w => within298 hs w) ?_); conv => whnf)
 | ((with_reducible apply OpK.more); (focus refine sok); (conv => whnf); fail_if_success guard_target =ₛ False)
 | with_reducible (first | refine Rounds.step (fun KL hL => ?_) | refine r_rounds 100 ?_)
 | (apply r_quiet; refine mixed; kernel_rfl; kernel_rfl; kernel_rfl; conv => whnf)
 | with_reducible apply_assumption -symm -exfalso)
  all_goals exact FinK.pu rfl
theorem ckMove1053 {c : OM.Cmd} (hc : 0 ≤ c.call ∧ c.call ≤ 2147483648) (hr : c.r.ok = true) (hg : 1 ≤ c.group ∧ c.group ≤ 7) (w : World) : Pu Tryz.prog 53 #[.agg #[.int .i64 14, .int .i64 c.call, .int .i64 0, .int .i64 0, .int .i64 0, .int .i64 0, .string ⟨#[]⟩, .int .i64 0, .int .i64 0, .string c.r.lo, .string c.r.hi, .int .i64 c.group, .string ⟨#[]⟩, .int .i64 0, .int .i64 0, .slice none 0 0, .int .i64 0, .int .i64 0, .int .i64 0, .int .i64 0, .bool false, .int .i64 0, .int .i64 0, .string ⟨#[]⟩]] w (.int .i64 0) := by
  have hck1115 : ∀ w, Pu Tryz.prog 115 #[.agg #[.string c.r.lo, .string c.r.hi]] w (.int .i64 0) := fun w => chk1115 (rsz hr) (by rw [if_pos hr]) w
  refine enter_sound TBok Tryz.func53 rfl rfl Tryz.ntmps53 [.agg [.v (.int .i64 14), .v (.int .i64 c.call), .v (.int .i64 0), .v (.int .i64 0), .v (.int .i64 0), .v (.int .i64 0), .v (.string ⟨#[]⟩), .v (.int .i64 0), .v (.int .i64 0), .v (.string c.r.lo), .v (.string c.r.hi), .v (.int .i64 c.group), .v (.string ⟨#[]⟩), .v (.int .i64 0), .v (.int .i64 0), .v (.slice none 0 0), .v (.int .i64 0), .v (.int .i64 0), .v (.int .i64 0), .v (.int .i64 0), .v (.bool false), .v (.int .i64 0), .v (.int .i64 0), .v (.string ⟨#[]⟩)]] (Kn.start w noS) rfl rfl ?_
  conv => whnf
  repeat' (first
 | with_reducible ((first | refine r_seq (fun KS hS => ?_) | (refine hS _ _ ?_; clear hS KS) | (refine hA _ ?_; clear hA KA) | (refine hB _ ?_; clear hB KB) | refine r_block ?_))
 | ((with_reducible (first | refine r_region ?_ | refine r_cond (fun KA hA KB hB => ?_) | refine r_ret ?_ | refine r_skip ?_ | refine r_exit ?_ | refine And.intro rfl ?_ | intro b)); conv => whnf)
 | ((with_reducible refine WrapK.i64 ?_ ?_); (focus omega); conv => whnf)
 | ((with_reducible refine CallK.id ?_); (first | apply in103 | apply in148 | apply in226 | apply in297 | apply in229 | apply in302 | apply in235 | apply in29 | apply in66 | apply in112 | apply in1163 | apply in1169); rfl; rfl; rfl; intro A; conv => whnf)
 | (refine aq227 ?_; conv => whnf)
 | (refine ak227 ?_; conv => whnf)
 | (refine aq249 ?_; conv => whnf)
 | (refine ak249 ?_; conv => whnf)
 | ((with_reducible refine CallQ.at 288 ?_); (first | refine CallQ.pu (fun w => within298 hc w) ?_ | refine CallQ.pu (fun w => within298 hg w) ?_); conv => whnf)
 | ((with_reducible refine CallK.at 115 ?_); refine CallK.pu (fun w => hck1115 w) ?_; conv => whnf)
 | ((with_reducible apply OpK.more); (focus refine sok); (conv => whnf); fail_if_success guard_target =ₛ False)
 | with_reducible (first | refine Rounds.step (fun KL hL => ?_) | refine r_rounds 100 ?_)
 | (apply r_quiet; refine mixed; kernel_rfl; kernel_rfl; kernel_rfl; conv => whnf)
 | with_reducible apply_assumption -symm -exfalso)
  all_goals exact FinK.pu rfl
theorem ckStart1053 {c : OM.Cmd} {a : Option Addr} {cap : Nat} {w : World} (hc : 0 ≤ c.call ∧ c.call ≤ 2147483648) (hs : 1 ≤ c.saga ∧ c.saga ≤ 9999) (hd : c.d.ok = true) (hr : RdS w 80 2 a c.d.steps.length cap (stepCells c.d.steps)) : Pu Tryz.prog 53 #[.agg #[.int .i64 11, .int .i64 c.call, .int .i64 c.saga, .int .i64 0, .int .i64 0, .int .i64 0, .string ⟨#[]⟩, .int .i64 0, .int .i64 0, .string ⟨#[]⟩, .string ⟨#[]⟩, .int .i64 0, .string c.d.name, .int .i64 c.d.retries, .int .i64 c.d.deadline, .slice a c.d.steps.length cap, .int .i64 0, .int .i64 0, .int .i64 0, .int .i64 0, .bool false, .int .i64 0, .int .i64 0, .string ⟨#[]⟩]] w (.int .i64 0) := by
  have sa := fun n' r H => Sees.old (c := ⟨Tryz.prog, TB, n', w, noS, r, TBok⟩) (H := H) hr.old
  refine enter_sound TBok Tryz.func53 rfl rfl Tryz.ntmps53 [.agg [.v (.int .i64 11), .v (.int .i64 c.call), .v (.int .i64 c.saga), .v (.int .i64 0), .v (.int .i64 0), .v (.int .i64 0), .v (.string ⟨#[]⟩), .v (.int .i64 0), .v (.int .i64 0), .v (.string ⟨#[]⟩), .v (.string ⟨#[]⟩), .v (.int .i64 0), .v (.string c.d.name), .v (.int .i64 c.d.retries), .v (.int .i64 c.d.deadline), .v (.slice a c.d.steps.length cap), .v (.int .i64 0), .v (.int .i64 0), .v (.int .i64 0), .v (.int .i64 0), .v (.bool false), .v (.int .i64 0), .v (.int .i64 0), .v (.string ⟨#[]⟩)]] (Kn.start w noS) rfl rfl ?_
  conv => whnf
  repeat' (first
 | with_reducible ((first | refine r_seq (fun KS hS => ?_) | (refine hS _ _ ?_; clear hS KS) | (refine hA _ ?_; clear hA KA) | (refine hB _ ?_; clear hB KB) | refine r_block ?_))
 | ((with_reducible (first | refine r_region ?_ | refine r_cond (fun KA hA KB hB => ?_) | refine r_ret ?_ | refine r_skip ?_ | refine r_exit ?_ | refine And.intro rfl ?_ | intro b)); conv => whnf)
 | ((with_reducible refine WrapK.i64 ?_ ?_); (focus omega); conv => whnf)
 | ((with_reducible refine CallK.id ?_); (first | apply in103 | apply in226 | apply in297 | apply in302 | apply in29 | apply in66 | apply in112 | apply in1163 | apply in1167 | apply in1168 | apply in1238 | apply in1246); rfl; rfl; rfl; intro A; conv => whnf)
 | (refine aq227 ?_; conv => whnf)
 | (refine ak227 ?_; conv => whnf)
 | (refine aq239 ?_; conv => whnf)
 | (refine ak239 ?_; conv => whnf)
 | ((with_reducible refine CallQ.at 288 ?_); (first | refine CallQ.pu (fun w => within298 hc w) ?_ | refine CallQ.pu (fun w => within298 hs w) ?_); conv => whnf)
 | ((with_reducible refine CallK.at 127 ?_); refine CallK.puW (fun ms w hk => defn1127 hd (Sees.rd (sa _ _ _) hk)) ?_; conv => whnf)
 | ((with_reducible apply OpK.more); (focus refine sok); (conv => whnf); fail_if_success guard_target =ₛ False)
 | with_reducible (first | refine Rounds.step (fun KL hL => ?_) | refine r_rounds 100 ?_)
 | (apply r_quiet; refine mixed; kernel_rfl; kernel_rfl; kernel_rfl; conv => whnf)
 | with_reducible apply_assumption -symm -exfalso)
  all_goals exact FinK.pu rfl
theorem itemOkP1069 {x : OM.Item} (h : x.ok = true) (w : World) : Pu Tryz.prog 69 #[.agg #[.int .i64 x.eff.saga, .int .i64 x.eff.step, .int .i64 x.eff.phase, .int .i64 x.move, .bool x.in_, .int .i64 x.group]] w (.int .i64 0) := by
  refine itemOk50 ?_ w
  obtain ⟨h1, h2, h3⟩ := omi_ok h
  refine ⟨h1, h2, ?_⟩
  rcases h3 with ⟨a, b, c⟩ | ⟨a, b, c⟩
  · exact .inl ⟨a, b, c⟩
  · rw [c]; exact .inr ⟨a, b, rfl, rfl, rfl⟩
theorem ckResult1053 {c : OM.Cmd} (hi : c.item.ok = true) (hr : 0 ≤ c.res ∧ c.res ≤ 18) (hd : c.data.size ≤ 65536) (w : World) : Pu Tryz.prog 53 #[.agg #[.int .i64 15, .int .i64 0, .int .i64 0, .int .i64 0, .int .i64 0, .int .i64 0, .string ⟨#[]⟩, .int .i64 0, .int .i64 0, .string ⟨#[]⟩, .string ⟨#[]⟩, .int .i64 0, .string ⟨#[]⟩, .int .i64 0, .int .i64 0, .slice none 0 0, .int .i64 c.item.eff.saga, .int .i64 c.item.eff.step, .int .i64 c.item.eff.phase, .int .i64 c.item.move, .bool c.item.in_, .int .i64 c.item.group, .int .i64 c.res, .string c.data]] w (.int .i64 0) := by
  refine enter_sound TBok Tryz.func53 rfl rfl Tryz.ntmps53 [.agg [.v (.int .i64 15), .v (.int .i64 0), .v (.int .i64 0), .v (.int .i64 0), .v (.int .i64 0), .v (.int .i64 0), .v (.string ⟨#[]⟩), .v (.int .i64 0), .v (.int .i64 0), .v (.string ⟨#[]⟩), .v (.string ⟨#[]⟩), .v (.int .i64 0), .v (.string ⟨#[]⟩), .v (.int .i64 0), .v (.int .i64 0), .v (.slice none 0 0), .v (.int .i64 c.item.eff.saga), .v (.int .i64 c.item.eff.step), .v (.int .i64 c.item.eff.phase), .v (.int .i64 c.item.move), .v (.bool c.item.in_), .v (.int .i64 c.item.group), .v (.int .i64 c.res), .v (.string c.data)]] (Kn.start w noS) rfl rfl ?_
  conv => whnf
  repeat' (first
 | with_reducible ((first | refine r_seq (fun KS hS => ?_) | (refine hS _ _ ?_; clear hS KS) | (refine hA _ ?_; clear hA KA) | (refine hB _ ?_; clear hB KB) | refine r_block ?_))
 | ((with_reducible (first | refine r_region ?_ | refine r_cond (fun KA hA KB hB => ?_) | refine r_ret ?_ | refine r_skip ?_ | refine r_exit ?_ | refine And.intro rfl ?_ | intro b)); conv => whnf)
 | ((with_reducible refine WrapK.i64 ?_ ?_); (focus omega); conv => whnf)
 | ((with_reducible refine CallK.id ?_); (first | apply in103 | apply in149 | apply in216 | apply in288 | apply in292 | apply in29 | apply in66 | apply in112 | apply in250 | apply in1170 | apply in1171 | apply in1254 | apply in1255 | apply in1259); rfl; rfl; rfl; intro A; conv => whnf)
 | (refine aq236 ?_; conv => whnf)
 | (refine ak236 ?_; conv => whnf)
 | ((with_reducible refine CallK.at 69 ?_); refine CallK.pu (fun w => itemOkP1069 hi w) ?_; conv => whnf)
 | ((with_reducible refine CallQ.at 234 ?_); refine CallQ.pu (fun w => data237 hd w) ?_; conv => whnf)
 | ((with_reducible apply OpK.more); (focus refine sok); (conv => whnf); fail_if_success guard_target =ₛ False)
 | with_reducible (first | refine Rounds.step (fun KL hL => ?_) | refine r_rounds 100 ?_)
 | (apply r_quiet; refine mixed; kernel_rfl; kernel_rfl; kernel_rfl; conv => whnf)
 | (refine if_decT (by omega) ?_; conv => whnf)
 | with_reducible apply_assumption -symm -exfalso)
  all_goals exact FinK.pu rfl
theorem bc1 {k : Nat} (h : k ≤ 255) : denL [.v (.int .u8 ((k : Nat) : Int))] = bcells [UInt8.ofNat k] := by
  have : (UInt8.ofNat k).toNat = k := by rw [UInt8.toNat_ofNat']; omega
  simp [bcells, bcell, denL, den, this]
theorem name1022 (n : Nat) (hn : n ≤ 1000000000) (w : World) : Pu Tryz.prog 22 #[.int .i64 (n : Nat)] w (.string (OM.nameB n)) := by
  have hb := Nat.mod_lt n (show 16 > 0 by decide)
  have hcs : denL [.v (.int .u8 ((97 + n % 16 : Nat) : Int))] = bcells [UInt8.ofNat (97 + n % 16)] := bc1 (by omega)
  refine enter_sound TBok Tryz.func22 rfl rfl Tryz.ntmps22 [.v (.int .i64 (n : Nat))] (Kn.start w noS) rfl rfl ?_
  conv => whnf
  repeat' (first
 | with_reducible ((first | refine r_seq (fun KS hS => ?_) | (refine hS _ _ ?_; clear hS KS)))
 | ((with_reducible (first | refine r_region ?_ | refine r_ret ?_ | intro b)); conv => whnf)
 | ((with_reducible refine RemK.id ?_); refine RemK.eq (by decide) (tm16 n) ?_; conv => whnf)
 | ((with_reducible refine WrapK.id ?_); refine WrapK.eq (IntWalk.u8_in _ (by omega)) ?_; conv => whnf)
 | ((with_reducible refine OpK.id ?_); refine OpK.cvBL rfl rfl rfl rfl rfl rfl rfl rfl lmG rfl hcs ?_; conv => whnf))
  all_goals exact FinK.pu rfl
theorem result1015 (x : OM.Item) (res : Int) (d : ByteArray) (w : World) : Pu Tryz.prog 15 #[.agg (denL (itV x)).toArray, .int .i64 res, .string d] w (.agg (denL (cmV (OM.resC x res d) none 0 0)).toArray) := by
  refine enter_sound TBok Tryz.func15 rfl rfl Tryz.ntmps15 [.agg (itV x), .v (.int .i64 res), .v (.string d)] (Kn.start w noS) rfl rfl ?_
  conv => whnf
  repeat' (first
 | with_reducible ((first | refine r_seq (fun KS hS => ?_) | (refine hS _ _ ?_; clear hS KS)))
 | ((with_reducible (first | refine r_region ?_ | refine r_ret ?_ | refine And.intro rfl ?_ | intro b)); conv => whnf))
  all_goals exact FinK.pu rfl
theorem _root_.Go.X.HSub.slc {i i' e k b len : Nat} {cs : List SV} (hl : cs.length = len * k) : HSub [.ext i' (SlA e k (some ⟨b, 0, none⟩) len len (denL cs))] [.blk i b cs e] :=
  HSub.one fun w S h => slc_SlA hl h
theorem tab_nil {t m : Nat} {i j q : Nat} : HSub [.ext q (TabA t [])] [.blk i t [.v (.map (some m))] 210, .ext j (MpK m fun _ => none)] :=
  HSub.trans (tab_id (i := i) (j := j) (k := 0) (m := m) (A := fun _ => (none, 0))) (HSub.keep rfl (HSub.trans (HSub.app2 (A := [.ext j (MpK m fun _ => none)]) (B := []) (A' := [.ext j (MpK m (sgF [] fun _ => (none, 0)))]) (B' := [.ext 0 (StA [] fun _ => (none, 0))]) (HSub.ext (fun _ _ h => h) HSub.nil) (HSub.close fun w S h => by show Holds w [] S; exact h)) (HSub.refl _)))
theorem snew1071 (w : World) : FrZ Tryz.prog 71 #[] w emp (fun t : Nat => pv t) (fun t => TabA t []) := by
  refine enter_frZ TBok (H := []) emp_foot Tryz.func71 rfl rfl Tryz.ntmps71 [] rfl rfl ?_
  intro S _ _
  conv => whnf
  repeat' (first
 | with_reducible ((first | refine r_seq (fun KS hS => ?_) | (refine hS _ _ ?_; clear hS KS)))
 | ((with_reducible (first | refine r_region ?_ | refine r_ret ?_ | intro b)); conv => whnf)
 | ((with_reducible refine OpK.id ?_); refine OpK.mkMK rfl ?_; conv => whnf))
  rename_i m
  exact FinK.frZ (i := 0) b rfl (HSub.trans (tab_nil (m := m) (i := 0) (j := 1)) seG)
theorem mnew1072 (w : World) : FrZ Tryz.prog 72 #[] w emp (fun t : Nat => pv t) (fun t => MvsA t []) := by
  refine enter_frZ TBok (H := []) emp_foot Tryz.func72 rfl rfl Tryz.ntmps72 [] rfl rfl ?_
  intro S _ _
  conv => whnf
  repeat' (first
 | with_reducible ((first | refine r_seq (fun KS hS => ?_) | (refine hS _ _ ?_; clear hS KS)))
 | ((with_reducible (first | refine r_region ?_ | refine r_ret ?_ | intro b)); conv => whnf))
  exact FinK.frZ (i := 0) b rfl (HSub.trans (mvs_id (a := none) (n := 0) (cap := 0) (i := 0) (j := 1) rfl) (HSub.keep rfl (HSub.addSl (HSub.none _))))
theorem rnew1070 (w : World) : FrZ Tryz.prog 70 #[.int .i64 1] w emp (fun t : Nat => .tuple #[pv t, .int .i64 0]) (fun t => PtsA t [⟨⟨OM.eps, OM.eps⟩, 1, 1⟩]) := by
  refine enter_frZ TBok (H := []) emp_foot Tryz.func70 rfl rfl Tryz.ntmps70 [.v (.int .i64 1)] rfl rfl ?_
  intro S _ _
  conv => whnf
  repeat' (first
 | with_reducible ((first | refine r_seq (fun KS hS => ?_) | (refine hS _ _ ?_; clear hS KS) | (refine hB _ ?_; clear hB KB)))
 | ((with_reducible (first | refine r_region ?_ | refine r_cond (fun KA hA KB hB => ?_) | refine r_ret ?_ | refine r_skip ?_ | refine And.intro rfl ?_ | intro b)); conv => whnf)
 | (apply in1131; rfl; rfl; rfl; intro A; conv => whnf)
 | with_reducible apply_assumption -symm -exfalso)
  rename_i b'
  have hk : HSub [.ext 0 (PtsA b [⟨⟨OM.eps, OM.eps⟩, 1, 1⟩])] [.blk 1 b [.slc b' 0 0 1 1] 202, .blk 0 b' [.v (.string ⟨#[]⟩), .v (.string ⟨#[]⟩), .v (.int .i64 1), .v (.int .i64 1)] 193] :=
    HSub.trans (pts_id (t := b) (l := [⟨⟨OM.eps, OM.eps⟩, 1, 1⟩]) (a := some ⟨b', 0, none⟩) (n := 1) (cap := 1) (i := 1) (j := 1) rfl) (HSub.keep rfl (HSub.slc (i := 0) (i' := 1) (e := 193) (k := 4) (b := b') (len := 1) (cs := [.v (.string ⟨#[]⟩), .v (.string ⟨#[]⟩), .v (.int .i64 1), .v (.int .i64 1)]) rfl))
  exact FinK.frZ (i := 0) b rfl (HSub.trans hk seG)
theorem new1030 {g : Int} (hg : 2 ≤ g ∧ g ≤ 8) (w : World) : FrZ Tryz.prog 30 #[.int .i64 g] w emp (fun d : Nat => .tuple #[pv d, .int .i64 0]) (fun d => OrchA d (OM.init g)) := by
  refine enter_frZ TBok (H := []) emp_foot Tryz.func30 rfl rfl Tryz.ntmps30 [.v (.int .i64 g)] rfl rfl ?_
  intro S _ _
  conv => whnf
  repeat' (first
 | with_reducible ((first | refine r_seq (fun KS hS => ?_) | (refine hS _ _ ?_; clear hS KS) | (refine hB _ ?_; clear hB KB)))
 | ((with_reducible (first | refine r_region ?_ | refine r_cond (fun KA hA KB hB => ?_) | refine r_ret ?_ | refine r_skip ?_ | intro b)); conv => whnf)
 | ((with_reducible refine CallK.id ?_); (first | refine CallK.fresh (fun ms w hk => rnew1070 w) ?_ | refine CallK.fresh (fun ms w hk => snew1071 w) ?_ | refine CallK.fresh (fun ms w hk => mnew1072 w) ?_); conv => whnf)
 | (refine if_decF (by omega) ?_; conv => whnf)
 | with_reducible apply_assumption -symm -exfalso)
  rename_i t3 t1 t2
  have hk : HSub [.ext 0 (OrchA b (OM.init g))] [.blk 3 b [.v (.int .i64 g), .v (.int .i64 0), .v (pv t1), .v (pv t2), .v (pv t3)] 121, .ext 1 (TabA t1 []), .ext 2 (MvsA t2 []), .ext 0 (PtsA t3 [⟨⟨OM.eps, OM.eps⟩, 1, 1⟩])] :=
    HSub.trans (or_id (d := b) (s := OM.init g) (t1 := t1) (t2 := t2) (t3 := t3) (i := 3) (j := 1) (k := 2) (l := 0)) (HSub.keep rfl (HSub.refl _))
  exact FinK.frZ (i := 0) b rfl (HSub.trans hk seG)
end Go.Proofs.YtjkmpaggfbghiaaGreatDoor
