/- Contracts and lemmas for the claim (part 11); no condition of its own. -/
import Derived.Test.YtjkmpaggfbghiaaGreatDoorYQC1010
import Derived.Test.YtjkmpaggfbghiaaGreatDoorYQC1006
import Derived.Test.YtjkmpaggfbghiaaGreatDoorYQC1008
import Derived.Test.YtjkmpaggfbghiaaGreatDoorYQC1004
import Derived.Ground.GgzProg
import Derived.Ground.SlgmProg
import Derived.Ground.SlsfProg
import Derived.Shelf.SlMaps.Clone
import Derived.Test.YtjkmpaggfbghiaaGreatDoorProg
set_option linter.all false
set_option maxRecDepth 100000
set_option maxHeartbeats 0
set_option linter.unusedVariables false
set_option linter.unusedSimpArgs false
set_option linter.unnecessarySimpa false
namespace Go.Proofs.YtjkmpaggfbghiaaGreatDoor
open Go Go.X
theorem mstart1104 {t : Nat} {l : List OM.Mv} {r : OM.Rg} {fr to : Int} (hl : l.length < 64) (hr : r.ok = true) (h1 : 1 ≤ fr ∧ fr ≤ 7) (h2 : 1 ≤ to ∧ to ≤ 7) (h3 : fr ≠ to) (hok : ∀ m ∈ l, m.r.ok = true) (hno : ∀ m ∈ l, m.st ≠ 3 → OM.meets m.r r = false) (w : World) :
    Fr Tryz.prog 104 #[pv t, .agg #[.string r.lo, .string r.hi], .int .i64 fr, .int .i64 to] w (AssL [.ext 12 (MvsA t l)]) (.tuple #[.int .i64 ((l.length : Int) + 1), .int .i64 0]) (AssL [.ext 12 (MvsA t (l ++ [⟨r, fr, to, 1, OM.eps⟩]))]) := by
  have hfm : (l ++ [(⟨r, fr, to, 1, OM.eps⟩ : OM.Mv)]).flatMap mvC = l.flatMap mvC ++ mvC ⟨r, fr, to, 1, OM.eps⟩ := by rw [List.flatMap_append]; simp
  have hc1115 : ∀ w, Pu Tryz.prog 115 #[.agg #[.string r.lo, .string r.hi]] w (.int .i64 0) := fun w => chk1115 (rsz hr) (by rw [if_pos hr]) w
  refine enter_fr TBok (H := [.ext 12 (MvsA t l)]) all_foot Tryz.func104 rfl rfl Tryz.ntmps104 [.loc t 0 0, .agg [.v (.string r.lo), .v (.string r.hi)], .v (.int .i64 fr), .v (.int .i64 to)] rfl rfl ?_
  intro S
  conv => whnf
  refine Run.ex (A := mvsH t l) (i := 12) .head ?_
  rintro ⟨a, cap⟩
  dsimp only [mvsH, layF]
  repeat' (first
 | with_reducible ((first | refine r_seq (fun KS hS => ?_) | (refine hS _ _ ?_; clear hS KS) | (refine hB _ ?_; clear hB KB) | refine r_block ?_))
 | ((with_reducible (first | refine r_region ?_ | refine r_cond (fun KA hA KB hB => ?_) | refine r_ret ?_ | refine r_skip ?_ | refine And.intro rfl ?_ | intro b)); conv => whnf)
 | ((with_reducible refine CallK.id ?_); (first | apply in1125 | apply in1133 | apply in1155); rfl; rfl; rfl; intro A; conv => whnf)
 | ((with_reducible refine CallK.at 115 ?_); refine CallK.pu (fun w => hc1115 w) ?_; conv => whnf)
 | ((with_reducible apply OpK.more); (focus refine sok); (conv => whnf); fail_if_success guard_target =ₛ False)
 | ((first | refine if_decT (by omega) ?_ | refine if_decF (by omega) ?_ | refine if_ndecF (by omega) ?_); conv => whnf)
 | with_reducible apply_assumption -symm -exfalso)
  rename_i br bn be _ _ _ _ _ _ _
  refine r_rangeN (fun _ => [.blk 1 br [.v (.string r.lo), .v (.string r.hi)] 37, .blk 2 bn [.v (.int .i64 0)] 3, .blk 3 be [.v (.int .i64 0)] 32]) ((OM.openF 1 l).map mvX) 40 rfl ?_ (mopen1193 (t := t) (bx := b) (by omega)) ?_ (by decide) ?_ ?_
  · exact HSub.trans (HSub.app2 (A' := [.blk 11 b [.loc t 0 0] 118]) (HSub.refl _) (HSub.app2 (A' := [.ext 12 (MvsA t l)]) (mvs_id (i := 0) (j := 1) (t := t) (l := l) (a := a) (cap := cap) rfl) (HSub.refl _))) seG
  · intro x hx
    obtain ⟨y, _, rfl⟩ := List.mem_map.1 hx
    rfl
  · intro i x hx lp rc W' S'
    rw [List.getElem?_map, Option.map_eq_some_iff] at hx
    obtain ⟨⟨n, m⟩, hx, rfl⟩ := hx
    have hmem := openF_in hx
    have hst : m.st ≠ 3 := by
      obtain ⟨j, q1, q2, q3⟩ := OM.openF_mem.1 (List.mem_of_getElem? hx)
      exact q3
    have hmeet1101 := fun w => meet1101 (hok m hmem) hr (rsz (hok m hmem)) (rsz hr) w
    rw [hno m hmem hst] at hmeet1101
    simp only [Bool.false_eq_true, if_false] at hmeet1101
    conv => whnf
    repeat' (first
 | ((with_reducible (first | refine r_region ?_ | refine And.intro rfl ?_ | intro b)); conv => whnf))
    refine AssignX.rm rmG ?_
    repeat' (first
 | with_reducible ((first | refine r_seq (fun KS hS => ?_) | (refine hS _ _ ?_; clear hS KS) | (refine hB _ ?_; clear hB KB) | refine r_block ?_))
 | ((with_reducible (first | refine r_region ?_ | refine r_cond (fun KA hA KB hB => ?_) | refine r_skip ?_ | refine And.intro rfl ?_ | intro b)); conv => whnf)
 | ((with_reducible refine CallK.at 101 ?_); refine CallK.pu (fun w => hmeet1101 w) ?_; conv => whnf))
    exact ⟨rfl, seG⟩
  · conv => whnf
    refine hS _ _ ?_
    clear hS KS
    dsimp only [List.cons_append, List.nil_append]
    refine Run.ex (A := mvsH t l) (i := 12) rmG ?_
    rintro ⟨a, cap⟩
    dsimp only [mvsH, layF]
    repeat' (first
 | with_reducible ((first | refine r_seq (fun KS hS => ?_) | (refine hS _ _ ?_; clear hS KS) | (refine hB _ ?_; clear hB KB)))
 | ((with_reducible (first | refine r_region ?_ | refine r_cond (fun KA hA KB hB => ?_) | refine r_ret ?_ | refine r_skip ?_ | refine And.intro rfl ?_ | intro b)); conv => whnf)
 | (apply r_any (id := 12); refine mixed; kernel_rfl; kernel_rfl; conv => whnf)
 | ((with_reducible refine IK.id ?_); refine IK.bld rfl ?_; conv => whnf)
 | ((with_reducible refine OpK.id ?_); refine OpK.app (k := 6) rfl rfl rfl rfl rfl rfl rfl rfl atG (SrcK.slc rfl rfl lmG (Nat.le_refl _) rfl) (big_ok (by omega) (by decide)) (fun a' cap' => ?_); conv => whnf)
 | ((with_reducible ((first | refine InAt.mk (fun K' hK => ?_) | refine AnyAt.mk (fun K' hK => ?_) | (refine hK _ ?_; clear hK K') | (refine hK _ _ ?_; clear hK K')))); conv => whnf)
 | (refine And.intro ?_ ?_; all_goals (conv => whnf))
 | (refine if_decF (by omega) ?_; conv => whnf)
 | with_reducible apply_assumption -symm -exfalso)
    all_goals (refine FinK.frL rfl (HSub.trans (mvs_id (i := 0) (j := 1) (t := t) (l := l ++ [⟨r, fr, to, 1, OM.eps⟩]) (a := a') (cap := cap') (n := l.length + 1) (by simp)) ?_); rw [hfm]; exact seG)
theorem mfull1104 {t : Nat} {l : List OM.Mv} {r : OM.Rg} {fr to : Int} (hl : ¬ l.length < 64) (hl2 : l.length ≤ 64) (hr : r.ok = true) (h1 : 1 ≤ fr ∧ fr ≤ 7) (h2 : 1 ≤ to ∧ to ≤ 7) (h3 : fr ≠ to) (hok : ∀ m ∈ l, m.r.ok = true) (hno : ∀ m ∈ l, m.st ≠ 3 → OM.meets m.r r = false) (w : World) :
    Fr Tryz.prog 104 #[pv t, .agg #[.string r.lo, .string r.hi], .int .i64 fr, .int .i64 to] w (AssL [.ext 12 (MvsA t l)]) (.tuple #[.int .i64 0, .int .i64 4]) (AssL [.ext 12 (MvsA t l)]) := by
  have hc1115 : ∀ w, Pu Tryz.prog 115 #[.agg #[.string r.lo, .string r.hi]] w (.int .i64 0) := fun w => chk1115 (rsz hr) (by rw [if_pos hr]) w
  refine enter_fr TBok (H := [.ext 12 (MvsA t l)]) all_foot Tryz.func104 rfl rfl Tryz.ntmps104 [.loc t 0 0, .agg [.v (.string r.lo), .v (.string r.hi)], .v (.int .i64 fr), .v (.int .i64 to)] rfl rfl ?_
  intro S
  conv => whnf
  refine Run.ex (A := mvsH t l) (i := 12) .head ?_
  rintro ⟨a, cap⟩
  dsimp only [mvsH, layF]
  repeat' (first
 | with_reducible ((first | refine r_seq (fun KS hS => ?_) | (refine hS _ _ ?_; clear hS KS) | (refine hB _ ?_; clear hB KB) | refine r_block ?_))
 | ((with_reducible (first | refine r_region ?_ | refine r_cond (fun KA hA KB hB => ?_) | refine r_ret ?_ | refine r_skip ?_ | refine And.intro rfl ?_ | intro b)); conv => whnf)
 | ((with_reducible refine CallK.id ?_); (first | apply in1125 | apply in1133 | apply in1155); rfl; rfl; rfl; intro A; conv => whnf)
 | ((with_reducible refine CallK.at 115 ?_); refine CallK.pu (fun w => hc1115 w) ?_; conv => whnf)
 | ((with_reducible apply OpK.more); (focus refine sok); (conv => whnf); fail_if_success guard_target =ₛ False)
 | ((first | refine if_decT (by omega) ?_ | refine if_decF (by omega) ?_ | refine if_ndecF (by omega) ?_); conv => whnf)
 | with_reducible apply_assumption -symm -exfalso)
  rename_i br bn be _ _ _ _ _ _ _
  refine r_rangeN (fun _ => [.blk 1 br [.v (.string r.lo), .v (.string r.hi)] 37, .blk 2 bn [.v (.int .i64 0)] 3, .blk 3 be [.v (.int .i64 0)] 32]) ((OM.openF 1 l).map mvX) 40 rfl ?_ (mopen1193 (t := t) (bx := b) (by omega)) ?_ (by decide) ?_ ?_
  · exact HSub.trans (HSub.app2 (A' := [.blk 11 b [.loc t 0 0] 118]) (HSub.refl _) (HSub.app2 (A' := [.ext 12 (MvsA t l)]) (mvs_id (i := 0) (j := 1) (t := t) (l := l) (a := a) (cap := cap) rfl) (HSub.refl _))) seG
  · intro x hx
    obtain ⟨y, _, rfl⟩ := List.mem_map.1 hx
    rfl
  · intro i x hx lp rc W' S'
    rw [List.getElem?_map, Option.map_eq_some_iff] at hx
    obtain ⟨⟨n, m⟩, hx, rfl⟩ := hx
    have hmem := openF_in hx
    have hst : m.st ≠ 3 := by
      obtain ⟨j, q1, q2, q3⟩ := OM.openF_mem.1 (List.mem_of_getElem? hx)
      exact q3
    have hmeet1101 := fun w => meet1101 (hok m hmem) hr (rsz (hok m hmem)) (rsz hr) w
    rw [hno m hmem hst] at hmeet1101
    simp only [Bool.false_eq_true, if_false] at hmeet1101
    conv => whnf
    repeat' (first
 | ((with_reducible (first | refine r_region ?_ | refine And.intro rfl ?_ | intro b)); conv => whnf))
    refine AssignX.rm rmG ?_
    repeat' (first
 | with_reducible ((first | refine r_seq (fun KS hS => ?_) | (refine hS _ _ ?_; clear hS KS) | (refine hB _ ?_; clear hB KB) | refine r_block ?_))
 | ((with_reducible (first | refine r_region ?_ | refine r_cond (fun KA hA KB hB => ?_) | refine r_skip ?_ | refine And.intro rfl ?_ | intro b)); conv => whnf)
 | ((with_reducible refine CallK.at 101 ?_); refine CallK.pu (fun w => hmeet1101 w) ?_; conv => whnf))
    exact ⟨rfl, seG⟩
  · conv => whnf
    refine hS _ _ ?_
    clear hS KS
    dsimp only [List.cons_append, List.nil_append]
    refine Run.ex (A := mvsH t l) (i := 12) rmG ?_
    rintro ⟨a, cap⟩
    dsimp only [mvsH, layF]
    repeat' (first
 | with_reducible ((first | refine r_seq (fun KS hS => ?_) | (refine hS _ _ ?_; clear hS KS) | (refine hA _ ?_; clear hA KA)))
 | ((with_reducible (first | refine r_region ?_ | refine r_cond (fun KA hA KB hB => ?_) | refine r_ret ?_ | refine And.intro rfl ?_)); conv => whnf)
 | (refine if_decT (by omega) ?_; conv => whnf))
    all_goals exact FinK.frL rfl (HSub.trans (mvs_id (i := 0) (j := 1) (t := t) (l := l) (a := a) (cap := cap) rfl) seG)
abbrev dfA (d : OM.Dfn) (a : Option Addr) (cap : Nat) : Ass := SlA 80 2 a d.steps.length cap (stepCells d.steps)
theorem tstart1096 {t : Nat} {L : SL} {id now : Int} {d : OM.Dfn} {a : Option Addr} {cap : Nat} (hs : AscS L) (hl : L.length < 64) (hg : getL L id = none) (hd : d.ok = true) (hn : 0 ≤ now ∧ now ≤ 2147483648) (hz : 1 ≤ id ∧ id ≤ 9999) (w : World) :
    Fr Tryz.prog 96 #[pv t, .int .i64 id, .agg #[.string d.name, .int .i64 d.retries, .int .i64 d.deadline, .slice a d.steps.length cap], .int .i64 now] w (AssL [.ext 0 (TabA t L), .ext 8 (dfA d a cap)]) (.int .i64 0) (AssL [.ext 0 (TabA t (OM.putS id ⟨d, 1, 0, false, 0, now, 0⟩ L)), .ext 8 (dfA d a cap)]) := by
  have hd' := OM.Dfn.steps_pos hd
  refine enter_fr TBok (H := [.ext 0 (TabA t L), .ext 8 (dfA d a cap)]) all_foot Tryz.func96 rfl rfl Tryz.ntmps96 [.loc t 0 0, .v (.int .i64 id), .agg [.v (.string d.name), .v (.int .i64 d.retries), .v (.int .i64 d.deadline), .v (.slice a d.steps.length cap)], .v (.int .i64 now)] rfl rfl ?_
  intro S
  conv => whnf
  refine Run.ex (A := tabH t L) (i := 0) .head ?_
  rintro ⟨m, P0⟩
  dsimp only [tabH, layF]
  repeat' (first
 | with_reducible ((first | refine r_seq (fun KS hS => ?_) | (refine hS _ _ ?_; clear hS KS) | (refine hB _ ?_; clear hB KB) | refine r_block ?_))
 | ((with_reducible (first | refine r_region ?_ | refine r_cond (fun KA hA KB hB => ?_) | refine r_ret ?_ | refine r_skip ?_ | refine And.intro rfl ?_ | intro b)); conv => whnf)
 | ((with_reducible refine CallK.id ?_); (first | apply in1122 | apply in1137 | apply in1138 | apply in1130); rfl; rfl; rfl; intro A; conv => whnf)
 | ((with_reducible refine CallK.at 127 ?_); refine CallK.puW (fun ms w hk => defn1127 hd (Sees.rd (Sees.ext atG) hk)) ?_; conv => whnf)
 | ((with_reducible refine CallK.id ?_); (first | refine CallK.fresh (fun ms w' hk => start1151 hd (Sees.rd (Sees.ext atG) hk) hn) ?_ | (refine CallK.fresh (fun ms w' hk => scopy1113 (s := ⟨d, 1, 0, false, 0, now, 0⟩) (Sees.rd (Sees.ext atG) hk) (by show d.steps.length ≤ _; omega)) ?_)); conv => whnf)
 | ((with_reducible refine OpK.id ?_); (first | refine OpK.lkN rfl rfl rfl rfl rfl rfl rfl rfl atG (sgF_none hg) ?_ | (refine OpK.lenM rfl rfl rfl rfl atG (keys_sgF hs (by omega)) ?_; rw [List.length_map]) | refine OpK.upK rfl rfl rfl rfl rfl rfl rfl rfl atG (zok_id hz) ?_); conv => whnf)
 | (apply r_any (id := 6); refine mixed; kernel_rfl; kernel_rfl; conv => whnf)
 | ((with_reducible apply OpK.more); (focus refine sok); (conv => whnf); fail_if_success guard_target =ₛ False)
 | ((with_reducible ((first | refine InAt.mk (fun K' hK => ?_) | refine AnyAt.mk (fun K' hK => ?_) | (refine hK _ ?_; clear hK K') | (refine hK _ _ ?_; clear hK K')))); conv => whnf)
 | (refine And.intro ?_ ?_; all_goals (conv => whnf))
 | (refine if_decF (by omega) ?_; conv => whnf)
 | with_reducible apply_assumption -symm -exfalso)
  all_goals exact FinK.frL rfl (HSub.trans (HSub.app2 (A' := [.ext 0 (TabA t (OM.putS id ⟨d, 1, 0, false, 0, now, 0⟩ L))]) (B' := [.ext 8 (dfA d a cap)]) (tab_put (s := ⟨d, 1, 0, false, 0, now, 0⟩) (i := 0) (j := 1) (k := 2) (l := 2) (m := m) (A := P0) (a := b) hs) (HSub.refl _)) seG)
theorem thave1096 {t : Nat} {L : SL} {id now : Int} {d : OM.Dfn} {s : OM.Sg} {a : Option Addr} {cap : Nat} (hg : getL L id = some s) (hd : d.ok = true) (hn : 0 ≤ now ∧ now ≤ 2147483648) (hz : 1 ≤ id ∧ id ≤ 9999) (w : World) :
    Fr Tryz.prog 96 #[pv t, .int .i64 id, .agg #[.string d.name, .int .i64 d.retries, .int .i64 d.deadline, .slice a d.steps.length cap], .int .i64 now] w (AssL [.ext 0 (TabA t L), .ext 8 (dfA d a cap)]) (.int .i64 6) (AssL [.ext 0 (TabA t L), .ext 8 (dfA d a cap)]) := by
  have hd' := OM.Dfn.steps_pos hd
  refine enter_fr TBok (H := [.ext 0 (TabA t L), .ext 8 (dfA d a cap)]) all_foot Tryz.func96 rfl rfl Tryz.ntmps96 [.loc t 0 0, .v (.int .i64 id), .agg [.v (.string d.name), .v (.int .i64 d.retries), .v (.int .i64 d.deadline), .v (.slice a d.steps.length cap)], .v (.int .i64 now)] rfl rfl ?_
  intro S
  conv => whnf
  refine Run.ex (A := tabH t L) (i := 0) .head ?_
  rintro ⟨m, P0⟩
  dsimp only [tabH, layF]
  repeat' (first
 | with_reducible ((first | refine r_seq (fun KS hS => ?_) | (refine hS _ _ ?_; clear hS KS) | (refine hA _ ?_; clear hA KA) | (refine hB _ ?_; clear hB KB) | refine r_block ?_))
 | ((with_reducible (first | refine r_region ?_ | refine r_cond (fun KA hA KB hB => ?_) | refine r_ret ?_ | refine r_skip ?_ | refine And.intro rfl ?_ | intro b)); conv => whnf)
 | ((with_reducible refine CallK.id ?_); (first | apply in1122 | apply in1137 | apply in1138 | apply in1130); rfl; rfl; rfl; intro A; conv => whnf)
 | ((with_reducible refine CallK.at 127 ?_); refine CallK.puW (fun ms w hk => defn1127 hd (Sees.rd (Sees.ext atG) hk)) ?_; conv => whnf)
 | ((with_reducible refine CallK.id ?_); refine CallK.fresh (fun ms w' hk => start1151 hd (Sees.rd (Sees.ext atG) hk) hn) ?_; conv => whnf)
 | ((with_reducible refine OpK.id ?_); refine OpK.re (s := .tup [.agg (sgc s (P0 id).1 (P0 id).2), .v (.bool true)]) (OpK.lkS rfl rfl rfl rfl rfl rfl rfl atG (sgF_get hg) ⟨rfl, rfl⟩) ?_; conv => whnf)
 | ((with_reducible apply OpK.more); (focus refine sok); (conv => whnf); fail_if_success guard_target =ₛ False)
 | (refine if_decF (by omega) ?_; conv => whnf)
 | with_reducible apply_assumption -symm -exfalso)
  all_goals exact FinK.frL rfl (HSub.trans (HSub.app2 (A' := [.ext 0 (TabA t L)]) (B' := [.ext 8 (dfA d a cap)]) (tab_id (i := 0) (j := 1) (k := 2) (m := m) (A := P0)) (HSub.refl _)) seG)
theorem tfull1096 {t : Nat} {L : SL} {id now : Int} {d : OM.Dfn} {a : Option Addr} {cap : Nat} (hs : AscS L) (hl : ¬ L.length < 64) (hl2 : L.length ≤ 64) (hg : getL L id = none) (hd : d.ok = true) (hn : 0 ≤ now ∧ now ≤ 2147483648) (hz : 1 ≤ id ∧ id ≤ 9999) (w : World) :
    Fr Tryz.prog 96 #[pv t, .int .i64 id, .agg #[.string d.name, .int .i64 d.retries, .int .i64 d.deadline, .slice a d.steps.length cap], .int .i64 now] w (AssL [.ext 0 (TabA t L), .ext 8 (dfA d a cap)]) (.int .i64 4) (AssL [.ext 0 (TabA t L), .ext 8 (dfA d a cap)]) := by
  have hd' := OM.Dfn.steps_pos hd
  refine enter_fr TBok (H := [.ext 0 (TabA t L), .ext 8 (dfA d a cap)]) all_foot Tryz.func96 rfl rfl Tryz.ntmps96 [.loc t 0 0, .v (.int .i64 id), .agg [.v (.string d.name), .v (.int .i64 d.retries), .v (.int .i64 d.deadline), .v (.slice a d.steps.length cap)], .v (.int .i64 now)] rfl rfl ?_
  intro S
  conv => whnf
  refine Run.ex (A := tabH t L) (i := 0) .head ?_
  rintro ⟨m, P0⟩
  dsimp only [tabH, layF]
  repeat' (first
 | with_reducible ((first | refine r_seq (fun KS hS => ?_) | (refine hS _ _ ?_; clear hS KS) | (refine hA _ ?_; clear hA KA) | (refine hB _ ?_; clear hB KB) | refine r_block ?_))
 | ((with_reducible (first | refine r_region ?_ | refine r_cond (fun KA hA KB hB => ?_) | refine r_ret ?_ | refine r_skip ?_ | refine And.intro rfl ?_ | intro b)); conv => whnf)
 | ((with_reducible refine CallK.id ?_); (first | apply in1122 | apply in1137 | apply in1138 | apply in1130); rfl; rfl; rfl; intro A; conv => whnf)
 | ((with_reducible refine CallK.at 127 ?_); refine CallK.puW (fun ms w hk => defn1127 hd (Sees.rd (Sees.ext atG) hk)) ?_; conv => whnf)
 | ((with_reducible refine CallK.id ?_); refine CallK.fresh (fun ms w' hk => start1151 hd (Sees.rd (Sees.ext atG) hk) hn) ?_; conv => whnf)
 | ((with_reducible refine OpK.id ?_); (first | refine OpK.lkN rfl rfl rfl rfl rfl rfl rfl rfl atG (sgF_none hg) ?_ | (refine OpK.lenM rfl rfl rfl rfl atG (keys_sgF hs (by omega)) ?_; rw [List.length_map])); conv => whnf)
 | ((with_reducible apply OpK.more); (focus refine sok); (conv => whnf); fail_if_success guard_target =ₛ False)
 | ((first | refine if_decT (by omega) ?_ | refine if_decF (by omega) ?_); conv => whnf)
 | with_reducible apply_assumption -symm -exfalso)
  all_goals exact FinK.frL rfl (HSub.trans (HSub.app2 (A' := [.ext 0 (TabA t L)]) (B' := [.ext 8 (dfA d a cap)]) (tab_id (i := 0) (j := 1) (k := 2) (m := m) (A := P0)) (HSub.refl _)) seG)
end Go.Proofs.YtjkmpaggfbghiaaGreatDoor

namespace Go.Proofs.YtjkmpaggfbghiaaGreatDoor
open Go Go.X Go.RowKit Go.Maps Go.Sort Go.Shelf Go.Proofs
def Tryz.keysW_ren : Go.Shelf.Ren := ⟨fun | 7 => 124 | 10 => 187 | n => n, fun | 23 => 208 | 26 => 3 | 3 => 57 | 28 => 206 | 0 => 0 | 27 => 205 | 33 => 171 | 4 => 4 | n => n, fun | n => n⟩
theorem Tryz.keysW : Go.Proofs.SlLaysZI.n7 Tryz.prog Tryz.keysW_ren := {
  mixed := by kernel_rfl
  f7 := ⟨Tryz.f124.name, by decide, Tryz.func124.trans (congrArg some (by kernel_rfl))⟩
  f10 := ⟨Tryz.f187.name, by decide, Tryz.func187.trans (congrArg some (by kernel_rfl))⟩
  t0 := Tryz.underlying0
  a0 := Tryz.isAgg0
  z0 := Tryz.sizeOf0
  v0 := Tryz.zeroValue0
  t4 := Tryz.underlying4
  a4 := Tryz.isAgg4
  z4 := Tryz.sizeOf4
  v4 := Tryz.zeroValue4
  t23 := Tryz.underlying208
  a23 := Tryz.isAgg208
  z23 := Tryz.sizeOf208
  v23 := Tryz.zeroValue208
  t26 := Tryz.underlying3
  a26 := Tryz.isAgg3
  z26 := Tryz.sizeOf3
  v26 := Tryz.zeroValue3
  t27 := Tryz.underlying205
  a27 := Tryz.isAgg205
  z27 := Tryz.sizeOf205
  v27 := Tryz.zeroValue205
  t28 := Tryz.underlying206
  a28 := Tryz.isAgg206
  z28 := Tryz.sizeOf206
  v28 := Tryz.zeroValue206
  t33 := Tryz.underlying171
  a33 := Tryz.isAgg171
  z33 := Tryz.sizeOf171
  v33 := Tryz.zeroValue171 }
def Tryz.sortedI_ren : Go.Shelf.Ren := ⟨fun | 6 => 123 | 8 => 185 | 9 => 186 | 11 => 267 | 13 => 95 | 12 => 268 | 23 => 149 | 24 => 150 | 14 => 305 | 15 => 306 | 16 => 307 | 17 => 308 | 18 => 309 | 19 => 310 | 20 => 311 | 21 => 312 | 22 => 313 | 25 => 330 | 26 => 196 | 27 => 197 | 28 => 331 | 29 => 332 | 30 => 333 | 31 => 341 | n => n, fun | 26 => 3 | 28 => 206 | 24 => 70 | 0 => 0 | 3 => 3 | 37 => 124 | 48 => 238 | 50 => 240 | 4 => 4 | 40 => 231 | 39 => 230 | 45 => 235 | 5 => 5 | 9 => 9 | 51 => 272 | 55 => 276 | 57 => 321 | 58 => 322 | 33 => 171 | n => n, fun | n => n⟩
theorem Tryz.sortedI : Go.Proofs.SlLaysZI.n6 Tryz.prog Tryz.sortedI_ren := {
  mixed := by kernel_rfl
  f6 := ⟨Tryz.f123.name, by decide, Tryz.func123.trans (congrArg some (by kernel_rfl))⟩
  f8 := ⟨Tryz.f185.name, by decide, Tryz.func185.trans (congrArg some (by kernel_rfl))⟩
  f11 := ⟨Tryz.f267.name, by decide, Tryz.func267.trans (congrArg some (by kernel_rfl))⟩
  t0 := Tryz.underlying0
  a0 := Tryz.isAgg0
  z0 := Tryz.sizeOf0
  v0 := Tryz.zeroValue0
  t24 := Tryz.underlying70
  a24 := Tryz.isAgg70
  z24 := Tryz.sizeOf70
  v24 := Tryz.zeroValue70
  t26 := Tryz.underlying3
  a26 := Tryz.isAgg3
  z26 := Tryz.sizeOf3
  v26 := Tryz.zeroValue3
  t28 := Tryz.underlying206
  a28 := Tryz.isAgg206
  z28 := Tryz.sizeOf206
  v28 := Tryz.zeroValue206
  i26 := by kernel_rfl }
def Tryz.sortI_ren : Go.Shelf.Ren := ⟨fun | 5 => 186 | 8 => 95 | 7 => 268 | 19 => 149 | 20 => 150 | 10 => 305 | 11 => 306 | 12 => 307 | 13 => 308 | 14 => 309 | 15 => 310 | 16 => 311 | 17 => 312 | 18 => 313 | 30 => 330 | 31 => 196 | 32 => 197 | 33 => 331 | 34 => 332 | 35 => 333 | 40 => 341 | n => n, fun | 23 => 70 | 25 => 3 | 3 => 3 | 32 => 124 | 22 => 70 | 0 => 0 | 44 => 238 | 46 => 240 | 4 => 4 | 36 => 231 | 35 => 230 | 41 => 235 | 5 => 5 | 9 => 9 | 53 => 272 | 57 => 276 | 63 => 321 | 64 => 322 | n => n, fun | n => n⟩
theorem Tryz.sortI : Go.Proofs.SlLaysM.n5 Tryz.prog Tryz.sortI_ren := {
  mixed := by kernel_rfl
  f5 := ⟨Tryz.f186.name, by decide, Tryz.func186.trans (congrArg some (by kernel_rfl))⟩
  f7 := ⟨Tryz.f268.name, by decide, Tryz.func268.trans (congrArg some (by kernel_rfl))⟩
  f8 := Tryz.func95.trans (congrArg some (by kernel_rfl))
  f10 := ⟨Tryz.f305.name, by decide, Tryz.func305.trans (congrArg some (by kernel_rfl))⟩
  f11 := ⟨Tryz.f306.name, by decide, Tryz.func306.trans (congrArg some (by kernel_rfl))⟩
  f12 := ⟨Tryz.f307.name, by decide, Tryz.func307.trans (congrArg some (by kernel_rfl))⟩
  f13 := ⟨Tryz.f308.name, by decide, Tryz.func308.trans (congrArg some (by kernel_rfl))⟩
  f14 := ⟨Tryz.f309.name, by decide, Tryz.func309.trans (congrArg some (by kernel_rfl))⟩
  f15 := ⟨Tryz.f310.name, by decide, Tryz.func310.trans (congrArg some (by kernel_rfl))⟩
  f16 := ⟨Tryz.f311.name, by decide, Tryz.func311.trans (congrArg some (by kernel_rfl))⟩
  f17 := ⟨Tryz.f312.name, by decide, Tryz.func312.trans (congrArg some (by kernel_rfl))⟩
  f18 := ⟨Tryz.f313.name, by decide, Tryz.func313.trans (congrArg some (by kernel_rfl))⟩
  f19 := Tryz.func149.trans (congrArg some (by kernel_rfl))
  f20 := Tryz.func150.trans (congrArg some (by kernel_rfl))
  f30 := ⟨Tryz.f330.name, by decide, Tryz.func330.trans (congrArg some (by kernel_rfl))⟩
  f31 := Tryz.func196.trans (congrArg some (by kernel_rfl))
  f32 := Tryz.func197.trans (congrArg some (by kernel_rfl))
  f33 := ⟨Tryz.f331.name, by decide, Tryz.func331.trans (congrArg some (by kernel_rfl))⟩
  f34 := ⟨Tryz.f332.name, by decide, Tryz.func332.trans (congrArg some (by kernel_rfl))⟩
  f35 := ⟨Tryz.f333.name, by decide, Tryz.func333.trans (congrArg some (by kernel_rfl))⟩
  f40 := ⟨Tryz.f341.name, by decide, Tryz.func341.trans (congrArg some (by kernel_rfl))⟩
  t0 := Tryz.underlying0
  a0 := Tryz.isAgg0
  z0 := Tryz.sizeOf0
  v0 := Tryz.zeroValue0
  t3 := Tryz.underlying3
  a3 := Tryz.isAgg3
  z3 := Tryz.sizeOf3
  v3 := Tryz.zeroValue3
  t4 := Tryz.underlying4
  a4 := Tryz.isAgg4
  z4 := Tryz.sizeOf4
  v4 := Tryz.zeroValue4
  t5 := Tryz.underlying5
  a5 := Tryz.isAgg5
  z5 := Tryz.sizeOf5
  v5 := Tryz.zeroValue5
  t9 := Tryz.underlying9
  a9 := Tryz.isAgg9
  z9 := Tryz.sizeOf9
  v9 := Tryz.zeroValue9
  t22 := Tryz.underlying70
  a22 := Tryz.isAgg70
  z22 := Tryz.sizeOf70
  v22 := Tryz.zeroValue70
  t23 := Tryz.underlying70
  a23 := Tryz.isAgg70
  z23 := Tryz.sizeOf70
  v23 := Tryz.zeroValue70
  t25 := Tryz.underlying3
  a25 := Tryz.isAgg3
  z25 := Tryz.sizeOf3
  v25 := Tryz.zeroValue3
  t32 := Tryz.underlying124
  a32 := Tryz.isAgg124
  z32 := Tryz.sizeOf124
  v32 := Tryz.zeroValue124
  t35 := Tryz.underlying230
  a35 := Tryz.isAgg230
  z35 := Tryz.sizeOf230
  v35 := Tryz.zeroValue230
  t36 := Tryz.underlying231
  a36 := Tryz.isAgg231
  z36 := Tryz.sizeOf231
  v36 := Tryz.zeroValue231
  t41 := Tryz.underlying235
  a41 := Tryz.isAgg235
  z41 := Tryz.sizeOf235
  v41 := Tryz.zeroValue235
  t44 := Tryz.underlying238
  a44 := Tryz.isAgg238
  z44 := Tryz.sizeOf238
  v44 := Tryz.zeroValue238
  t46 := Tryz.underlying240
  a46 := Tryz.isAgg240
  z46 := Tryz.sizeOf240
  v46 := Tryz.zeroValue240
  t53 := Tryz.underlying272
  a53 := Tryz.isAgg272
  z53 := Tryz.sizeOf272
  v53 := Tryz.zeroValue272
  t57 := Tryz.underlying276
  a57 := Tryz.isAgg276
  z57 := Tryz.sizeOf276
  v57 := Tryz.zeroValue276
  t63 := Tryz.underlying321
  a63 := Tryz.isAgg321
  z63 := Tryz.sizeOf321
  v63 := Tryz.zeroValue321
  t64 := Tryz.underlying322
  a64 := Tryz.isAgg322
  z64 := Tryz.sizeOf322
  v64 := Tryz.zeroValue322 }
def Tryz.sortF_ren : Go.Shelf.Ren := ⟨fun | 6 => 43 | 15 => 95 | 14 => 94 | 28 => 149 | 29 => 150 | 20 => 141 | 21 => 142 | 22 => 143 | 23 => 144 | 24 => 145 | 25 => 146 | 26 => 147 | 27 => 148 | 46 => 195 | 47 => 196 | 48 => 197 | 49 => 198 | 50 => 199 | 57 => 270 | n => n, fun | 22 => 25 | 24 => 31 | 25 => 110 | 3 => 3 | 39 => 124 | 0 => 0 | 53 => 238 | 55 => 240 | 4 => 4 | 46 => 231 | 45 => 230 | 50 => 235 | 5 => 5 | 9 => 9 | 66 => 272 | 70 => 276 | 76 => 321 | 77 => 322 | n => n, fun | n => n⟩
theorem Tryz.sortF : Go.Proofs.SlLaysF0.n6 Tryz.prog Tryz.sortF_ren := {
  mixed := by kernel_rfl
  f6 := ⟨Tryz.f43.name, by decide, Tryz.func43.trans (congrArg some (by kernel_rfl))⟩
  f14 := ⟨Tryz.f94.name, by decide, Tryz.func94.trans (congrArg some (by kernel_rfl))⟩
  f15 := Tryz.func95.trans (congrArg some (by kernel_rfl))
  f20 := ⟨Tryz.f141.name, by decide, Tryz.func141.trans (congrArg some (by kernel_rfl))⟩
  f21 := ⟨Tryz.f142.name, by decide, Tryz.func142.trans (congrArg some (by kernel_rfl))⟩
  f22 := ⟨Tryz.f143.name, by decide, Tryz.func143.trans (congrArg some (by kernel_rfl))⟩
  f23 := ⟨Tryz.f144.name, by decide, Tryz.func144.trans (congrArg some (by kernel_rfl))⟩
  f24 := ⟨Tryz.f145.name, by decide, Tryz.func145.trans (congrArg some (by kernel_rfl))⟩
  f25 := ⟨Tryz.f146.name, by decide, Tryz.func146.trans (congrArg some (by kernel_rfl))⟩
  f26 := ⟨Tryz.f147.name, by decide, Tryz.func147.trans (congrArg some (by kernel_rfl))⟩
  f27 := ⟨Tryz.f148.name, by decide, Tryz.func148.trans (congrArg some (by kernel_rfl))⟩
  f28 := Tryz.func149.trans (congrArg some (by kernel_rfl))
  f29 := Tryz.func150.trans (congrArg some (by kernel_rfl))
  f46 := ⟨Tryz.f195.name, by decide, Tryz.func195.trans (congrArg some (by kernel_rfl))⟩
  f47 := Tryz.func196.trans (congrArg some (by kernel_rfl))
  f48 := Tryz.func197.trans (congrArg some (by kernel_rfl))
  f49 := ⟨Tryz.f198.name, by decide, Tryz.func198.trans (congrArg some (by kernel_rfl))⟩
  f50 := ⟨Tryz.f199.name, by decide, Tryz.func199.trans (congrArg some (by kernel_rfl))⟩
  f57 := ⟨Tryz.f270.name, by decide, Tryz.func270.trans (congrArg some (by kernel_rfl))⟩
  t0 := Tryz.underlying0
  a0 := Tryz.isAgg0
  z0 := Tryz.sizeOf0
  v0 := Tryz.zeroValue0
  t3 := Tryz.underlying3
  a3 := Tryz.isAgg3
  z3 := Tryz.sizeOf3
  v3 := Tryz.zeroValue3
  t4 := Tryz.underlying4
  a4 := Tryz.isAgg4
  z4 := Tryz.sizeOf4
  v4 := Tryz.zeroValue4
  t5 := Tryz.underlying5
  a5 := Tryz.isAgg5
  z5 := Tryz.sizeOf5
  v5 := Tryz.zeroValue5
  t9 := Tryz.underlying9
  a9 := Tryz.isAgg9
  z9 := Tryz.sizeOf9
  v9 := Tryz.zeroValue9
  t22 := Tryz.underlying25
  a22 := Tryz.isAgg25
  z22 := Tryz.sizeOf25
  v22 := Tryz.zeroValue25
  t25 := Tryz.underlying110
  a25 := Tryz.isAgg110
  z25 := Tryz.sizeOf110
  v25 := Tryz.zeroValue110
  t39 := Tryz.underlying124
  a39 := Tryz.isAgg124
  z39 := Tryz.sizeOf124
  v39 := Tryz.zeroValue124
  t45 := Tryz.underlying230
  a45 := Tryz.isAgg230
  z45 := Tryz.sizeOf230
  v45 := Tryz.zeroValue230
  t46 := Tryz.underlying231
  a46 := Tryz.isAgg231
  z46 := Tryz.sizeOf231
  v46 := Tryz.zeroValue231
  t50 := Tryz.underlying235
  a50 := Tryz.isAgg235
  z50 := Tryz.sizeOf235
  v50 := Tryz.zeroValue235
  t53 := Tryz.underlying238
  a53 := Tryz.isAgg238
  z53 := Tryz.sizeOf238
  v53 := Tryz.zeroValue238
  t55 := Tryz.underlying240
  a55 := Tryz.isAgg240
  z55 := Tryz.sizeOf240
  v55 := Tryz.zeroValue240
  t66 := Tryz.underlying272
  a66 := Tryz.isAgg272
  z66 := Tryz.sizeOf272
  v66 := Tryz.zeroValue272
  t70 := Tryz.underlying276
  a70 := Tryz.isAgg276
  z70 := Tryz.sizeOf276
  v70 := Tryz.zeroValue276
  t76 := Tryz.underlying321
  a76 := Tryz.isAgg321
  z76 := Tryz.sizeOf321
  v76 := Tryz.zeroValue321
  t77 := Tryz.underlying322
  a77 := Tryz.isAgg322
  z77 := Tryz.sizeOf322
  v77 := Tryz.zeroValue322 }
theorem sortsI (m : Nat) : AnyZI.SortsIn Tryz.prog Tryz.sortedI_ren Fence.wide m :=
  ⟨fun blk off cap ss W hH hblk hsz => callsIn_wide.2 (AnyM.slices_Sort_int Tryz.sortI blk off cap ss W hH hblk hsz),
   fun p cap W => callsIn_wide.2 (AnyM.slices_Sort_int_none Tryz.sortI p cap W)⟩
theorem keysOkW : KeysOk Tryz.prog 123 187 3 := keysOk_of (ρk := Tryz.keysW_ren) (ρs := Tryz.sortedI_ren) { Tryz.keysW with } Tryz.sortedI sortsI (enters_of Tryz.func186 (by kernel_rfl) rfl) (enters_of Tryz.func187 (by kernel_rfl) rfl) ⟨_, Tryz.func123, by kernel_rfl, by kernel_rfl⟩ Tryz.underlying3
theorem in1124 : InSt 124 Tryz.f124 4 := InSt.mk' Tryz.func124 rfl Tryz.ntmps124
theorem in1140 : InSt 140 Tryz.f140 4 := InSt.mk' Tryz.func140 rfl Tryz.ntmps140
abbrev idC (L : SL) : List Value := L.map fun x => .int .i64 x.1
theorem ids1063 {t : Nat} {L : SL} (hs : AscS L) (hl : L.length ≤ 64) (w : World) :
    FrZ Tryz.prog 63 #[pv t] w (AssL [.ext 0 (TabA t L)]) (fun z : Option Addr × Nat => .slice z.1 L.length z.2) (fun z => AssL [.ext 0 (TabA t L), .ext 1 (SlA 3 1 z.1 L.length z.2 (idC L))]) := by
  refine enter_frZ TBok (H := [.ext 0 (TabA t L)]) all_foot Tryz.func63 rfl rfl Tryz.ntmps63 [.loc t 0 0] rfl rfl ?_
  intro S _ _
  conv => whnf
  refine Run.ex (A := tabH t L) (i := 0) .head ?_
  rintro ⟨m, P0⟩
  dsimp only [tabH, layF]
  repeat' (first
 | with_reducible ((first | refine r_seq (fun KS hS => ?_) | (refine hS _ _ ?_; clear hS KS) | (refine hB _ ?_; clear hB KB)))
 | ((with_reducible (first | refine r_region ?_ | refine r_cond (fun KA hA KB hB => ?_) | refine r_ret ?_ | refine r_skip ?_ | refine And.intro rfl ?_ | intro b)); conv => whnf)
 | ((with_reducible refine CallK.id ?_); (first | apply in1122 | apply in1124); rfl; rfl; rfl; intro A; conv => whnf)
 | ((with_reducible refine CallK.id ?_); refine CallK.keys keysOkW lmG rfl (SeesM.ext atG) (keys_sgF hs (by omega)) ?_; conv => whnf)
 | ((with_reducible apply OpK.more); (focus refine sok); (conv => whnf); fail_if_success guard_target =ₛ False)
 | with_reducible apply_assumption -symm -exfalso)
  have e1 : (L.map fun x => x.1).length = L.length := List.length_map ..
  have e2 : (L.map fun x => x.1).map (Value.int .i64) = idC L := List.map_map
  rw [e1, e2]
  exact FinK.frZL b rfl (HSub.trans (HSub.app2 (A' := [.ext 0 (TabA t L)]) (B' := [.ext 1 (SlA 3 1 b.1 L.length b.2 (idC L))]) (tab_id (i := 0) (j := 1) (k := 2) (m := m) (A := P0)) (HSub.refl _)) seG)
abbrev nxE (L : SL) : List OM.Eff := L.filterMap fun x => x.2.next x.1
abbrev efV (e : OM.Eff) : List SV := [.v (.int .i64 e.saga), .v (.int .i64 e.step), .v (.int .i64 e.phase)]
abbrev efX (e : OM.Eff) : List SV := [.v (.int .i64 e.saga), .agg (efV e)]
structure LOk (L : SL) : Prop where
  srt : AscS L
  len : L.length ≤ 64
  ok : ∀ x ∈ L, OM.SOk x.2
  id : ∀ x ∈ L, 1 ≤ x.1 ∧ x.1 ≤ 9999
theorem id_at {L : SL} {i : Nat} {x : Int × OM.Sg} (h : L[i]? = some x) : ((idC L).drop ((i : Int).toNat * 1)).take 1 = denL [.v (.int .i64 x.1)] := by
  have e : idC L = L.flatMap fun x => [Value.int .i64 x.1] := List.map_eq_flatMap ..
  rw [e]
  exact flat_at (g := fun x : Int × OM.Sg => [Value.int .i64 x.1]) (fun _ => rfl) h
theorem nxE_step {L : SL} {i : Nat} {x : Int × OM.Sg} (h : L[i]? = some x) : nxE (L.drop i) = match x.2.next x.1 with | none => nxE (L.drop (i + 1)) | some e => e :: nxE (L.drop (i + 1)) := by
  have hi : i < L.length := (List.getElem?_eq_some_iff.1 h).1
  have hm : L[i] = x := (List.getElem?_eq_some_iff.1 h).2
  rw [List.drop_eq_getElem_cons hi, hm]
  show List.filterMap _ _ = _
  rw [List.filterMap_cons]
  cases x.2.next x.1 <;> rfl
theorem topen1194 {t bx : Nat} {L : SL} {o0 o1 : Obj} (hko : KObj o0 o1) (hL : LOk L) : ItX Tryz.prog 194 (denL [.loc bx 11 0]) [.blk 11 bx [.loc t 0 0] 117, .ext 12 (TabA t L), .ext 9 (GlA o0 o1)] [.blk 11 bx [.loc t 0 0] 117, .ext 12 (TabA t L), .ext 9 (GlA o0 o1)] (((nxE L).map efX).map denL) := by
  have hlen := hL.len
  intro stop J yv hy w
  refine enter_fr TBok (H := .ext 0 (J 0) :: [.blk 11 bx [.loc t 0 0] 117, .ext 12 (TabA t L), .ext 9 (GlA o0 o1)]) all_foot Tryz.func194 rfl rfl Tryz.ntmps194 [.v yv, .loc bx 11 0] rfl rfl ?_
  intro S
  conv => whnf
  repeat' (first
 | with_reducible ((first | refine r_seq (fun KS hS => ?_) | (refine hS _ _ ?_; clear hS KS) | refine r_block ?_))
 | ((with_reducible (first | refine r_region ?_ | refine And.intro rfl ?_ | intro b)); conv => whnf)
 | ((with_reducible refine CallK.id ?_); refine CallK.s1 rmG (fun ms w hk => ids1063 hL.srt hL.len w) ?_; conv => whnf))
  rcases b with ⟨a, cap⟩
  dsimp only
  refine Run.ex (A := tabH t L) (i := 12) rmG ?_
  rintro ⟨m, P0⟩
  dsimp only [tabH, layF]
  refine r_loop (α := Nat × Nat) (fun z => [(0, .v yv), (1, .loc bx 11 0), (9, .v (.slice a L.length cap)), (10, .v (.int .i64 (L.length : Nat))), (11, .v (.int .i64 (z.1 : Nat)))]) (fun z => [.blk 0 t [.v (.map (some m))] 210, .ext 1 (MpK m (sgF L P0)), .ext 2 (StA L P0), .ext 1 (SlA 3 1 a L.length cap (idC L)), .ext 0 (J z.2), .blk 11 bx [.loc t 0 0] 117, .ext 9 (GlA o0 o1)]) (fun z => z.1 ≤ L.length ∧ z.2 ≤ stop ∧ z.2 ≤ (nxE L).length ∧ (nxE L).drop z.2 = nxE (L.drop z.1)) (fun z => L.length - z.1) (0, 0) ⟨Nat.zero_le _, Nat.zero_le _, Nat.zero_le _, rfl⟩ suG seG ?_
  rintro ⟨i, k⟩ ⟨hi, hks, hkL, hdr⟩ KL hL2
  dsimp only at hi hks hkL hdr ⊢
  by_cases hlt : i < L.length
  · obtain ⟨x, hx⟩ : ∃ x, L[i]? = some x := ⟨_, List.getElem?_eq_getElem hlt⟩
    have hmem := List.mem_of_getElem? hx
    have hg := getL_of_mem hL.srt hmem
    have hok := hL.ok x hmem
    have hid := hL.id x hmem
    rw [nxE_step hx] at hdr
    by_cases ho : x.2.st < 4
    · have hnx : x.2.next x.1 = some ⟨x.1, x.2.at_, OM.phaseOf x.2.st⟩ := by unfold OM.Sg.next OM.Sg.open_; rw [if_pos (decide_eq_true ho)]
      rw [hnx] at hdr
      obtain ⟨hxx, hd2⟩ := drop_cons hdr
      have hxk : (((nxE L).map efX).map denL)[k]? = some (denL (efX ⟨x.1, x.2.at_, OM.phaseOf x.2.st⟩)) := by
        rw [List.getElem?_map, List.getElem?_map, hxx]; rfl
      have hyk := hy k _ hxk hks
      have hkl : k < (nxE L).length := (List.getElem?_eq_some_iff.1 hxx).1
      by_cases hlt2 : k < stop
      · rw [decide_eq_true hlt2] at hyk
        repeat' (first
 | with_reducible ((first | refine r_seq (fun KS hS => ?_) | (refine hS _ _ ?_; clear hS KS) | (refine hA _ ?_; clear hA KA) | (refine hB _ ?_; clear hB KB) | refine r_block ?_))
 | ((with_reducible (first | refine r_region ?_ | refine r_cond (fun KA hA KB hB => ?_) | refine r_skip ?_ | refine And.intro rfl ?_ | intro b)); conv => whnf)
 | ((with_reducible refine WrapK.i64 ?_ ?_); (focus omega); conv => whnf)
 | ((with_reducible refine OpK.id ?_); (first | refine OpK.idx (k := 1) rfl rfl rfl rfl rfl rfl rfl (Sees.ext atG) (by omega) (by omega) (id_at hx) (fun bq off hp => ?_) | refine OpK.ldp rfl rfl hp (List.cons_ne_nil _ _) ?_ | refine OpK.re (s := .agg (sgc x.2 (P0 x.1).1 (P0 x.1).2)) (OpK.lkS rfl rfl rfl rfl rfl rfl rfl atG (sgF_get hg) ⟨rfl, rfl⟩) ?_); conv => whnf)
 | ((with_reducible refine CallK.at 25 ?_); refine CallK.puW (fun ms w' hk => next1025 hok ho (KO.gl hko atG hk) (Sees.rd (StA.sees atG (getL_mem hg)) hk)) ?_; conv => whnf)
 | ((with_reducible refine CallV.id ?_); refine CallV.yb (b := true) atG hyk ?_; conv => whnf)
 | (refine hL2 (i + 1, k + 1) _ _ ⟨by show i + 1 ≤ _; omega, hlt2, hkl, hd2⟩ (by show L.length - (i + 1) < L.length - i; omega) suG seG)
 | (refine if_decT (by omega) ?_; conv => whnf)
 | with_reducible apply_assumption -symm -exfalso)
      · rw [decide_eq_false hlt2] at hyk
        have hmin : min (stop + 1) (((nxE L).map efX).map denL).length = k + 1 := by rw [List.length_map, List.length_map]; omega
        rw [hmin]
        repeat' (first
 | with_reducible ((first | refine r_seq (fun KS hS => ?_) | (refine hS _ _ ?_; clear hS KS) | (refine hA _ ?_; clear hA KA) | refine r_block ?_))
 | ((with_reducible (first | refine r_region ?_ | refine r_cond (fun KA hA KB hB => ?_) | refine r_ret ?_ | refine r_skip ?_ | refine And.intro rfl ?_ | intro b)); conv => whnf)
 | ((with_reducible refine OpK.id ?_); (first | refine OpK.idx (k := 1) rfl rfl rfl rfl rfl rfl rfl (Sees.ext atG) (by omega) (by omega) (id_at hx) (fun bq off hp => ?_) | refine OpK.ldp rfl rfl hp (List.cons_ne_nil _ _) ?_ | refine OpK.re (s := .agg (sgc x.2 (P0 x.1).1 (P0 x.1).2)) (OpK.lkS rfl rfl rfl rfl rfl rfl rfl atG (sgF_get hg) ⟨rfl, rfl⟩) ?_); conv => whnf)
 | ((with_reducible refine CallK.at 25 ?_); refine CallK.puW (fun ms w' hk => next1025 hok ho (KO.gl hko atG hk) (Sees.rd (StA.sees atG (getL_mem hg)) hk)) ?_; conv => whnf)
 | ((with_reducible refine CallV.id ?_); refine CallV.yb (b := false) atG hyk ?_; conv => whnf)
 | (refine if_decT (by omega) ?_; conv => whnf)
 | with_reducible apply_assumption -symm -exfalso)
        all_goals exact FinK.frL rfl (HSub.trans (HSub.app2 (A' := [.ext 0 (J (k + 1)), .blk 11 bx [.loc t 0 0] 117]) (B' := [.ext 12 (TabA t L), .ext 9 (GlA o0 o1)]) (HSub.refl _) (HSub.app2 (A' := [.ext 12 (TabA t L)]) (tab_id (i := 0) (j := 1) (k := 2) (m := m) (A := P0)) (HSub.refl _))) seG)
    · have hnx : x.2.next x.1 = none := by unfold OM.Sg.next OM.Sg.open_; rw [if_neg (by rw [decide_eq_true_eq]; exact ho)]
      rw [hnx] at hdr
      repeat' (first
 | with_reducible ((first | refine r_seq (fun KS hS => ?_) | (refine hS _ _ ?_; clear hS KS) | (refine hA _ ?_; clear hA KA) | (refine hB _ ?_; clear hB KB) | refine r_block ?_))
 | ((with_reducible (first | refine r_region ?_ | refine r_cond (fun KA hA KB hB => ?_) | refine r_skip ?_ | refine And.intro rfl ?_ | intro b)); conv => whnf)
 | ((with_reducible refine WrapK.i64 ?_ ?_); (focus omega); conv => whnf)
 | ((with_reducible refine OpK.id ?_); (first | refine OpK.idx (k := 1) rfl rfl rfl rfl rfl rfl rfl (Sees.ext atG) (by omega) (by omega) (id_at hx) (fun bq off hp => ?_) | refine OpK.ldp rfl rfl hp (List.cons_ne_nil _ _) ?_ | refine OpK.re (s := .agg (sgc x.2 (P0 x.1).1 (P0 x.1).2)) (OpK.lkS rfl rfl rfl rfl rfl rfl rfl atG (sgF_get hg) ⟨rfl, rfl⟩) ?_); conv => whnf)
 | ((with_reducible refine CallK.at 25 ?_); refine CallK.puW (fun ms w' hk => ended1025 hok ho (Sees.rd (StA.sees atG (getL_mem hg)) hk)) ?_; conv => whnf)
 | (refine hL2 (i + 1, k) _ _ ⟨by show i + 1 ≤ _; omega, hks, hkL, hdr⟩ (by show L.length - (i + 1) < L.length - i; omega) suG seG)
 | (refine if_decT (by omega) ?_; conv => whnf)
 | with_reducible apply_assumption -symm -exfalso)
  · obtain rfl : i = L.length := by omega
    have hkl : (nxE L).length ≤ k := by
      rw [List.drop_length] at hdr
      exact List.drop_eq_nil_iff.1 hdr
    have hkl2 : min (stop + 1) (((nxE L).map efX).map denL).length = k := by
      rw [List.length_map, List.length_map]; omega
    rw [hkl2]
    repeat' (first
 | with_reducible ((first | refine r_seq (fun KS hS => ?_) | (refine hS _ _ ?_; clear hS KS) | (refine hB _ ?_; clear hB KB)))
 | ((with_reducible (first | refine r_region ?_ | refine r_cond (fun KA hA KB hB => ?_) | refine r_exit ?_)); conv => whnf)
 | (refine if_decF (by omega) ?_; conv => whnf))
    all_goals exact FinK.frL rfl (HSub.trans (HSub.app2 (A' := [.ext 0 (J k), .blk 11 bx [.loc t 0 0] 117]) (B' := [.ext 12 (TabA t L), .ext 9 (GlA o0 o1)]) (HSub.refl _) (HSub.app2 (A' := [.ext 12 (TabA t L)]) (tab_id (i := 0) (j := 1) (k := 2) (m := m) (A := P0)) (HSub.refl _))) seG)
abbrev efC (e : OM.Eff) : List Value := [.int .i64 e.saga, .int .i64 e.step, .int .i64 e.phase]
theorem efC_len (e : OM.Eff) : (efC e).length = 3 := rfl
theorem nxE_len {L : SL} (h : L.length ≤ 64) : (nxE L).length ≤ 64 := Nat.le_trans (List.length_filterMap_le ..) h
theorem flat_snoc {α : Type} {g : α → List Value} {l : List α} {i : Nat} {x : α} (h : l[i]? = some x) : (l.take i).flatMap g ++ g x = (l.take (i + 1)).flatMap g := by
  rw [← take_snoc h, List.flatMap_append]; simp
theorem tnext1091 {t : Nat} {L : SL} {o0 o1 : Obj} (hko : KObj o0 o1) (hL : LOk L) (w : World) :
    FrZ Tryz.prog 91 #[pv t] w (AssL [.ext 12 (TabA t L), .ext 9 (GlA o0 o1)]) (fun z : Option Addr × Nat => .slice z.1 (nxE L).length z.2) (fun z => AssL [.ext 12 (TabA t L), .ext 9 (GlA o0 o1), .ext 1 (SlA 29 3 z.1 (nxE L).length z.2 ((nxE L).flatMap efC))]) := by
  have hlen := nxE_len hL.len
  refine enter_frZ TBok (H := [.ext 12 (TabA t L), .ext 9 (GlA o0 o1)]) all_foot Tryz.func91 rfl rfl Tryz.ntmps91 [.loc t 0 0] rfl rfl ?_
  intro S _ _
  conv => whnf
  repeat' (first
 | with_reducible ((first | refine r_seq (fun KS hS => ?_) | (refine hS _ _ ?_; clear hS KS) | refine r_block ?_))
 | ((with_reducible (first | refine r_region ?_ | refine r_ret ?_ | refine And.intro rfl ?_ | intro b)); conv => whnf)
 | (apply in1140; rfl; rfl; rfl; intro A; conv => whnf))
  rename_i bk
  refine r_rangeN (fun i => [.ext 5 (BxE 13 160 29 3 bk i (((nxE L).take i).flatMap efC))]) ((nxE L).map efX) 40 rfl ?_ (topen1194 (t := t) (bx := b) hko hL) ?_ (by decide) ?_ ?_
  · exact HSub.trans (HSub.app2 (A' := [.blk 11 b [.loc t 0 0] 117, .ext 12 (TabA t L), .ext 9 (GlA o0 o1)]) (HSub.refl _) (bx_nil (j := 13))) seG
  · intro x hx
    obtain ⟨y, _, rfl⟩ := List.mem_map.1 hx
    rfl
  · intro i x hx lp rc W' S'
    rw [List.getElem?_map, Option.map_eq_some_iff] at hx
    obtain ⟨e, hx, rfl⟩ := hx
    have hil : i < (nxE L).length := (List.getElem?_eq_some_iff.1 hx).1
    conv => whnf
    repeat' (first
 | ((with_reducible (first | refine r_region ?_ | refine And.intro rfl ?_ | intro b)); conv => whnf))
    refine AssignX.rm rmG ?_
    refine Run.ex (A := bxH 13 160 29 3 bk i (((nxE L).take i).flatMap efC)) (i := 5) rmG ?_
    rintro ⟨a, cap⟩
    dsimp only [bxH, layF]
    repeat' (first
 | with_reducible refine r_block ?_
 | ((with_reducible (first | refine r_region ?_ | refine And.intro rfl ?_ | intro b)); conv => whnf)
 | ((with_reducible refine OpK.id ?_); refine OpK.app (k := 3) rfl rfl rfl rfl rfl rfl rfl rfl atG (SrcK.slc rfl rfl lmG (Nat.le_refl _) rfl) (big_ok (by omega) (by decide)) (fun a' cap' => ?_); conv => whnf))
    rw [← flat_snoc (g := efC) hx]
    exact ⟨rfl, HSub.trans (HSub.app2 (A' := [.ext 40 _]) (HSub.refl _) (bx_id (i := 3) (j := 13) (a := a') (cap := cap'))) seG⟩
  · conv => whnf
    refine hS _ _ ?_
    clear hS KS
    dsimp only [List.cons_append, List.nil_append]
    refine Run.ex (A := bxH 13 160 29 3 bk ((nxE L).map efX).length (((nxE L).take ((nxE L).map efX).length).flatMap efC)) (i := 5) rmG ?_
    rintro ⟨a, cap⟩
    dsimp only [bxH, layF]
    have htk : (nxE L).take ((nxE L).map efX).length = nxE L := List.take_of_length_le (by rw [List.length_map]; exact Nat.le_refl _)
    rw [htk, List.length_map]
    repeat' (first
 | with_reducible ((first | refine r_seq (fun KS hS => ?_) | (refine hS _ _ ?_; clear hS KS)))
 | ((with_reducible (first | refine r_region ?_ | refine r_ret ?_ | refine And.intro rfl ?_)); conv => whnf))
    exact FinK.frZL (a, cap) rfl seG
abbrev nxI (L : SL) : List Value := (nxE L).map fun e => .int .i64 e.saga
theorem topenL1132 {t : Nat} {L : SL} {o0 o1 : Obj} (hko : KObj o0 o1) (hL : LOk L) (w : World) :
    FrZ Tryz.prog 132 #[pv t] w (AssL [.ext 12 (TabA t L), .ext 9 (GlA o0 o1)]) (fun z : Option Addr × Nat => .slice z.1 (nxE L).length z.2) (fun z => AssL [.ext 12 (TabA t L), .ext 9 (GlA o0 o1), .ext 1 (SlA 3 1 z.1 (nxE L).length z.2 (nxI L))]) := by
  have hlen := nxE_len hL.len
  refine enter_frZ TBok (H := [.ext 12 (TabA t L), .ext 9 (GlA o0 o1)]) all_foot Tryz.func132 rfl rfl Tryz.ntmps132 [.loc t 0 0] rfl rfl ?_
  intro S _ _
  conv => whnf
  repeat' (first
 | with_reducible ((first | refine r_seq (fun KS hS => ?_) | (refine hS _ _ ?_; clear hS KS) | refine r_block ?_))
 | ((with_reducible (first | refine r_region ?_ | refine r_ret ?_ | refine And.intro rfl ?_ | intro b)); conv => whnf)
 | (apply in1140; rfl; rfl; rfl; intro A; conv => whnf))
  rename_i bk
  refine r_rangeN (fun i => [.ext 5 (BxE 13 70 3 1 bk i ((nxI L).take i))]) ((nxE L).map efX) 40 rfl ?_ (topen1194 (t := t) (bx := b) hko hL) ?_ (by decide) ?_ ?_
  · exact HSub.trans (HSub.app2 (A' := [.blk 11 b [.loc t 0 0] 117, .ext 12 (TabA t L), .ext 9 (GlA o0 o1)]) (HSub.refl _) (bx_nil (j := 13))) seG
  · intro x hx
    obtain ⟨y, _, rfl⟩ := List.mem_map.1 hx
    rfl
  · intro i x hx lp rc W' S'
    rw [List.getElem?_map, Option.map_eq_some_iff] at hx
    obtain ⟨e, hx, rfl⟩ := hx
    have hil : i < (nxE L).length := (List.getElem?_eq_some_iff.1 hx).1
    have hi : (nxI L)[i]? = some (.int .i64 e.saga) := by rw [List.getElem?_map, hx]; rfl
    conv => whnf
    repeat' (first
 | ((with_reducible refine r_region ?_); conv => whnf))
    refine AssignX.rm rmG ?_
    refine Run.ex (A := bxH 13 70 3 1 bk i ((nxI L).take i)) (i := 5) rmG ?_
    rintro ⟨a, cap⟩
    dsimp only [bxH, layF]
    repeat' (first
 | with_reducible refine r_block ?_
 | ((with_reducible (first | refine r_region ?_ | refine And.intro rfl ?_ | intro b)); conv => whnf)
 | ((with_reducible refine OpK.id ?_); refine OpK.app (k := 1) rfl rfl rfl rfl rfl rfl rfl rfl atG (SrcK.slc rfl rfl lmG (Nat.le_refl _) rfl) (big_ok (by omega) (by decide)) (fun a' cap' => ?_); conv => whnf))
    rw [← take_snoc hi]
    exact ⟨rfl, HSub.trans (HSub.app2 (A' := [.ext 40 _]) (HSub.refl _) (bx_id (i := 3) (j := 13) (a := a') (cap := cap'))) seG⟩
  · conv => whnf
    refine hS _ _ ?_
    clear hS KS
    dsimp only [List.cons_append, List.nil_append]
    refine Run.ex (A := bxH 13 70 3 1 bk ((nxE L).map efX).length ((nxI L).take ((nxE L).map efX).length)) (i := 5) rmG ?_
    rintro ⟨a, cap⟩
    dsimp only [bxH, layF]
    have htk : (nxI L).take ((nxE L).map efX).length = nxI L := List.take_of_length_le (by rw [List.length_map, List.length_map]; exact Nat.le_refl _)
    rw [htk, List.length_map]
    repeat' (first
 | with_reducible ((first | refine r_seq (fun KS hS => ?_) | (refine hS _ _ ?_; clear hS KS)))
 | ((with_reducible (first | refine r_region ?_ | refine r_ret ?_ | refine And.intro rfl ?_)); conv => whnf))
    exact FinK.frZL (a, cap) rfl seG
theorem tmade1122 {t : Nat} {L : SL} (w : World) : Fr Tryz.prog 122 #[pv t] w (AssL [.ext 0 (TabA t L)]) (.int .i64 0) (AssL [.ext 0 (TabA t L)]) := by
  refine enter_fr TBok (H := [.ext 0 (TabA t L)]) all_foot Tryz.func122 rfl rfl Tryz.ntmps122 [.loc t 0 0] rfl rfl ?_
  intro S
  conv => whnf
  refine Run.ex (A := tabH t L) (i := 0) .head ?_
  rintro ⟨m, P0⟩
  dsimp only [tabH, layF]
  repeat' (first
 | with_reducible ((first | refine r_seq (fun KS hS => ?_) | (refine hS _ _ ?_; clear hS KS) | (refine hB _ ?_; clear hB KB)))
 | ((with_reducible (first | refine r_region ?_ | refine r_cond (fun KA hA KB hB => ?_) | refine r_ret ?_ | refine r_skip ?_ | refine And.intro rfl ?_)); conv => whnf)
 | ((with_reducible apply OpK.more); (focus refine sok); (conv => whnf); fail_if_success guard_target =ₛ False)
 | with_reducible apply_assumption -symm -exfalso)
  exact FinK.frL rfl (HSub.trans (tab_id (i := 0) (j := 1) (k := 2) (m := m) (A := P0)) seG)
theorem tquiet1073 {t : Nat} {L : SL} {o0 o1 : Obj} (hko : KObj o0 o1) (hL : LOk L) (w : World) :
    Fr Tryz.prog 73 #[pv t] w (AssL [.ext 12 (TabA t L), .ext 9 (GlA o0 o1)]) (.bool (decide (((nxE L).length : Int) = 0))) (AssL [.ext 12 (TabA t L), .ext 9 (GlA o0 o1)]) := by
  refine enter_fr TBok (H := [.ext 12 (TabA t L), .ext 9 (GlA o0 o1)]) all_foot Tryz.func73 rfl rfl Tryz.ntmps73 [.loc t 0 0] rfl rfl ?_
  intro S
  conv => whnf
  repeat' (first
 | with_reducible ((first | refine r_seq (fun KS hS => ?_) | (refine hS _ _ ?_; clear hS KS)))
 | ((with_reducible (first | refine r_region ?_ | refine r_ret ?_ | intro b)); conv => whnf)
 | ((with_reducible refine CallK.id ?_); (first | refine CallK.s1V rmG (fun ms w hk => tmade1122 w) ?_ | refine CallK.s2 rmG rmG (fun ms w hk => topenL1132 hko hL w) ?_); conv => whnf))
  exact FinK.frL rfl seG
theorem hasPt1175 {p : OM.Pt} {key : ByteArray} {q : Nat} {w : World} (hr : p.r.ok = true) (hk : key.size ≤ 1099511627776) (h : OldC w q 0 [.v (.string key)]) :
    Pu Tryz.prog 175 #[.agg (ptC p).toArray, pv q] w (.bool (p.r.has key)) := by
  refine enter_sound TBok Tryz.func175 rfl rfl Tryz.ntmps175 [.agg (ptc p), .v (pv q)] (Kn.start w noS) rfl rfl ?_
  conv => whnf
  repeat' (first
 | with_reducible ((first | refine r_seq (fun KS hS => ?_) | (refine hS _ _ ?_; clear hS KS)))
 | ((with_reducible (first | refine r_region ?_ | refine r_ret ?_ | refine And.intro rfl ?_ | intro b)); conv => whnf)
 | ((with_reducible refine OpK.id ?_); refine OpK.ldp rfl rfl (h.pc id) (List.cons_ne_nil _ _) ?_; conv => whnf)
 | ((with_reducible refine CallK.at 23 ?_); refine CallK.pu (fun w => has1023 hr (rsz hr).lo (rsz hr).hi hk w) ?_; conv => whnf))
  exact FinK.pu rfl
theorem idx1174 {l : List OM.Pt} {a : Option Addr} {cap q j : Nat} {key : ByteArray} {w : World} (hr : RdS w 193 4 a l.length cap (l.flatMap ptC)) (hq : OldC w q 0 [.v (.string key)]) (hok : ∀ p ∈ l, p.r.ok = true) (hk : key.size ≤ 1099511627776) (hj : l.findIdx (fun p => p.r.has key) = j) (hjl : j < l.length) (hl : l.length ≤ 1000) :
    Pu Tryz.prog 174 #[.slice a l.length cap, .func (.func 175) #[] #[pv q]] w (.int .i64 (j : Nat)) := by
  have hs := fun n' r H => Sees.old (c := ⟨Tryz.prog, TB, n', w, noS, r, TBok⟩) (H := H) hr.old
  refine enter_sound TBok Tryz.func174 rfl rfl Tryz.ntmps174 [.v (.slice a l.length cap), .fn 175 [.v (pv q)]] (Kn.start w noS) rfl rfl ?_
  conv => whnf
  repeat' (first
 | with_reducible ((first | refine r_seq (fun KS hS => ?_) | (refine hS _ _ ?_; clear hS KS) | refine r_block ?_))
 | ((with_reducible refine r_region ?_); conv => whnf))
  refine r_loop (α := Nat) (fun i => [(0, .v (.slice a l.length cap)), (1, .fn 175 [.v (pv q)]), (7, .v (.int .i64 (l.length : Nat))), (8, .v (.int .i64 (i : Nat)))]) (fun _ => []) (fun i => i ≤ j) (fun i => l.length - i) 0 (Nat.zero_le _) suG (HSub.none _) ?_
  intro i hi KL hL
  obtain ⟨y, hy⟩ : ∃ y, l[i]? = some y := ⟨_, List.getElem?_eq_getElem (by omega)⟩
  have hyo := hok y (List.mem_of_getElem? hy)
  have hyi : l[i] = y := (List.getElem?_eq_some_iff.1 hy).2
  have hcl1175 := fun w h => hasPt1175 (p := y) (key := key) (q := q) (w := w) hyo hk h
  by_cases hlt : i < j
  · have hno : y.r.has key = false := by
      have := List.not_of_lt_findIdx (p := fun p : OM.Pt => p.r.has key) (xs := l) (i := i) (by omega)
      rw [hyi] at this
      simpa using this
    rw [hno] at hcl1175
    repeat' (first
 | with_reducible ((first | refine r_seq (fun KS hS => ?_) | (refine hS _ _ ?_; clear hS KS) | (refine hA _ ?_; clear hA KA) | (refine hB _ ?_; clear hB KB) | refine r_block ?_))
 | ((with_reducible (first | refine r_region ?_ | refine r_cond (fun KA hA KB hB => ?_) | refine r_skip ?_)); conv => whnf)
 | ((with_reducible refine WrapK.i64 ?_ ?_); (focus omega); conv => whnf)
 | ((with_reducible refine OpK.id ?_); (first | refine OpK.idx (k := 4) rfl rfl rfl rfl rfl rfl rfl (hs _ _ _) (by omega) (by omega) (pt_at hy) (fun b off hp => ?_) | refine OpK.ldp rfl rfl hp (List.cons_ne_nil _ _) ?_); conv => whnf)
 | ((with_reducible refine CallK.at 175 ?_); refine CallK.puW (fun ms w hk => hcl1175 w (PC.oldC (hq.pc id) hk)) ?_; conv => whnf)
 | (refine hL (i + 1) _ _ (by show i + 1 ≤ _; omega) (by show l.length - (i + 1) < l.length - i; omega) suG (HSub.none _))
 | (refine if_decT (by omega) ?_; conv => whnf)
 | with_reducible apply_assumption -symm -exfalso)
  · obtain rfl : i = j := by omega
    have hyes : y.r.has key = true := by
      have := List.findIdx_getElem (p := fun p : OM.Pt => p.r.has key) (xs := l) (w := by omega)
      simp only [hj] at this
      rw [hyi] at this
      exact this
    rw [hyes] at hcl1175
    repeat' (first
 | with_reducible ((first | refine r_seq (fun KS hS => ?_) | (refine hS _ _ ?_; clear hS KS) | (refine hA _ ?_; clear hA KA) | refine r_block ?_))
 | ((with_reducible (first | refine r_region ?_ | refine r_cond (fun KA hA KB hB => ?_) | refine r_ret ?_ | refine r_skip ?_)); conv => whnf)
 | ((with_reducible refine OpK.id ?_); (first | refine OpK.idx (k := 4) rfl rfl rfl rfl rfl rfl rfl (hs _ _ _) (by omega) (by omega) (pt_at hy) (fun b off hp => ?_) | refine OpK.ldp rfl rfl hp (List.cons_ne_nil _ _) ?_); conv => whnf)
 | ((with_reducible refine CallK.at 175 ?_); refine CallK.puW (fun ms w hk => hcl1175 w (PC.oldC (hq.pc id) hk)) ?_; conv => whnf)
 | (refine if_decT (by omega) ?_; conv => whnf)
 | with_reducible apply_assumption -symm -exfalso)
    exact FinK.pu rfl
theorem in1114 : InSt 114 Tryz.f114 28 := InSt.mk' Tryz.func114 rfl Tryz.ntmps114
theorem in1121 : InSt 121 Tryz.f121 13 := InSt.mk' Tryz.func121 rfl Tryz.ntmps121
theorem in1131 : InSt 131 Tryz.f131 9 := InSt.mk' Tryz.func131 rfl Tryz.ntmps131
theorem in1153 : InSt 153 Tryz.f153 6 := InSt.mk' Tryz.func153 rfl Tryz.ntmps153
theorem group1057 {t : Nat} {l : List OM.Pt} {key : ByteArray} {p : OM.Pt} (hk : OM.nmOk key = true) (hok : ∀ p ∈ l, p.r.ok = true) (hp : l.find? (fun p => p.r.has key) = some p) (hl : l.length ≤ 1000) (w : World) :
    Fr Tryz.prog 57 #[pv t, .string key] w (AssL [.ext 0 (PtsA t l)]) (.tuple #[.int .i64 p.group, .int .i64 0]) (AssL [.ext 0 (PtsA t l)]) := by
  obtain ⟨j, hj⟩ : ∃ j, l.findIdx (fun p => p.r.has key) = j := ⟨_, rfl⟩
  have hjl : j < l.length := by
    rw [← hj, List.findIdx_lt_length]
    exact ⟨p, List.mem_of_find?_eq_some hp, List.find?_some (p := fun p : OM.Pt => p.r.has key) hp⟩
  have hpj : l[j]? = some p := by
    rw [← hj]
    have := List.find?_eq_some_iff_getElem.1 hp
    obtain ⟨h1, i, hi, h2, h3⟩ := this
    have : l.findIdx (fun p => p.r.has key) = i := by
      rw [List.findIdx_eq hi]
      exact ⟨by rw [h2]; exact h1, fun j hji => by simpa using h3 j hji⟩
    rw [this, List.getElem?_eq_getElem hi, h2]
  have hsz : key.size ≤ 1099511627776 := by have := sz_nm hk; omega
  have hnm1059 := fun w => name1059 hsz w
  rw [hk] at hnm1059
  refine enter_fr TBok (H := [.ext 0 (PtsA t l)]) all_foot Tryz.func57 rfl rfl Tryz.ntmps57 [.loc t 0 0, .v (.string key)] rfl rfl ?_
  intro S
  conv => whnf
  refine Run.ex (A := ptsH t l) (i := 0) .head ?_
  rintro ⟨a, cap⟩
  dsimp only [ptsH, layF]
  repeat' (first
 | with_reducible ((first | refine r_seq (fun KS hS => ?_) | (refine hS _ _ ?_; clear hS KS) | (refine hB _ ?_; clear hB KB)))
 | ((with_reducible (first | refine r_region ?_ | refine r_cond (fun KA hA KB hB => ?_) | refine r_ret ?_ | refine r_skip ?_ | refine And.intro rfl ?_ | intro b)); conv => whnf)
 | ((with_reducible refine CallK.id ?_); (first | apply in1114 | apply in1121); rfl; rfl; rfl; intro A; conv => whnf)
 | ((with_reducible refine CallK.at 59 ?_); refine CallK.pu (fun w => hnm1059 w) ?_; conv => whnf)
 | ((with_reducible refine CallK.at 174 ?_); refine CallK.puW (fun ms w hk => idx1174 (Sees.rd (Sees.ext atG) hk) (OldC.of_got (hk.got lmG) rfl) hok hsz hj hjl hl) ?_; conv => whnf)
 | ((with_reducible refine OpK.id ?_); (first | refine OpK.idx (k := 4) rfl rfl rfl rfl rfl rfl rfl (Sees.ext atG) (by omega) (by omega) (pt_at hpj) (fun bq off hp => ?_) | refine OpK.ldp rfl rfl hp (List.cons_ne_nil _ _) ?_); conv => whnf)
 | ((with_reducible apply OpK.more); (focus refine sok); (conv => whnf); fail_if_success guard_target =ₛ False)
 | (refine if_ndecF (by omega) ?_; conv => whnf)
 | with_reducible apply_assumption -symm -exfalso)
  exact FinK.frL rfl (HSub.trans (pts_id (i := 0) (j := 1) (t := t) (l := l) (a := a) (cap := cap) rfl) seG)
def tcF (r : OM.Rg) : Nat → List OM.Pt → List (Nat × OM.Pt)
  | _, [] => []
  | i, p :: l => if OM.meets p.r r then (i, p) :: tcF r (i + 1) l else tcF r (i + 1) l
theorem tcF_step {r : OM.Rg} {l : List OM.Pt} {i : Nat} {p : OM.Pt} (h : l[i]? = some p) : tcF r i (l.drop i) = if OM.meets p.r r then (i, p) :: tcF r (i + 1) (l.drop (i + 1)) else tcF r (i + 1) (l.drop (i + 1)) := by
  have hi : i < l.length := (List.getElem?_eq_some_iff.1 h).1
  have hm : l[i] = p := (List.getElem?_eq_some_iff.1 h).2
  rw [List.drop_eq_getElem_cons hi, hm, tcF]
abbrev ptX (x : Nat × OM.Pt) : List SV := [.v (.int .i64 (x.1 : Nat)), .agg (ptc x.2)]
theorem touch1201 {t bx br : Nat} {l : List OM.Pt} {r : OM.Rg} (hl : l.length ≤ 1000) (hok : ∀ p ∈ l, p.r.ok = true) (hr : r.ok = true) : ItX Tryz.prog 201 (denL [.loc bx 11 0, .loc br 13 0]) [.blk 11 bx [.loc t 0 0] 119, .blk 13 br [.v (.string r.lo), .v (.string r.hi)] 37, .ext 12 (PtsA t l)] [.blk 11 bx [.loc t 0 0] 119, .blk 13 br [.v (.string r.lo), .v (.string r.hi)] 37, .ext 12 (PtsA t l)] (((tcF r 0 l).map ptX).map denL) := by
  intro stop J yv hy w
  refine enter_fr TBok (H := .ext 0 (J 0) :: [.blk 11 bx [.loc t 0 0] 119, .blk 13 br [.v (.string r.lo), .v (.string r.hi)] 37, .ext 12 (PtsA t l)]) all_foot Tryz.func201 rfl rfl Tryz.ntmps201 [.v yv, .loc bx 11 0, .loc br 13 0] rfl rfl ?_
  intro S
  conv => whnf
  refine Run.ex (A := ptsH t l) (i := 12) (.tail (.tail (.tail .head))) ?_
  rintro ⟨a, cap⟩
  dsimp only [ptsH, layF]
  repeat' (first
 | with_reducible ((first | refine r_seq (fun KS hS => ?_) | (refine hS _ _ ?_; clear hS KS) | refine r_block ?_))
 | ((with_reducible (first | refine r_region ?_ | refine And.intro rfl ?_)); conv => whnf))
  refine r_loop (α := Nat × Nat) (fun z => [(0, .v yv), (1, .loc bx 11 0), (2, .loc br 13 0), (12, .v (.slice a l.length cap)), (13, .v (.int .i64 (l.length : Nat))), (14, .v (.int .i64 (z.1 : Nat)))]) (fun z => [.blk 0 t [.v (.slice a l.length cap)] 202, .ext 1 (SlA 193 4 a l.length cap (l.flatMap ptC)), .ext 0 (J z.2), .blk 11 bx [.loc t 0 0] 119, .blk 13 br [.v (.string r.lo), .v (.string r.hi)] 37]) (fun z => z.1 ≤ l.length ∧ z.2 ≤ stop ∧ z.2 ≤ (tcF r 0 l).length ∧ (tcF r 0 l).drop z.2 = tcF r z.1 (l.drop z.1)) (fun z => l.length - z.1) (0, 0) ⟨Nat.zero_le _, Nat.zero_le _, Nat.zero_le _, rfl⟩ suG seG ?_
  rintro ⟨i, k⟩ ⟨hi, hks, hkL, hdr⟩ KL hL
  dsimp only at hi hks hkL hdr ⊢
  by_cases hlt : i < l.length
  · obtain ⟨p, hp⟩ : ∃ p, l[i]? = some p := ⟨_, List.getElem?_eq_getElem hlt⟩
    have hpo := hok p (List.mem_of_getElem? hp)
    have hmeet1101 := fun w => meet1101 hpo hr (rsz hpo) (rsz hr) w
    rw [tcF_step hp] at hdr
    by_cases hm : OM.meets p.r r = true
    · rw [if_pos hm] at hdr
      rw [hm] at hmeet1101
      simp only [if_true] at hmeet1101
      obtain ⟨hx, hd2⟩ := drop_cons hdr
      have hxk : (((tcF r 0 l).map ptX).map denL)[k]? = some (denL (ptX (i, p))) := by
        rw [List.getElem?_map, List.getElem?_map, hx]; rfl
      have hyk := hy k _ hxk hks
      have hkl : k < (tcF r 0 l).length := (List.getElem?_eq_some_iff.1 hx).1
      by_cases hlt2 : k < stop
      · rw [decide_eq_true hlt2] at hyk
        repeat' (first
 | with_reducible ((first | refine r_seq (fun KS hS => ?_) | (refine hS _ _ ?_; clear hS KS) | (refine hA _ ?_; clear hA KA) | (refine hB _ ?_; clear hB KB) | refine r_block ?_))
 | ((with_reducible (first | refine r_region ?_ | refine r_cond (fun KA hA KB hB => ?_) | refine r_skip ?_ | refine And.intro rfl ?_ | intro b)); conv => whnf)
 | ((with_reducible refine WrapK.i64 ?_ ?_); (focus omega); conv => whnf)
 | ((with_reducible refine OpK.id ?_); (first | refine OpK.idx (k := 4) rfl rfl rfl rfl rfl rfl rfl (Sees.ext atG) (by omega) (by omega) (pt_at hp) (fun bq off hp => ?_) | refine OpK.ldp rfl rfl hp (List.cons_ne_nil _ _) ?_); conv => whnf)
 | ((with_reducible refine CallK.at 101 ?_); refine CallK.pu (fun w => hmeet1101 w) ?_; conv => whnf)
 | ((with_reducible refine CallV.id ?_); refine CallV.yb (b := true) atG hyk ?_; conv => whnf)
 | (refine hL (i + 1, k + 1) _ _ ⟨by show i + 1 ≤ _; omega, hlt2, hkl, hd2⟩ (by show l.length - (i + 1) < l.length - i; omega) suG seG)
 | (refine if_decT (by omega) ?_; conv => whnf)
 | with_reducible apply_assumption -symm -exfalso)
      · rw [decide_eq_false hlt2] at hyk
        have hmin : min (stop + 1) (((tcF r 0 l).map ptX).map denL).length = k + 1 := by rw [List.length_map, List.length_map]; omega
        rw [hmin]
        repeat' (first
 | with_reducible ((first | refine r_seq (fun KS hS => ?_) | (refine hS _ _ ?_; clear hS KS) | (refine hA _ ?_; clear hA KA) | refine r_block ?_))
 | ((with_reducible (first | refine r_region ?_ | refine r_cond (fun KA hA KB hB => ?_) | refine r_ret ?_ | refine r_skip ?_ | refine And.intro rfl ?_ | intro b)); conv => whnf)
 | ((with_reducible refine OpK.id ?_); (first | refine OpK.idx (k := 4) rfl rfl rfl rfl rfl rfl rfl (Sees.ext atG) (by omega) (by omega) (pt_at hp) (fun bq off hp => ?_) | refine OpK.ldp rfl rfl hp (List.cons_ne_nil _ _) ?_); conv => whnf)
 | ((with_reducible refine CallK.at 101 ?_); refine CallK.pu (fun w => hmeet1101 w) ?_; conv => whnf)
 | ((with_reducible refine CallV.id ?_); refine CallV.yb (b := false) atG hyk ?_; conv => whnf)
 | (refine if_decT (by omega) ?_; conv => whnf)
 | with_reducible apply_assumption -symm -exfalso)
        all_goals exact FinK.frL rfl (HSub.trans (HSub.app2 (A' := [.ext 0 (J (k + 1)), .blk 11 bx [.loc t 0 0] 119, .blk 13 br [.v (.string r.lo), .v (.string r.hi)] 37]) (B' := [.ext 12 (PtsA t l)]) (HSub.refl _) (pts_id (i := 0) (j := 1) (t := t) (l := l) (a := a) (cap := cap) rfl)) seG)
    · have hm : OM.meets p.r r = false := by simpa using hm
      rw [if_neg (by rw [hm]; simp)] at hdr
      rw [hm] at hmeet1101
      simp only [Bool.false_eq_true, if_false] at hmeet1101
      repeat' (first
 | with_reducible ((first | refine r_seq (fun KS hS => ?_) | (refine hS _ _ ?_; clear hS KS) | (refine hA _ ?_; clear hA KA) | (refine hB _ ?_; clear hB KB) | refine r_block ?_))
 | ((with_reducible (first | refine r_region ?_ | refine r_cond (fun KA hA KB hB => ?_) | refine r_skip ?_ | refine And.intro rfl ?_ | intro b)); conv => whnf)
 | ((with_reducible refine WrapK.i64 ?_ ?_); (focus omega); conv => whnf)
 | ((with_reducible refine OpK.id ?_); (first | refine OpK.idx (k := 4) rfl rfl rfl rfl rfl rfl rfl (Sees.ext atG) (by omega) (by omega) (pt_at hp) (fun bq off hp => ?_) | refine OpK.ldp rfl rfl hp (List.cons_ne_nil _ _) ?_); conv => whnf)
 | ((with_reducible refine CallK.at 101 ?_); refine CallK.pu (fun w => hmeet1101 w) ?_; conv => whnf)
 | (refine hL (i + 1, k) _ _ ⟨by show i + 1 ≤ _; omega, hks, hkL, hdr⟩ (by show l.length - (i + 1) < l.length - i; omega) suG seG)
 | (refine if_decT (by omega) ?_; conv => whnf)
 | with_reducible apply_assumption -symm -exfalso)
  · obtain rfl : i = l.length := by omega
    have hkl : (tcF r 0 l).length ≤ k := by
      rw [List.drop_length] at hdr
      exact List.drop_eq_nil_iff.1 hdr
    have hkl2 : min (stop + 1) (((tcF r 0 l).map ptX).map denL).length = k := by
      rw [List.length_map, List.length_map]; omega
    rw [hkl2]
    repeat' (first
 | with_reducible ((first | refine r_seq (fun KS hS => ?_) | (refine hS _ _ ?_; clear hS KS) | (refine hB _ ?_; clear hB KB)))
 | ((with_reducible (first | refine r_region ?_ | refine r_cond (fun KA hA KB hB => ?_) | refine r_exit ?_)); conv => whnf)
 | (refine if_decF (by omega) ?_; conv => whnf))
    all_goals exact FinK.frL rfl (HSub.trans (HSub.app2 (A' := [.ext 0 (J k), .blk 11 bx [.loc t 0 0] 119, .blk 13 br [.v (.string r.lo), .v (.string r.hi)] 37]) (B' := [.ext 12 (PtsA t l)]) (HSub.refl _) (pts_id (i := 0) (j := 1) (t := t) (l := l) (a := a) (cap := cap) rfl)) seG)
def owF (T : List (Nat × OM.Pt)) (own : Int) : Nat → Int
  | 0 => own
  | i + 1 => match T[i]? with | some x => x.2.group | none => own
def okAt (T : List (Nat × OM.Pt)) (own : Int) (i : Nat) : Prop := ∀ x, T[i]? = some x → ¬ (owF T own i ≠ 0 ∧ x.2.group ≠ owF T own i)
theorem owF_cons {T : List (Nat × OM.Pt)} {own : Int} {y : Nat × OM.Pt} {i : Nat} (h : i < T.length + 1) : owF (y :: T) own (i + 1) = owF T y.2.group i := by
  cases i with
  | zero => rfl
  | succ i =>
    show (match (y :: T)[i + 1]? with | some x => x.2.group | none => own) = (match T[i]? with | some x => x.2.group | none => y.2.group)
    rw [List.getElem?_cons_succ]
    have : i < T.length := by omega
    rw [List.getElem?_eq_getElem this]
theorem ownT_ok {r : OM.Rg} : ∀ {l : List OM.Pt} {own : Int} {k : Nat}, (∀ i, i < (tcF r k l).length → okAt (tcF r k l) own i) → OM.ownerF r own l = some (owF (tcF r k l) own (tcF r k l).length)
  | [], own, k, _ => rfl
  | p :: l, own, k, h => by
    unfold OM.ownerF tcF at *
    by_cases hm : OM.meets p.r r = true
    · simp only [hm, if_true] at h ⊢
      have h0 : ¬ (own ≠ 0 ∧ p.group ≠ own) := h 0 (by simp) _ rfl
      rw [if_neg h0, ownT_ok (k := k + 1) (fun i hi x hx => ?_)]
      · rw [List.length_cons, owF_cons (by omega)]
      · have := h (i + 1) (by rw [List.length_cons]; omega) x (by rw [List.getElem?_cons_succ]; exact hx)
        rwa [owF_cons (by omega)] at this
    · have hm : OM.meets p.r r = false := by simpa using hm
      simp only [hm, Bool.false_eq_true, if_false] at h ⊢
      exact ownT_ok h
theorem ownT_bad {r : OM.Rg} : ∀ {l : List OM.Pt} {own : Int} {k s : Nat} {x : Nat × OM.Pt}, (tcF r k l)[s]? = some x → (owF (tcF r k l) own s ≠ 0 ∧ x.2.group ≠ owF (tcF r k l) own s) → OM.ownerF r own l = none
  | [], _, _, _, _, h, _ => by simp [tcF] at h
  | p :: l, own, k, s, x, h, hb => by
    unfold OM.ownerF tcF at *
    by_cases hm : OM.meets p.r r = true
    · simp only [hm, if_true] at h hb ⊢
      by_cases h0 : own ≠ 0 ∧ p.group ≠ own
      · rw [if_pos h0]
      · rw [if_neg h0]
        cases s with
        | zero =>
          have : (k, p) = x := by simpa using h
          subst this
          exact absurd hb h0
        | succ s =>
          have hx : (tcF r (k + 1) l)[s]? = some x := by simpa using h
          have hs : s < (tcF r (k + 1) l).length := (List.getElem?_eq_some_iff.1 hx).1
          rw [owF_cons (by omega)] at hb
          exact ownT_bad hx hb
    · have hm : OM.meets p.r r = false := by simpa using hm
      simp only [hm, Bool.false_eq_true, if_false] at h hb ⊢
      exact ownT_bad h hb
theorem own_stop (T : List (Nat × OM.Pt)) : ∃ s, s ≤ T.length ∧ (∀ i, i < s → okAt T 0 i) ∧ (s < T.length → ∃ x, T[s]? = some x ∧ (owF T 0 s ≠ 0 ∧ x.2.group ≠ owF T 0 s)) := by
  have main : ∀ n, (∀ i, i < n → okAt T 0 i) ∨ ∃ s, s < n ∧ (∀ i, i < s → okAt T 0 i) ∧ ∃ x, T[s]? = some x ∧ (owF T 0 s ≠ 0 ∧ x.2.group ≠ owF T 0 s) := by
    intro n
    induction n with
    | zero => exact .inl fun i h => absurd h (Nat.not_lt_zero _)
    | succ n ih =>
      rcases ih with ih | ⟨s, h1, h2⟩
      · by_cases h : okAt T 0 n
        · exact .inl fun i hi => (Nat.lt_succ_iff_lt_or_eq.1 hi).elim (ih i) (fun e => e ▸ h)
        · right
          unfold okAt at h
          simp only [Classical.not_forall, Classical.not_not] at h
          obtain ⟨x, hx, hb⟩ := h
          exact ⟨n, Nat.lt_succ_self _, ih, x, hx, hb⟩
      · exact .inr ⟨s, by omega, h2⟩
  rcases main T.length with h | ⟨s, h1, h2, h3⟩
  · exact ⟨T.length, Nat.le_refl _, h, fun h => absurd h (Nat.lt_irrefl _)⟩
  · exact ⟨s, by omega, h2, fun _ => h3⟩
def ownV : Option Int → Value
  | none => .tuple #[.int .i64 0, .bool false, .int .i64 0]
  | some g => .tuple #[.int .i64 g, .bool (decide (0 < g)), .int .i64 0]
theorem owner1099 {t : Nat} {l : List OM.Pt} {r : OM.Rg} (h0 : 0 < l.length) (hl : l.length ≤ 1000) (hok : ∀ p ∈ l, p.r.ok = true) (hr : r.ok = true) (w : World) :
    Fr Tryz.prog 99 #[pv t, .agg #[.string r.lo, .string r.hi]] w (AssL [.ext 12 (PtsA t l)]) (ownV (OM.ownerF r 0 l)) (AssL [.ext 12 (PtsA t l)]) := by
  have hc1115 : ∀ w, Pu Tryz.prog 115 #[.agg #[.string r.lo, .string r.hi]] w (.int .i64 0) := fun w => chk1115 (rsz hr) (by rw [if_pos hr]) w
  obtain ⟨s, hs1, hs2, hs3⟩ := own_stop (tcF r 0 l)
  refine enter_fr TBok (H := [.ext 12 (PtsA t l)]) all_foot Tryz.func99 rfl rfl Tryz.ntmps99 [.loc t 0 0, .agg [.v (.string r.lo), .v (.string r.hi)]] rfl rfl ?_
  intro S
  conv => whnf
  refine Run.ex (A := ptsH t l) (i := 12) .head ?_
  rintro ⟨a, cap⟩
  dsimp only [ptsH, layF]
  repeat' (first
 | with_reducible ((first | refine r_seq (fun KS hS => ?_) | (refine hS _ _ ?_; clear hS KS) | (refine hB _ ?_; clear hB KB) | refine r_block ?_))
 | ((with_reducible (first | refine r_region ?_ | refine r_cond (fun KA hA KB hB => ?_) | refine r_ret ?_ | refine r_skip ?_ | refine And.intro rfl ?_ | intro b)); conv => whnf)
 | ((with_reducible refine CallK.id ?_); (first | apply in1121 | apply in1153); rfl; rfl; rfl; intro A; conv => whnf)
 | ((with_reducible refine CallK.at 115 ?_); refine CallK.pu (fun w => hc1115 w) ?_; conv => whnf)
 | ((with_reducible apply OpK.more); (focus refine sok); (conv => whnf); fail_if_success guard_target =ₛ False)
 | (refine if_ndecF (by omega) ?_; conv => whnf)
 | with_reducible apply_assumption -symm -exfalso)
  rename_i bo bi be _ _ _ _ _ _ _ bw bm
  refine r_rangeX (fun i => [.blk 2 bo [.v (.int .i64 0)] 3, .blk 3 bi [.v (.bool false)] 4, .blk 4 be [.v (.int .i64 0)] 32, .blk 5 bw [.v (.int .i64 (owF (tcF r 0 l) 0 (min i s)))] 3]) ((tcF r 0 l).map ptX) s .ret 40 rfl (by simp) ?_ (touch1201 (t := t) (bx := bm) (br := b) hl hok hr) ?_ (by decide) ?_ ?_ ?_
  · rw [Nat.zero_min]
    exact HSub.trans (HSub.app2 (A' := [.blk 11 bm [.loc t 0 0] 119, .blk 13 b [.v (.string r.lo), .v (.string r.hi)] 37]) (HSub.refl _) (HSub.app2 (A' := [.ext 12 (PtsA t l)]) (pts_id (i := 0) (j := 1) (t := t) (l := l) (a := a) (cap := cap) rfl) (HSub.refl _))) seG
  · intro x hx
    obtain ⟨y, _, rfl⟩ := List.mem_map.1 hx
    rfl
  · intro i x hx hi lp rc W' S'
    rw [List.getElem?_map, Option.map_eq_some_iff] at hx
    obtain ⟨⟨n, p⟩, hx, rfl⟩ := hx
    have hil : i < (tcF r 0 l).length := (List.getElem?_eq_some_iff.1 hx).1
    obtain ⟨ow, how⟩ : ∃ ow, owF (tcF r 0 l) 0 i = ow := ⟨_, rfl⟩
    rw [Nat.min_eq_left hi, how]
    conv => whnf
    by_cases hlt : i < s
    · have hgd : ¬ (ow ≠ 0 ∧ p.group ≠ ow) := how ▸ hs2 i hlt _ hx
      have hgd2 : ¬ (ow ≠ 0 ∧ (n, p).2.group ≠ ow) := hgd
      have hnx : owF (tcF r 0 l) 0 (min (i + 1) s) = p.group := by
        rw [Nat.min_eq_left (by omega)]
        show (match (tcF r 0 l)[i]? with | some x => x.2.group | none => 0) = _
        rw [hx]
      rw [if_pos hlt, hnx]
      repeat' (first
 | ((with_reducible (first | refine r_region ?_ | refine And.intro rfl ?_ | intro b)); conv => whnf))
      refine AssignX.rm rmG ?_
      repeat' (first
 | with_reducible ((first | refine r_seq (fun KS hS => ?_) | (refine hS _ _ ?_; clear hS KS) | (refine hB _ ?_; clear hB KB) | refine r_block ?_))
 | ((with_reducible (first | refine r_region ?_ | refine r_cond (fun KA hA KB hB => ?_) | refine r_skip ?_ | refine And.intro rfl ?_)); conv => whnf)
 | (refine if_ndecF (by omega) ?_; conv => whnf)
 | (refine if_ndec (fun h => ?_) (fun h => ?_); all_goals (conv => whnf))
 | with_reducible apply_assumption -symm -exfalso)
      all_goals first | exact ⟨rfl, seG⟩ | (exfalso; omega)
    · obtain rfl : i = s := by omega
      obtain ⟨y, hy1, hy2⟩ := hs3 hil
      have : (n, p) = y := by rw [hx] at hy1; simpa using hy1
      subst this
      rw [how] at hy2
      obtain ⟨hy2, hy3⟩ := hy2
      have hy3 : p.group ≠ ow := hy3
      have hy4 : (n, p).2.group ≠ ow := hy3
      rw [if_neg hlt, Nat.min_eq_right (by omega), how]
      repeat' (first
 | ((with_reducible (first | refine r_region ?_ | refine And.intro rfl ?_ | intro b)); conv => whnf))
      refine AssignX.rm rmG ?_
      repeat' (first
 | with_reducible ((first | refine r_seq (fun KS hS => ?_) | (refine hS _ _ ?_; clear hS KS) | (refine hA _ ?_; clear hA KA) | refine r_block ?_))
 | ((with_reducible (first | refine r_region ?_ | refine r_cond (fun KA hA KB hB => ?_) | refine r_ret ?_ | refine And.intro rfl ?_)); conv => whnf)
 | (refine if_ndecT (by omega) ?_; conv => whnf))
      all_goals first | exact ⟨rfl, seG⟩ | (exfalso; omega)
  · intro hle
    rw [List.length_map] at hle ⊢
    have hse : s = (tcF r 0 l).length := by omega
    have hown := ownT_ok (r := r) (l := l) (own := 0) (k := 0) (hse ▸ hs2)
    rw [← hse, Nat.min_self]
    conv => whnf
    repeat' (first
 | with_reducible ((first | refine r_seq (fun KS hS => ?_) | (refine hS _ _ ?_; clear hS KS)))
 | ((with_reducible (first | refine r_ret ?_ | refine And.intro rfl ?_)); conv => whnf)
 | (apply r_any (id := 12); refine mixed; kernel_rfl; kernel_rfl; conv => whnf)
 | ((with_reducible ((first | refine InAt.mk (fun K' hK => ?_) | refine AnyAt.mk (fun K' hK => ?_) | (refine hK _ ?_; clear hK K') | (refine hK _ _ ?_; clear hK K')))); conv => whnf)
 | (refine And.intro ?_ ?_; all_goals (conv => whnf)))
    all_goals exact FinK.frL (by rw [hown, ← hse]; rfl) seG
  · intro hle
    rw [List.length_map] at hle
    obtain ⟨y, hy1, hy2⟩ := hs3 hle
    have hbad := ownT_bad (k := 0) hy1 hy2
    conv => whnf
    repeat' (first
 | ((with_reducible refine And.intro rfl ?_); conv => whnf))
    all_goals exact FinK.frL (by rw [hbad]; rfl) seG
abbrev rgC (p : OM.Pt) : List Value := [.string p.r.lo, .string p.r.hi]
abbrev gpC (p : OM.Pt) : List Value := [.int .i64 p.group]
abbrev ecC (p : OM.Pt) : List Value := [.int .i64 p.epoch]
theorem ranges1060 {t : Nat} {l : List OM.Pt} (h0 : 0 < l.length) (hl : l.length ≤ 1000) (w : World) :
    FrZ Tryz.prog 60 #[pv t] w (AssL [.ext 12 (PtsA t l)]) (fun z : Option Addr × Nat => .slice z.1 l.length z.2) (fun z => AssL [.ext 12 (PtsA t l), .ext 1 (SlA 37 2 z.1 l.length z.2 (l.flatMap rgC))]) := by
  refine enter_frZ TBok (H := [.ext 12 (PtsA t l)]) all_foot Tryz.func60 rfl rfl Tryz.ntmps60 [.loc t 0 0] rfl rfl ?_
  intro S _ _
  conv => whnf
  refine Run.ex (A := ptsH t l) (i := 12) .head ?_
  rintro ⟨a, cap⟩
  dsimp only [ptsH, layF]
  repeat' (first
 | with_reducible ((first | refine r_seq (fun KS hS => ?_) | (refine hS _ _ ?_; clear hS KS) | (refine hB _ ?_; clear hB KB) | refine r_block ?_))
 | ((with_reducible (first | refine r_region ?_ | refine r_cond (fun KA hA KB hB => ?_) | refine r_ret ?_ | refine r_skip ?_ | refine And.intro rfl ?_)); conv => whnf)
 | (apply in1121; rfl; rfl; rfl; intro A; conv => whnf)
 | ((with_reducible apply OpK.more); (focus refine sok); (conv => whnf); fail_if_success guard_target =ₛ False)
 | (refine if_ndecF (by omega) ?_; conv => whnf)
 | with_reducible apply_assumption -symm -exfalso)
  refine r_loop (α := Nat × Option Addr × Nat) (fun z => [(0, .loc t 0 0), (3, .v (.slice z.2.1 z.1 z.2.2)), (12, .v (.slice a l.length cap)), (13, .v (.int .i64 (l.length : Nat))), (14, .v (.int .i64 (z.1 : Nat)))]) (fun z => [.ext 3 (SlA 37 2 z.2.1 z.1 z.2.2 ((l.take z.1).flatMap rgC)), .blk 0 t [.v (.slice a l.length cap)] 202, .ext 1 (SlA 193 4 a l.length cap (l.flatMap ptC))]) (fun z => z.1 ≤ l.length) (fun z => l.length - z.1) (0, Option.none, 0) (Nat.zero_le _) suG (HSub.addSl seG) ?_
  rintro ⟨i, a2, cap2⟩ hi KL hL
  dsimp only at hi ⊢
  by_cases hlt : i < l.length
  · obtain ⟨p, hp⟩ : ∃ p, l[i]? = some p := ⟨_, List.getElem?_eq_getElem hlt⟩
    repeat' (first
 | with_reducible ((first | refine r_seq (fun KS hS => ?_) | (refine hS _ _ ?_; clear hS KS) | (refine hA _ ?_; clear hA KA) | refine r_block ?_))
 | ((with_reducible (first | refine r_region ?_ | refine r_cond (fun KA hA KB hB => ?_) | refine r_skip ?_ | refine And.intro rfl ?_ | intro b)); conv => whnf)
 | ((with_reducible refine WrapK.i64 ?_ ?_); (focus omega); conv => whnf)
 | ((with_reducible refine OpK.id ?_); (first | refine OpK.idx (k := 4) rfl rfl rfl rfl rfl rfl rfl (Sees.ext atG) (by omega) (by omega) (pt_at hp) (fun bq off hpc => ?_) | refine OpK.ldp rfl rfl hpc (List.cons_ne_nil _ _) ?_ | refine OpK.app (k := 2) rfl rfl rfl rfl rfl rfl rfl rfl atG (SrcK.slc rfl rfl lmG (Nat.le_refl _) rfl) (big_ok (by omega) (by decide)) (fun a' cap' => ?_)); conv => whnf)
 | (refine hL (i + 1, a', cap') _ _ (by show i + 1 ≤ _; omega) (by show l.length - (i + 1) < l.length - i; omega) suG ?_)
 | (refine if_decT (by omega) ?_; conv => whnf)
 | with_reducible apply_assumption -symm -exfalso)
    dsimp only
    rw [← flat_snoc (g := rgC) hp]
    exact seG
  · obtain rfl : i = l.length := by omega
    rw [List.take_length]
    repeat' (first
 | with_reducible ((first | refine r_seq (fun KS hS => ?_) | (refine hS _ _ ?_; clear hS KS) | (refine hB _ ?_; clear hB KB)))
 | ((with_reducible (first | refine r_region ?_ | refine r_cond (fun KA hA KB hB => ?_) | refine r_ret ?_ | refine r_exit ?_)); conv => whnf)
 | (refine if_decF (by omega) ?_; conv => whnf)
 | with_reducible apply_assumption -symm -exfalso)
    exact FinK.frZL (a2, cap2) rfl (HSub.trans (HSub.app2 (A' := [.ext 12 (PtsA t l)]) (B' := [.ext 1 (SlA 37 2 a2 l.length cap2 (l.flatMap rgC))]) (pts_id (i := 0) (j := 1) (t := t) (l := l) (a := a) (cap := cap) rfl) (HSub.refl _)) seG)
theorem groups1061 {t : Nat} {l : List OM.Pt} (h0 : 0 < l.length) (hl : l.length ≤ 1000) (w : World) :
    FrZ Tryz.prog 61 #[pv t] w (AssL [.ext 12 (PtsA t l)]) (fun z : Option Addr × Nat => .slice z.1 l.length z.2) (fun z => AssL [.ext 12 (PtsA t l), .ext 1 (SlA 3 1 z.1 l.length z.2 (l.flatMap gpC))]) := by
  refine enter_frZ TBok (H := [.ext 12 (PtsA t l)]) all_foot Tryz.func61 rfl rfl Tryz.ntmps61 [.loc t 0 0] rfl rfl ?_
  intro S _ _
  conv => whnf
  refine Run.ex (A := ptsH t l) (i := 12) .head ?_
  rintro ⟨a, cap⟩
  dsimp only [ptsH, layF]
  repeat' (first
 | with_reducible ((first | refine r_seq (fun KS hS => ?_) | (refine hS _ _ ?_; clear hS KS) | (refine hB _ ?_; clear hB KB) | refine r_block ?_))
 | ((with_reducible (first | refine r_region ?_ | refine r_cond (fun KA hA KB hB => ?_) | refine r_ret ?_ | refine r_skip ?_ | refine And.intro rfl ?_)); conv => whnf)
 | (apply in1121; rfl; rfl; rfl; intro A; conv => whnf)
 | ((with_reducible apply OpK.more); (focus refine sok); (conv => whnf); fail_if_success guard_target =ₛ False)
 | (refine if_ndecF (by omega) ?_; conv => whnf)
 | with_reducible apply_assumption -symm -exfalso)
  refine r_loop (α := Nat × Option Addr × Nat) (fun z => [(0, .loc t 0 0), (3, .v (.slice z.2.1 z.1 z.2.2)), (12, .v (.slice a l.length cap)), (13, .v (.int .i64 (l.length : Nat))), (14, .v (.int .i64 (z.1 : Nat)))]) (fun z => [.ext 3 (SlA 3 1 z.2.1 z.1 z.2.2 ((l.take z.1).flatMap gpC)), .blk 0 t [.v (.slice a l.length cap)] 202, .ext 1 (SlA 193 4 a l.length cap (l.flatMap ptC))]) (fun z => z.1 ≤ l.length) (fun z => l.length - z.1) (0, Option.none, 0) (Nat.zero_le _) suG (HSub.addSl seG) ?_
  rintro ⟨i, a2, cap2⟩ hi KL hL
  dsimp only at hi ⊢
  by_cases hlt : i < l.length
  · obtain ⟨p, hp⟩ : ∃ p, l[i]? = some p := ⟨_, List.getElem?_eq_getElem hlt⟩
    repeat' (first
 | with_reducible ((first | refine r_seq (fun KS hS => ?_) | (refine hS _ _ ?_; clear hS KS) | (refine hA _ ?_; clear hA KA) | refine r_block ?_))
 | ((with_reducible (first | refine r_region ?_ | refine r_cond (fun KA hA KB hB => ?_) | refine r_skip ?_ | refine And.intro rfl ?_ | intro b)); conv => whnf)
 | ((with_reducible refine WrapK.i64 ?_ ?_); (focus omega); conv => whnf)
 | ((with_reducible refine OpK.id ?_); (first | refine OpK.idx (k := 4) rfl rfl rfl rfl rfl rfl rfl (Sees.ext atG) (by omega) (by omega) (pt_at hp) (fun bq off hpc => ?_) | refine OpK.ldp rfl rfl hpc (List.cons_ne_nil _ _) ?_ | refine OpK.app (k := 1) rfl rfl rfl rfl rfl rfl rfl rfl atG (SrcK.slc rfl rfl lmG (Nat.le_refl _) rfl) (big_ok (by omega) (by decide)) (fun a' cap' => ?_)); conv => whnf)
 | (refine hL (i + 1, a', cap') _ _ (by show i + 1 ≤ _; omega) (by show l.length - (i + 1) < l.length - i; omega) suG ?_)
 | (refine if_decT (by omega) ?_; conv => whnf)
 | with_reducible apply_assumption -symm -exfalso)
    dsimp only
    rw [← flat_snoc (g := gpC) hp]
    exact seG
  · obtain rfl : i = l.length := by omega
    rw [List.take_length]
    repeat' (first
 | with_reducible ((first | refine r_seq (fun KS hS => ?_) | (refine hS _ _ ?_; clear hS KS) | (refine hB _ ?_; clear hB KB)))
 | ((with_reducible (first | refine r_region ?_ | refine r_cond (fun KA hA KB hB => ?_) | refine r_ret ?_ | refine r_exit ?_)); conv => whnf)
 | (refine if_decF (by omega) ?_; conv => whnf)
 | with_reducible apply_assumption -symm -exfalso)
    exact FinK.frZL (a2, cap2) rfl (HSub.trans (HSub.app2 (A' := [.ext 12 (PtsA t l)]) (B' := [.ext 1 (SlA 3 1 a2 l.length cap2 (l.flatMap gpC))]) (pts_id (i := 0) (j := 1) (t := t) (l := l) (a := a) (cap := cap) rfl) (HSub.refl _)) seG)
theorem epochs1062 {t : Nat} {l : List OM.Pt} (h0 : 0 < l.length) (hl : l.length ≤ 1000) (w : World) :
    FrZ Tryz.prog 62 #[pv t] w (AssL [.ext 12 (PtsA t l)]) (fun z : Option Addr × Nat => .slice z.1 l.length z.2) (fun z => AssL [.ext 12 (PtsA t l), .ext 1 (SlA 3 1 z.1 l.length z.2 (l.flatMap ecC))]) := by
  refine enter_frZ TBok (H := [.ext 12 (PtsA t l)]) all_foot Tryz.func62 rfl rfl Tryz.ntmps62 [.loc t 0 0] rfl rfl ?_
  intro S _ _
  conv => whnf
  refine Run.ex (A := ptsH t l) (i := 12) .head ?_
  rintro ⟨a, cap⟩
  dsimp only [ptsH, layF]
  repeat' (first
 | with_reducible ((first | refine r_seq (fun KS hS => ?_) | (refine hS _ _ ?_; clear hS KS) | (refine hB _ ?_; clear hB KB) | refine r_block ?_))
 | ((with_reducible (first | refine r_region ?_ | refine r_cond (fun KA hA KB hB => ?_) | refine r_ret ?_ | refine r_skip ?_ | refine And.intro rfl ?_)); conv => whnf)
 | (apply in1121; rfl; rfl; rfl; intro A; conv => whnf)
 | ((with_reducible apply OpK.more); (focus refine sok); (conv => whnf); fail_if_success guard_target =ₛ False)
 | (refine if_ndecF (by omega) ?_; conv => whnf)
 | with_reducible apply_assumption -symm -exfalso)
  refine r_loop (α := Nat × Option Addr × Nat) (fun z => [(0, .loc t 0 0), (3, .v (.slice z.2.1 z.1 z.2.2)), (12, .v (.slice a l.length cap)), (13, .v (.int .i64 (l.length : Nat))), (14, .v (.int .i64 (z.1 : Nat)))]) (fun z => [.ext 3 (SlA 3 1 z.2.1 z.1 z.2.2 ((l.take z.1).flatMap ecC)), .blk 0 t [.v (.slice a l.length cap)] 202, .ext 1 (SlA 193 4 a l.length cap (l.flatMap ptC))]) (fun z => z.1 ≤ l.length) (fun z => l.length - z.1) (0, Option.none, 0) (Nat.zero_le _) suG (HSub.addSl seG) ?_
  rintro ⟨i, a2, cap2⟩ hi KL hL
  dsimp only at hi ⊢
  by_cases hlt : i < l.length
  · obtain ⟨p, hp⟩ : ∃ p, l[i]? = some p := ⟨_, List.getElem?_eq_getElem hlt⟩
    repeat' (first
 | with_reducible ((first | refine r_seq (fun KS hS => ?_) | (refine hS _ _ ?_; clear hS KS) | (refine hA _ ?_; clear hA KA) | refine r_block ?_))
 | ((with_reducible (first | refine r_region ?_ | refine r_cond (fun KA hA KB hB => ?_) | refine r_skip ?_ | refine And.intro rfl ?_ | intro b)); conv => whnf)
 | ((with_reducible refine WrapK.i64 ?_ ?_); (focus omega); conv => whnf)
 | ((with_reducible refine OpK.id ?_); (first | refine OpK.idx (k := 4) rfl rfl rfl rfl rfl rfl rfl (Sees.ext atG) (by omega) (by omega) (pt_at hp) (fun bq off hpc => ?_) | refine OpK.ldp rfl rfl hpc (List.cons_ne_nil _ _) ?_ | refine OpK.app (k := 1) rfl rfl rfl rfl rfl rfl rfl rfl atG (SrcK.slc rfl rfl lmG (Nat.le_refl _) rfl) (big_ok (by omega) (by decide)) (fun a' cap' => ?_)); conv => whnf)
 | (refine hL (i + 1, a', cap') _ _ (by show i + 1 ≤ _; omega) (by show l.length - (i + 1) < l.length - i; omega) suG ?_)
 | (refine if_decT (by omega) ?_; conv => whnf)
 | with_reducible apply_assumption -symm -exfalso)
    dsimp only
    rw [← flat_snoc (g := ecC) hp]
    exact seG
  · obtain rfl : i = l.length := by omega
    rw [List.take_length]
    repeat' (first
 | with_reducible ((first | refine r_seq (fun KS hS => ?_) | (refine hS _ _ ?_; clear hS KS) | (refine hB _ ?_; clear hB KB)))
 | ((with_reducible (first | refine r_region ?_ | refine r_cond (fun KA hA KB hB => ?_) | refine r_ret ?_ | refine r_exit ?_)); conv => whnf)
 | (refine if_decF (by omega) ?_; conv => whnf)
 | with_reducible apply_assumption -symm -exfalso)
    exact FinK.frZL (a2, cap2) rfl (HSub.trans (HSub.app2 (A' := [.ext 12 (PtsA t l)]) (B' := [.ext 1 (SlA 3 1 a2 l.length cap2 (l.flatMap ecC))]) (pts_id (i := 0) (j := 1) (t := t) (l := l) (a := a) (cap := cap) rfl) (HSub.refl _)) seG)
theorem grow1202 {n : Nat} (h0 : 0 < n) (hn : n ≤ 1000) (w : World) :
    FrZ Tryz.prog 202 #[.slice Option.none 0 0, .int .i64 (n : Nat)] w emp (fun z : Option Addr × Nat => .slice z.1 0 z.2) (fun z => SlA 193 4 z.1 0 z.2 []) := by
  refine enter_frZ TBok (H := []) emp_foot Tryz.func202 rfl rfl Tryz.ntmps202 [.v (.slice Option.none 0 0), .v (.int .i64 (n : Nat))] rfl rfl ?_
  intro S hE _
  conv => whnf
  repeat' (first
 | with_reducible ((first | refine r_seq (fun KS hS => ?_) | (refine hS _ _ ?_; clear hS KS) | (refine hA _ ?_; clear hA KA) | (refine hB _ ?_; clear hB KB)))
 | ((with_reducible (first | refine r_region ?_ | refine r_cond (fun KA hA KB hB => ?_) | refine r_ret ?_ | refine r_skip ?_ | intro b)); conv => whnf)
 | ((with_reducible refine WrapK.i64 ?_ ?_); (focus omega); conv => whnf)
 | ((with_reducible refine OpK.id ?_); (first | refine OpK.capS rfl rfl rfl rfl ?_ | refine OpK.slB (u := 0) rfl rfl rfl rfl rfl rfl (Nat.zero_le _) ?_ | refine OpK.appZ (n := n) (k := 4) rfl rfl rfl rfl rfl rfl rfl rfl rfl rfl (by decide) h0 (by omega) (by decide) ?_); conv => whnf)
 | (refine if_decT (by omega) ?_; conv => whnf)
 | with_reducible apply_assumption -symm -exfalso)
  rename_i ba
  exact FinK.frZ (i := 0) (ba, b) rfl (HSub.ext (fun w S h => SlA.pre (cs := []) h (Nat.zero_le _) rfl) HSub.nil)
abbrev CS := Option Addr × Nat × List OM.Pt
abbrev csV (x : CS) : Value := .slice x.1 x.2.2.length x.2.1
abbrev csC (x : CS) : List Value := x.2.2.flatMap ptC
abbrev csN (Ls : List CS) : Nat := (Ls.flatMap fun x => x.2.2).length
theorem one_pts {L : List OM.Pt} : ∀ u ∈ L.flatMap ptC, u.oneCell' = true := by
  intro u hu
  obtain ⟨x, _, hx⟩ := List.mem_flatMap.1 hu
  simp only [ptC, List.mem_cons, List.not_mem_nil, or_false] at hx
  rcases hx with rfl | rfl | rfl | rfl <;> rfl
theorem csN_snoc {Ls : List CS} {i : Nat} {x : CS} (h : Ls[i]? = some x) : csN (Ls.take (i + 1)) = csN (Ls.take i) + x.2.2.length := by
  show ((Ls.take (i + 1)).flatMap fun x => x.2.2).length = _
  rw [← take_snoc h, List.flatMap_append, List.length_append]; simp
theorem csN_le {Ls : List CS} (h5 : Ls.length ≤ 10) (hn : ∀ x ∈ Ls, x.2.2.length ≤ 200) : ∀ i, csN (Ls.take i) ≤ 2000 := by
  have main : ∀ (l : List CS), (∀ x ∈ l, x.2.2.length ≤ 200) → csN l ≤ l.length * 200 := by
    intro l
    induction l with
    | nil => intro _; exact Nat.zero_le _
    | cons y l ih =>
      intro h
      have h1 := h y (by simp)
      have h2 := ih fun x hx => h x (by simp [hx])
      show ((y :: l).flatMap fun x => x.2.2).length ≤ _
      rw [List.flatMap_cons, List.length_append, List.length_cons, Nat.add_mul]
      have : csN l = (l.flatMap fun x => x.2.2).length := rfl
      omega
  intro i
  have h1 := main (Ls.take i) fun x hx => hn x (List.mem_of_mem_take hx)
  have h2 : (Ls.take i).length ≤ 10 := by rw [List.length_take]; omega
  have : (Ls.take i).length * 200 ≤ 10 * 200 := Nat.mul_le_mul_right _ h2
  omega
theorem cs_at {Ls : List CS} {i : Nat} {x : CS} (h : Ls[i]? = some x) : ((Ls.map csV).drop ((i : Int).toNat * 1)).take 1 = denL [.v (csV x)] := by
  rw [List.map_eq_flatMap]
  exact flat_at (g := fun x : CS => [csV x]) (fun _ => rfl) h
theorem concat1159 {Ls : List CS} {a : Option Addr} {cap : Nat} {w : World} (h5 : Ls.length ≤ 10) (hr : RdS w 200 1 a Ls.length cap (Ls.map csV)) (hrs : ∀ x ∈ Ls, RdS w 193 4 x.1 x.2.2.length x.2.1 (csC x)) (hn : ∀ x ∈ Ls, x.2.2.length ≤ 200) (h0 : 0 < csN Ls) (h1000 : csN Ls ≤ 1000) :
    FrZ Tryz.prog 159 #[.slice a Ls.length cap] w emp (fun z : Option Addr × Nat => .slice z.1 (csN Ls) z.2) (fun z => SlA 193 4 z.1 (csN Ls) z.2 ((Ls.flatMap fun x => x.2.2).flatMap ptC)) := by
  have hcl := csN_le h5 hn
  refine enter_frZ TBok (H := []) emp_foot Tryz.func159 rfl rfl Tryz.ntmps159 [.v (.slice a Ls.length cap)] rfl rfl ?_
  intro S hE _
  have hs := fun n' r H => Sees.old (c := ⟨Tryz.prog, TB, n', w, S, r, TBok⟩) (H := H) (hr.oldE hE)
  have hss := fun x (hx : x ∈ Ls) n' r H => Sees.old (c := ⟨Tryz.prog, TB, n', w, S, r, TBok⟩) (H := H) ((hrs x hx).oldE hE)
  conv => whnf
  repeat' (first
 | with_reducible ((first | refine r_seq (fun KS hS => ?_) | (refine hS _ _ ?_; clear hS KS) | refine r_block ?_))
 | ((with_reducible refine r_region ?_); conv => whnf))
  refine r_loop (α := Nat) (fun i => [(0, .v (.slice a Ls.length cap)), (3, .v (.int .i64 (csN (Ls.take i) : Nat))), (9, .v (.slice a Ls.length cap)), (10, .v (.int .i64 (Ls.length : Nat))), (11, .v (.int .i64 (i : Nat)))]) (fun _ => []) (fun i => i ≤ Ls.length) (fun i => Ls.length - i) 0 (Nat.zero_le _) suG (HSub.none _) ?_
  intro i hi KL hL
  by_cases hlt : i < Ls.length
  · obtain ⟨x, hx⟩ : ∃ x, Ls[i]? = some x := ⟨_, List.getElem?_eq_getElem hlt⟩
    have hxm := List.mem_of_getElem? hx
    have hxn := hn x hxm
    have hci := hcl i
    have hcs := csN_snoc hx
    have hadd : ((csN (Ls.take i) : Nat) : Int) + (x.2.2.length : Nat) = (csN (Ls.take (i + 1)) : Nat) := by omega
    repeat' (first
 | with_reducible ((first | refine r_seq (fun KS hS => ?_) | (refine hS _ _ ?_; clear hS KS) | (refine hA _ ?_; clear hA KA) | (refine hB _ ?_; clear hB KB) | refine r_block ?_))
 | ((with_reducible (first | refine r_region ?_ | refine r_cond (fun KA hA KB hB => ?_) | refine r_skip ?_)); conv => whnf)
 | ((with_reducible refine WrapK.i64 ?_ ?_); (focus omega); conv => whnf)
 | ((with_reducible refine OpK.id ?_); (first | refine OpK.idx (k := 1) rfl rfl rfl rfl rfl rfl rfl (hs _ _ _) (by omega) (by omega) (cs_at hx) (fun bq off hpc => ?_) | refine OpK.ldp rfl rfl hpc (List.cons_ne_nil _ _) ?_); conv => whnf)
 | (refine hL (i + 1) _ _ (by show i + 1 ≤ _; omega) (by show Ls.length - (i + 1) < Ls.length - i; omega) ?_ (HSub.none _))
 | (refine if_decT (by omega) ?_; conv => whnf)
 | with_reducible apply_assumption -symm -exfalso)
    rw [← hadd]
    exact suG
  · obtain rfl : i = Ls.length := by omega
    rw [List.take_length]
    repeat' (first
 | with_reducible ((first | refine r_seq (fun KS hS => ?_) | (refine hS _ _ ?_; clear hS KS) | (refine hB _ ?_; clear hB KB) | refine r_block ?_))
 | ((with_reducible (first | refine r_region ?_ | refine r_cond (fun KA hA KB hB => ?_) | refine r_exit ?_ | intro b)); conv => whnf)
 | ((with_reducible refine CallK.id ?_); refine CallK.fresh (fun ms w hk => grow1202 h0 h1000 w) ?_; conv => whnf)
 | (refine if_decF (by omega) ?_; conv => whnf)
 | with_reducible apply_assumption -symm -exfalso)
    rcases b with ⟨ga, gcap⟩
    dsimp only
    refine r_loop (α := Nat × Option Addr × Nat) (fun z => [(0, .v (.slice a Ls.length cap)), (6, .v (.slice z.2.1 (csN (Ls.take z.1)) z.2.2)), (25, .v (.slice a Ls.length cap)), (26, .v (.int .i64 (Ls.length : Nat))), (27, .v (.int .i64 (z.1 : Nat)))]) (fun z => [.ext 0 (SlA 193 4 z.2.1 (csN (Ls.take z.1)) z.2.2 (((Ls.take z.1).flatMap fun x => x.2.2).flatMap ptC))]) (fun z => z.1 ≤ Ls.length) (fun z => Ls.length - z.1) (0, ga, gcap) (Nat.zero_le _) suG seG ?_
    rintro ⟨i, a2, cap2⟩ hi KL hL
    dsimp only at hi ⊢
    by_cases hlt : i < Ls.length
    · obtain ⟨x, hx⟩ : ∃ x, Ls[i]? = some x := ⟨_, List.getElem?_eq_getElem hlt⟩
      have hxm := List.mem_of_getElem? hx
      have hxn := hn x hxm
      have hci := hcl i
      have hcs := csN_snoc hx
      have hflat : ((Ls.take (i + 1)).flatMap fun x => x.2.2).flatMap ptC = ((Ls.take i).flatMap fun x => x.2.2).flatMap ptC ++ csC x := by
        rw [← take_snoc hx, List.flatMap_append, List.flatMap_append]; simp
      repeat' (first
 | with_reducible ((first | refine r_seq (fun KS hS => ?_) | (refine hS _ _ ?_; clear hS KS) | (refine hA _ ?_; clear hA KA) | refine r_block ?_))
 | ((with_reducible (first | refine r_region ?_ | refine r_cond (fun KA hA KB hB => ?_) | refine r_skip ?_)); conv => whnf)
 | ((with_reducible refine WrapK.i64 ?_ ?_); (focus omega); conv => whnf)
 | ((with_reducible refine OpK.id ?_); (first | refine OpK.idx (k := 1) rfl rfl rfl rfl rfl rfl rfl (hs _ _ _) (by omega) (by omega) (cs_at hx) (fun bq off hpc => ?_) | refine OpK.ldp rfl rfl hpc (List.cons_ne_nil _ _) ?_ | refine OpK.app (k := 4) rfl rfl rfl rfl rfl rfl rfl rfl atG (SrcK.sees rfl rfl (hss x hxm _ _ _) one_pts) (big_ok (by omega) (by decide)) (fun a' cap' => ?_)); conv => whnf)
 | (refine hL (i + 1, a', cap') _ _ (by show i + 1 ≤ _; omega) (by show Ls.length - (i + 1) < Ls.length - i; omega) (by dsimp only; rw [hcs]; exact suG) ?_)
 | (refine if_decT (by omega) ?_; conv => whnf)
 | with_reducible apply_assumption -symm -exfalso)
      dsimp only
      rw [hcs, hflat]
      exact seG
    · obtain rfl : i = Ls.length := by omega
      rw [List.take_length]
      repeat' (first
 | with_reducible ((first | refine r_seq (fun KS hS => ?_) | (refine hS _ _ ?_; clear hS KS) | (refine hB _ ?_; clear hB KB)))
 | ((with_reducible (first | refine r_region ?_ | refine r_cond (fun KA hA KB hB => ?_) | refine r_ret ?_ | refine r_exit ?_)); conv => whnf)
 | (refine if_decF (by omega) ?_; conv => whnf)
 | with_reducible apply_assumption -symm -exfalso)
      exact FinK.frZ (i := 0) (a2, cap2) rfl seG
end Go.Proofs.YtjkmpaggfbghiaaGreatDoor
