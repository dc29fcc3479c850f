/- Contracts and lemmas for the claim (part 13); no condition of its own. -/
import Derived.Test.YtjkmpaggfbghiaaGreatDoorYQC512
import Derived.Test.YtjkmpaggfbghiaaGreatDoorYQC511
import Derived.Test.YtjkmpaggfbghiaaGreatDoorYQC504
import Derived.Deep.RegionHeld3
import Derived.IntWalk
import Derived.Test.YtjkmpaggfbghiaaGreatDoorYQC506
set_option linter.all false
set_option maxRecDepth 100000
set_option maxHeartbeats 0
set_option linter.unusedVariables false
set_option linter.unusedSimpArgs false
set_option linter.unnecessarySimpa false
namespace Go.Proofs.YtjkmpaggfbghiaaGreatDoor
open Go Go.X
abbrev mvW (x : Int × OM.Mv) : OM.Item × OM.Cmd := OM.mvItem x.1 x.2
theorem fm_step {α β : Type} {f : α → Option β} {l : List α} {i : Nat} {x : α} (h : l[i]? = some x) : (l.drop i).filterMap f = match f x with | none => (l.drop (i + 1)).filterMap f | some y => y :: (l.drop (i + 1)).filterMap f := by
  have hi : i < l.length := (List.getElem?_eq_some_iff.1 h).1
  have hm : l[i] = x := (List.getElem?_eq_some_iff.1 h).2
  rw [List.drop_eq_getElem_cons hi, hm, List.filterMap_cons]
  cases f x <;> rfl
theorem ef_at {L : List OM.Eff} {i : Nat} {e : OM.Eff} (h : L[i]? = some e) : ((L.flatMap efC).drop ((i : Int).toNat * 3)).take 3 = denL (efV e) := flat_at efC_len h
theorem part_get {o : OM.St} (h : OM.Inv o) {key : ByteArray} (hk : OM.nmOk key = true) : ∃ p, o.parts.find? (fun p => p.r.has key) = some p ∧ o.route key = p.group := by
  obtain ⟨p, h1, _⟩ := OM.part_spec h.cov hk
  exact ⟨p, h1, by unfold OM.St.route; rw [h1]⟩
theorem nxE_mem {L : SL} (hL : LOk L) {e : OM.Eff} (h : e ∈ nxE L) : ∃ sg, getL L e.saga = some sg ∧ sg.st < 4 ∧ e.step = sg.at_ ∧ e.phase = OM.phaseOf sg.st := by
  obtain ⟨x, hx, hn⟩ := List.mem_filterMap.1 h
  have hg := getL_of_mem hL.srt hx
  unfold OM.Sg.next at hn
  split at hn
  · rename_i ho
    obtain rfl := Option.some.inj hn
    unfold OM.Sg.open_ at ho
    exact ⟨x.2, hg, by simpa using ho, rfl, rfl⟩
  · cases hn
theorem stepAt_ok {sg : OM.Sg} (h : OM.SOk sg) (ho : sg.st < 4) : OM.nmOk sg.stepAt.key = true ∧ -1152921504606846976 ≤ sg.stepAt.delta ∧ sg.stepAt.delta ≤ 1152921504606846976 := by
  have h0 := h.at0
  have h1 := h.at1 ho
  have hst : sg.d.steps[sg.at_.toNat]? = some sg.stepAt := by
    unfold OM.Sg.stepAt
    rw [List.getElem?_eq_getElem (by omega)]; rfl
  obtain ⟨_, q2, _, q4, q5⟩ := stepsOk_at (OM.Dfn.steps_pos h.d).2.2.2.2.2.2.2 hst
  exact ⟨q2, q4, q5⟩
theorem oi_at {l : List OM.Mv} {i : Nat} {x : Int × OM.Mv} (h : (OM.openF 1 l)[i]? = some x) : ((opI l).drop ((i : Int).toNat * 1)).take 1 = denL [.v (.int .i64 x.1)] := by
  rw [show opI l = (OM.openF 1 l).flatMap fun x => [Value.int .i64 x.1] from List.map_eq_flatMap ..]
  exact flat_at (g := fun x : Int × OM.Mv => [Value.int .i64 x.1]) (fun _ => rfl) h
theorem wanted1090 {d bx : Nat} {o : OM.St} {o0 o1 : Obj} (hko : KObj o0 o1) (hI : OM.Inv o) : ItX Tryz.prog 90 (denL [.loc bx 11 0]) [.blk 11 bx [.loc d 0 0] 23, .ext 12 (OrchA d o), .ext 9 (GlA o0 o1)] [.blk 11 bx [.loc d 0 0] 23, .ext 12 (OrchA d o), .ext 9 (GlA o0 o1)] ((o.wanted.map wtX).map denL) := by
  have hL := LOk.ofInv hI
  have hmo := inv_mok hI
  have hpo := inv_pok hI
  have hml := hI.mlen
  have hpl : o.parts.length ≤ 64 := by have := hI.room; omega
  have hwant : o.wanted = (nxE o.sagas).filterMap (effE o) ++ (OM.openF 1 o.moves).map mvW := by
    unfold OM.St.wanted
    rw [effs_nx hL]; rfl
  have hnl := nxE_len hL.len
  intro stop J yv hy w
  refine enter_fr TBok (H := .ext 0 (J 0) :: [.blk 11 bx [.loc d 0 0] 23, .ext 12 (OrchA d o), .ext 9 (GlA o0 o1)]) all_foot Tryz.func90 rfl rfl Tryz.ntmps90 [.v yv, .loc bx 11 0] rfl rfl ?_
  intro S
  conv => whnf
  refine Run.ex (A := orH d o) (i := 12) (by repeat (first | with_reducible apply Rm.head | apply Rm.tail)) ?_
  rintro ⟨t1, t2, t3⟩
  dsimp only [orH, layF]
  repeat' (first
 | with_reducible ((first | refine r_seq (fun KS hS => ?_) | (refine hS _ _ ?_; clear hS KS) | refine r_block ?_))
 | ((with_reducible (first | refine r_region ?_ | refine And.intro rfl ?_ | intro b)); conv => whnf)
 | ((with_reducible refine CallK.id ?_); refine CallK.s2 (by repeat (first | with_reducible apply Rm.head | apply Rm.tail)) (by repeat (first | with_reducible apply Rm.head | apply Rm.tail)) (fun ms w hk => tnext1091 hko hL w) ?_; conv => whnf))
  rcases b with ⟨a, cap⟩
  dsimp only
  refine r_loop (α := Nat × Nat) (fun z => [(0, .v yv), (1, .loc bx 11 0), (18, .v (.slice a (nxE o.sagas).length cap)), (19, .v (.int .i64 ((nxE o.sagas).length : Nat))), (20, .v (.int .i64 (z.1 : Nat)))]) (fun z => [.ext 12 (OrchA d o), .ext 9 (GlA o0 o1), .ext 1 (SlA 29 3 a (nxE o.sagas).length cap ((nxE o.sagas).flatMap efC)), .ext 0 (J z.2), .blk 11 bx [.loc d 0 0] 23]) (fun z => z.1 ≤ (nxE o.sagas).length ∧ z.2 ≤ stop ∧ z.2 ≤ o.wanted.length ∧ o.wanted.drop z.2 = ((nxE o.sagas).drop z.1).filterMap (effE o) ++ (OM.openF 1 o.moves).map mvW) (fun z => (nxE o.sagas).length - z.1) (0, 0) ⟨Nat.zero_le _, Nat.zero_le _, Nat.zero_le _, hwant⟩ (by repeat' (first | exact Sub.nil | (refine Sub.cons rfl rfl ?_))) (HSub.trans (HSub.app2 (A' := [.ext 12 (OrchA d o)]) (or_id (i := 0) (j := 1) (k := 2) (l := 3) (d := d) (s := o) (t1 := t1) (t2 := t2) (t3 := t3)) (HSub.refl [.ext 9 (GlA o0 o1), .ext 1 (SlA 29 3 a (nxE o.sagas).length cap ((nxE o.sagas).flatMap efC)), .ext 0 (J 0), .blk 11 bx [.loc d 0 0] 23])) (by (try dsimp only [List.cons_append, List.nil_append, den, denL]); refine SelI.spec ?_; (repeat (first | refine SelI.blk (by repeat (first | with_reducible apply Rm.head | apply Rm.tail)) ?_ | refine SelI.ext (by repeat (first | with_reducible apply Rm.head | apply Rm.tail)) ?_ | (refine SelI.blk' (by repeat (first | with_reducible apply Rm.head | apply Rm.tail)) ?_ ?_; focus rfl) | (refine SelI.ext' (by repeat (first | with_reducible apply Rm.head | apply Rm.tail)) ?_ ?_; focus rfl))); exact SelI.nil)) ?_
  rintro ⟨i, k⟩ ⟨hi, hks, hkL, hdr⟩ KL hL2
  dsimp only at hi hks hkL hdr ⊢
  by_cases hlt : i < (nxE o.sagas).length
  · obtain ⟨e, he⟩ : ∃ e, (nxE o.sagas)[i]? = some e := ⟨_, List.getElem?_eq_getElem hlt⟩
    obtain ⟨sg, hg, ho, hes, hep⟩ := nxE_mem hL (List.mem_of_getElem? he)
    have hsok : OM.SOk sg := hL.ok _ (getL_mem hg)
    obtain ⟨hkey, hdl⟩ := stepAt_ok hsok ho
    have hksz := sz_nm hkey
    obtain ⟨pt, hpt, hrt⟩ := part_get hI hkey
    have hbusy1093 := fun t w => busy1093 (t := t) (l := o.moves) (key := sg.stepAt.key) hml hmo (by omega) w
    have hstp1092 := fun w => step1092 (d := d) (o := o) (e := e) hL hg ho hes w
    have hgrp1057 := fun t w => group1057 (t := t) hkey hpo hpt (by omega) w
    rw [fm_step he] at hdr
    have hef : effE o e = if o.busy sg.stepAt.key then none else some (⟨e, 0, false, o.route sg.stepAt.key⟩, { OM.zCmd with kind := 1, eff := e, key := sg.stepAt.key, delta := sg.stepAt.delta }) := by unfold effE; rw [hg]
    have hbq : ((OM.openF 1 o.moves).any fun x => x.2.r.has sg.stepAt.key) = o.busy sg.stepAt.key := rfl
    cases hb : o.busy sg.stepAt.key
    · rw [hb, if_neg (by simp)] at hef
      rw [hef] at hdr
      rw [hbq, hb] at hbusy1093
      obtain ⟨hx, hd2⟩ := drop_cons hdr
      have hxk : ((o.wanted.map wtX).map denL)[k]? = some (denL (wtX (⟨e, 0, false, o.route sg.stepAt.key⟩, { OM.zCmd with kind := 1, eff := e, key := sg.stepAt.key, delta := sg.stepAt.delta }))) := by
        rw [List.getElem?_map, List.getElem?_map, hx]; rfl
      have hyk := hy k _ hxk hks
      rw [hrt] at hyk
      have hkl : k < o.wanted.length := (List.getElem?_eq_some_iff.1 hx).1
      by_cases hlt2 : k < stop
      · rw [decide_eq_true hlt2] at hyk
        repeat' (first
 | with_reducible refine r_stop 4 ?_
 | with_reducible ((first | refine r_seq (fun KS hS => ?_) | (refine hS _ _ ?_; clear hS KS) | (refine hA _ ?_; clear hA KA) | refine r_block ?_))
 | ((with_reducible (first | refine r_region ?_ | refine r_cond (fun KA hA KB hB => ?_) | refine r_skip ?_ | refine And.intro rfl ?_ | intro b)); conv => whnf)
 | ((with_reducible refine OpK.id ?_); (first | refine OpK.idx (k := 3) rfl rfl rfl rfl rfl rfl rfl (Sees.ext (by repeat (first | with_reducible apply At.head | apply At.tail))) (by omega) (by omega) (ef_at he) (fun bq off hpc => ?_) | refine OpK.ldp rfl rfl hpc (List.cons_ne_nil _ _) ?_); conv => whnf)
 | ((with_reducible refine CallK.id ?_); refine CallK.s1V (by repeat (first | with_reducible apply Rm.head | apply Rm.tail)) (fun ms w hk => hstp1092 w) ?_; conv => whnf)
 | (refine if_decT (by omega) ?_; conv => whnf)
 | with_reducible apply_assumption -symm -exfalso)
        refine StopR.mk ?_
        refine Run.ex (A := orH d o) (i := 12) (by repeat (first | with_reducible apply Rm.head | apply Rm.tail)) ?_
        rintro ⟨u1, u2, u3⟩
        dsimp only [orH, layF]
        repeat' (first
 | with_reducible ((first | refine r_seq (fun KS hS => ?_) | (refine hS _ _ ?_; clear hS KS) | (refine hB _ ?_; clear hB KB)))
 | ((with_reducible (first | refine r_region ?_ | refine r_cond (fun KA hA KB hB => ?_) | refine r_skip ?_ | refine And.intro rfl ?_)); conv => whnf)
 | ((with_reducible refine WrapK.i64 ?_ ?_); (focus omega); conv => whnf)
 | (apply r_any (id := 4); refine mixed; kernel_rfl; kernel_rfl; conv => whnf)
 | (apply r_any (id := 5); refine mixed; kernel_rfl; kernel_rfl; conv => whnf)
 | ((with_reducible refine CallK.id ?_); (first | refine CallK.s1V (by repeat (first | with_reducible apply Rm.head | apply Rm.tail)) (fun ms w hk => hbusy1093 _ w) ?_ | refine CallK.s1V (by repeat (first | with_reducible apply Rm.head | apply Rm.tail)) (fun ms w hk => hgrp1057 _ w) ?_); conv => whnf)
 | ((with_reducible refine CallV.id ?_); refine CallV.yb (b := true) (by repeat (first | with_reducible apply At.head | apply At.tail)) hyk ?_; conv => whnf)
 | (refine hL2 (i + 1, k + 1) _ _ ⟨by show i + 1 ≤ _; omega, hlt2, hkl, hd2⟩ (by show (nxE o.sagas).length - (i + 1) < (nxE o.sagas).length - i; omega) (by repeat' (first | exact Sub.nil | (refine Sub.cons rfl rfl ?_))) ?_)
 | ((with_reducible ((first | refine InAt.mk (fun K' hK => ?_) | refine AnyAt.mk (fun K' hK => ?_) | (refine hK _ ?_; clear hK K') | (refine hK _ _ ?_; clear hK K')))); conv => whnf)
 | (refine And.intro ?_ ?_; all_goals (conv => whnf))
 | with_reducible apply_assumption -symm -exfalso)
        all_goals exact HSub.trans (HSub.app2 (A' := [.ext 12 (OrchA d o)]) (or_id (i := 0) (j := 1) (k := 2) (l := 3) (d := d) (s := o) (t1 := u1) (t2 := u2) (t3 := u3)) (HSub.refl [.ext 9 (GlA o0 o1), .ext 1 (SlA 29 3 a (nxE o.sagas).length cap ((nxE o.sagas).flatMap efC)), .ext 0 (J (k + 1)), .blk 11 bx [.loc d 0 0] 23])) (by (try dsimp only [List.cons_append, List.nil_append, den, denL]); refine SelI.spec ?_; (repeat (first | refine SelI.blk (by repeat (first | with_reducible apply Rm.head | apply Rm.tail)) ?_ | refine SelI.ext (by repeat (first | with_reducible apply Rm.head | apply Rm.tail)) ?_ | (refine SelI.blk' (by repeat (first | with_reducible apply Rm.head | apply Rm.tail)) ?_ ?_; focus rfl) | (refine SelI.ext' (by repeat (first | with_reducible apply Rm.head | apply Rm.tail)) ?_ ?_; focus rfl))); exact SelI.nil)
      · rw [decide_eq_false hlt2] at hyk
        have hmin : min (stop + 1) ((o.wanted.map wtX).map denL).length = k + 1 := by rw [List.length_map, List.length_map]; omega
        rw [hmin]
        repeat' (first
 | with_reducible refine r_stop 4 ?_
 | with_reducible ((first | refine r_seq (fun KS hS => ?_) | (refine hS _ _ ?_; clear hS KS) | (refine hA _ ?_; clear hA KA) | refine r_block ?_))
 | ((with_reducible (first | refine r_region ?_ | refine r_cond (fun KA hA KB hB => ?_) | refine r_skip ?_ | refine And.intro rfl ?_ | intro b)); conv => whnf)
 | ((with_reducible refine OpK.id ?_); (first | refine OpK.idx (k := 3) rfl rfl rfl rfl rfl rfl rfl (Sees.ext (by repeat (first | with_reducible apply At.head | apply At.tail))) (by omega) (by omega) (ef_at he) (fun bq off hpc => ?_) | refine OpK.ldp rfl rfl hpc (List.cons_ne_nil _ _) ?_); conv => whnf)
 | ((with_reducible refine CallK.id ?_); refine CallK.s1V (by repeat (first | with_reducible apply Rm.head | apply Rm.tail)) (fun ms w hk => hstp1092 w) ?_; conv => whnf)
 | (refine if_decT (by omega) ?_; conv => whnf)
 | with_reducible apply_assumption -symm -exfalso)
        refine StopR.mk ?_
        refine Run.ex (A := orH d o) (i := 12) (by repeat (first | with_reducible apply Rm.head | apply Rm.tail)) ?_
        rintro ⟨u1, u2, u3⟩
        dsimp only [orH, layF]
        repeat' (first
 | with_reducible ((first | refine r_seq (fun KS hS => ?_) | (refine hS _ _ ?_; clear hS KS) | (refine hA _ ?_; clear hA KA) | (refine hB _ ?_; clear hB KB)))
 | ((with_reducible (first | refine r_region ?_ | refine r_cond (fun KA hA KB hB => ?_) | refine r_ret ?_ | refine r_skip ?_ | refine And.intro rfl ?_)); conv => whnf)
 | (apply r_any (id := 4); refine mixed; kernel_rfl; kernel_rfl; conv => whnf)
 | (apply r_any (id := 5); refine mixed; kernel_rfl; kernel_rfl; conv => whnf)
 | ((with_reducible refine CallK.id ?_); (first | refine CallK.s1V (by repeat (first | with_reducible apply Rm.head | apply Rm.tail)) (fun ms w hk => hbusy1093 _ w) ?_ | refine CallK.s1V (by repeat (first | with_reducible apply Rm.head | apply Rm.tail)) (fun ms w hk => hgrp1057 _ w) ?_); conv => whnf)
 | ((with_reducible refine CallV.id ?_); refine CallV.yb (b := false) (by repeat (first | with_reducible apply At.head | apply At.tail)) hyk ?_; conv => whnf)
 | ((with_reducible ((first | refine InAt.mk (fun K' hK => ?_) | refine AnyAt.mk (fun K' hK => ?_) | (refine hK _ ?_; clear hK K') | (refine hK _ _ ?_; clear hK K')))); conv => whnf)
 | (refine And.intro ?_ ?_; all_goals (conv => whnf))
 | with_reducible apply_assumption -symm -exfalso)
        all_goals exact FinK.frL rfl (HSub.trans (HSub.app2 (A' := [.ext 0 (J (k + 1)), .blk 11 bx [.loc d 0 0] 23]) (B' := [.ext 12 (OrchA d o), .ext 9 (GlA o0 o1)]) (HSub.refl _) (HSub.app2 (A' := [.ext 12 (OrchA d o)]) (or_id (i := 0) (j := 1) (k := 2) (l := 3) (d := d) (s := o) (t1 := u1) (t2 := u2) (t3 := u3)) (HSub.refl _))) (by (try dsimp only [List.cons_append, List.nil_append, den, denL]); refine SelI.spec ?_; (repeat (first | refine SelI.blk (by repeat (first | with_reducible apply Rm.head | apply Rm.tail)) ?_ | refine SelI.ext (by repeat (first | with_reducible apply Rm.head | apply Rm.tail)) ?_ | (refine SelI.blk' (by repeat (first | with_reducible apply Rm.head | apply Rm.tail)) ?_ ?_; focus rfl) | (refine SelI.ext' (by repeat (first | with_reducible apply Rm.head | apply Rm.tail)) ?_ ?_; focus rfl))); exact SelI.nil))
    · rw [hb, if_pos rfl] at hef
      rw [hef] at hdr
      rw [hbq, hb] at hbusy1093
      repeat' (first
 | with_reducible refine r_stop 4 ?_
 | with_reducible ((first | refine r_seq (fun KS hS => ?_) | (refine hS _ _ ?_; clear hS KS) | (refine hA _ ?_; clear hA KA) | refine r_block ?_))
 | ((with_reducible (first | refine r_region ?_ | refine r_cond (fun KA hA KB hB => ?_) | refine r_skip ?_ | refine And.intro rfl ?_ | intro b)); conv => whnf)
 | ((with_reducible refine OpK.id ?_); (first | refine OpK.idx (k := 3) rfl rfl rfl rfl rfl rfl rfl (Sees.ext (by repeat (first | with_reducible apply At.head | apply At.tail))) (by omega) (by omega) (ef_at he) (fun bq off hpc => ?_) | refine OpK.ldp rfl rfl hpc (List.cons_ne_nil _ _) ?_); conv => whnf)
 | ((with_reducible refine CallK.id ?_); refine CallK.s1V (by repeat (first | with_reducible apply Rm.head | apply Rm.tail)) (fun ms w hk => hstp1092 w) ?_; conv => whnf)
 | (refine if_decT (by omega) ?_; conv => whnf)
 | with_reducible apply_assumption -symm -exfalso)
      refine StopR.mk ?_
      refine Run.ex (A := orH d o) (i := 12) (by repeat (first | with_reducible apply Rm.head | apply Rm.tail)) ?_
      rintro ⟨u1, u2, u3⟩
      dsimp only [orH, layF]
      repeat' (first
 | with_reducible ((first | refine r_seq (fun KS hS => ?_) | (refine hS _ _ ?_; clear hS KS) | (refine hA _ ?_; clear hA KA)))
 | ((with_reducible (first | refine r_region ?_ | refine r_cond (fun KA hA KB hB => ?_) | refine r_exit ?_ | refine And.intro rfl ?_)); conv => whnf)
 | ((with_reducible refine WrapK.i64 ?_ ?_); (focus omega); conv => whnf)
 | (apply r_any (id := 4); refine mixed; kernel_rfl; kernel_rfl; conv => whnf)
 | ((with_reducible refine CallK.id ?_); refine CallK.s1V (by repeat (first | with_reducible apply Rm.head | apply Rm.tail)) (fun ms w hk => hbusy1093 _ w) ?_; conv => whnf)
 | (refine hL2 (i + 1, k) _ _ ⟨by show i + 1 ≤ _; omega, hks, hkL, hdr⟩ (by show (nxE o.sagas).length - (i + 1) < (nxE o.sagas).length - i; omega) (by repeat' (first | exact Sub.nil | (refine Sub.cons rfl rfl ?_))) ?_)
 | ((with_reducible ((first | refine InAt.mk (fun K' hK => ?_) | refine AnyAt.mk (fun K' hK => ?_) | (refine hK _ ?_; clear hK K') | (refine hK _ _ ?_; clear hK K')))); conv => whnf)
 | (refine And.intro ?_ ?_; all_goals (conv => whnf))
 | with_reducible apply_assumption -symm -exfalso)
      all_goals exact HSub.trans (HSub.app2 (A' := [.ext 12 (OrchA d o)]) (or_id (i := 0) (j := 1) (k := 2) (l := 3) (d := d) (s := o) (t1 := u1) (t2 := u2) (t3 := u3)) (HSub.refl [.ext 9 (GlA o0 o1), .ext 1 (SlA 29 3 a (nxE o.sagas).length cap ((nxE o.sagas).flatMap efC)), .ext 0 (J k), .blk 11 bx [.loc d 0 0] 23])) (by (try dsimp only [List.cons_append, List.nil_append, den, denL]); refine SelI.spec ?_; (repeat (first | refine SelI.blk (by repeat (first | with_reducible apply Rm.head | apply Rm.tail)) ?_ | refine SelI.ext (by repeat (first | with_reducible apply Rm.head | apply Rm.tail)) ?_ | (refine SelI.blk' (by repeat (first | with_reducible apply Rm.head | apply Rm.tail)) ?_ ?_; focus rfl) | (refine SelI.ext' (by repeat (first | with_reducible apply Rm.head | apply Rm.tail)) ?_ ?_; focus rfl))); exact SelI.nil)
  · obtain rfl : i = (nxE o.sagas).length := by omega
    rw [List.drop_length, List.filterMap_nil, List.nil_append] at hdr
    refine Run.ex (A := orH d o) (i := 12) (by repeat (first | with_reducible apply Rm.head | apply Rm.tail)) ?_
    rintro ⟨u1, u2, u3⟩
    dsimp only [orH, layF]
    repeat' (first
 | with_reducible ((first | refine r_seq (fun KS hS => ?_) | (refine hS _ _ ?_; clear hS KS) | (refine hB _ ?_; clear hB KB) | refine r_block ?_))
 | ((with_reducible (first | refine r_region ?_ | refine r_cond (fun KA hA KB hB => ?_) | refine r_exit ?_ | refine And.intro rfl ?_ | intro b)); conv => whnf)
 | ((with_reducible refine CallK.id ?_); refine CallK.s1 (by repeat (first | with_reducible apply Rm.head | apply Rm.tail)) (fun ms w hk => mopenL1074 (l := o.moves) hml w) ?_; conv => whnf)
 | (refine if_decF (by omega) ?_; conv => whnf)
 | with_reducible apply_assumption -symm -exfalso)
    rcases b with ⟨a2, cap2⟩
    dsimp only
    clear hwant
    refine r_loop (α := Nat × Nat) (fun z => [(0, .v yv), (1, .loc bx 11 0), (61, .v (.slice a2 (OM.openF 1 o.moves).length cap2)), (62, .v (.int .i64 ((OM.openF 1 o.moves).length : Nat))), (63, .v (.int .i64 (z.1 : Nat)))]) (fun z => [.blk 0 d [.v (.int .i64 o.groups), .v (.int .i64 o.done), .loc u1 20 0, .loc u2 21 0, .loc u3 22 0] 121, .ext 1 (TabA u1 o.sagas), .ext 2 (MvsA u2 o.moves), .ext 3 (PtsA u3 o.parts), .ext 9 (GlA o0 o1), .ext 4 (SlA 3 1 a2 (OM.openF 1 o.moves).length cap2 (opI o.moves)), .ext 0 (J z.2), .blk 11 bx [.loc d 0 0] 23]) (fun z => z.1 ≤ (OM.openF 1 o.moves).length ∧ z.2 ≤ stop ∧ z.2 ≤ o.wanted.length ∧ o.wanted.drop z.2 = ((OM.openF 1 o.moves).drop z.1).map mvW) (fun z => (OM.openF 1 o.moves).length - z.1) (0, k) ⟨Nat.zero_le _, hks, hkL, hdr⟩ (by repeat' (first | exact Sub.nil | (refine Sub.cons rfl rfl ?_))) (by (try dsimp only [List.cons_append, List.nil_append, den, denL]); refine SelI.spec ?_; (repeat (first | refine SelI.blk (by repeat (first | with_reducible apply Rm.head | apply Rm.tail)) ?_ | refine SelI.ext (by repeat (first | with_reducible apply Rm.head | apply Rm.tail)) ?_ | (refine SelI.blk' (by repeat (first | with_reducible apply Rm.head | apply Rm.tail)) ?_ ?_; focus rfl) | (refine SelI.ext' (by repeat (first | with_reducible apply Rm.head | apply Rm.tail)) ?_ ?_; focus rfl))); exact SelI.nil) ?_
    clear hdr hks hkL hL2
    rintro ⟨j, k⟩ ⟨hj, hks, hkL, hdr⟩ KL2 hL3
    dsimp only at hj hks hkL hdr ⊢
    by_cases hlt2 : j < (OM.openF 1 o.moves).length
    · obtain ⟨⟨n, m⟩, hx0⟩ : ∃ x, (OM.openF 1 o.moves)[j]? = some x := ⟨_, List.getElem?_eq_getElem hlt2⟩
      obtain ⟨q, hq, hn, hst3⟩ := OM.openF_mem.1 (List.mem_of_getElem? hx0)
      have hn : n = ((q : Nat) + 1) := by omega
      subst hn
      have hmk := hI.mok m (List.mem_of_getElem? hq)
      have hdr2 : o.wanted.drop k = mvW (((q : Nat) + 1), m) :: ((OM.openF 1 o.moves).drop (j + 1)).map mvW := by
        rw [hdr, List.drop_eq_getElem_cons hlt2, (List.getElem?_eq_some_iff.1 hx0).2]; rfl
      obtain ⟨hx, hd2⟩ := drop_cons hdr2
      have hxk : ((o.wanted.map wtX).map denL)[k]? = some (denL (wtX (mvW (((q : Nat) + 1), m)))) := by
        rw [List.getElem?_map, List.getElem?_map, hx]; rfl
      have hyk := hy k _ hxk hks
      have hkl : k < o.wanted.length := (List.getElem?_eq_some_iff.1 hx).1
      have hol := OM.openF_length o.moves 1
      have hol2 := List.countP_le_length (p := OM.isOpen) (l := o.moves)
      have hmw : OM.mvItem ((q : Nat) + 1) m = if m.st = 2 then (⟨OM.zEff, ((q : Nat) + 1), true, m.to⟩, { OM.zCmd with kind := 4, move := ((q : Nat) + 1), r := m.r, data := m.data }) else (⟨OM.zEff, ((q : Nat) + 1), false, m.fr⟩, { OM.zCmd with kind := 3, move := ((q : Nat) + 1), r := m.r }) := rfl
      rw [show mvW (((q : Nat) + 1), m) = OM.mvItem ((q : Nat) + 1) m from rfl, hmw] at hyk
      clear hdr hdr2 hx hxk hy hI hL
      repeat' (first
 | with_reducible refine r_stop 12 ?_
 | with_reducible ((first | refine r_seq (fun KS hS => ?_) | (refine hS _ _ ?_; clear hS KS) | (refine hA _ ?_; clear hA KA) | refine r_block ?_))
 | ((with_reducible (first | refine r_region ?_ | refine r_cond (fun KA hA KB hB => ?_) | refine r_skip ?_ | refine And.intro rfl ?_ | intro b)); conv => whnf)
 | ((with_reducible refine OpK.id ?_); (first | refine OpK.idx (k := 1) rfl rfl rfl rfl rfl rfl rfl (Sees.ext (by repeat (first | with_reducible apply At.head | apply At.tail))) (by omega) (by omega) (oi_at hx0) (fun bq off hpc => ?_) | refine OpK.ldp rfl rfl hpc (List.cons_ne_nil _ _) ?_); conv => whnf)
 | ((with_reducible refine CallK.id ?_); refine CallK.s1V (by repeat (first | with_reducible apply Rm.head | apply Rm.tail)) (fun ms w hk => mget1065 hq hml w) ?_; conv => whnf)
 | (refine if_decT (by omega) ?_; conv => whnf)
 | with_reducible apply_assumption -symm -exfalso)
      refine StopR.mk ?_
      revert b
      intro bm
      refine r_seq (fun KS2 hS2 => ?_)
      refine r_par (β := Nat) (id := 12) [⟨0, [], none, fun _ _ => .v (.int .i64 ((q : Nat) + 1)), fun _ _ => []⟩, ⟨1, [], none, fun _ _ => .loc bm 1 2, fun _ _ => []⟩, ⟨2, [1], none, fun _ _ => .v (.int .i64 m.fr), fun _ _ => []⟩, ⟨3, [0, 2], none, fun _ _ => .agg [.v (.int .i64 0), .v (.int .i64 0), .v (.int .i64 0), .v (.int .i64 ((q : Nat) + 1)), .v (.bool false), .v (.int .i64 m.fr)], fun _ _ => []⟩, ⟨4, [], none, fun _ _ => .v (.int .i64 ((q : Nat) + 1)), fun _ _ => []⟩, ⟨5, [], none, fun _ _ => .loc bm 1 0, fun _ _ => []⟩, ⟨6, [5], none, fun _ _ => .agg [.v (.string m.r.lo), .v (.string m.r.hi)], fun _ _ => []⟩, ⟨7, [4, 6], none, fun _ _ => .agg [.v (.int .i64 3), .v (.int .i64 0), .v (.int .i64 0), .v (.int .i64 0), .v (.int .i64 0), .v (.int .i64 0), .v (.string ⟨#[]⟩), .v (.int .i64 0), .v (.int .i64 ((q : Nat) + 1)), .v (.string m.r.lo), .v (.string m.r.hi), .v (.int .i64 0), .v (.string ⟨#[]⟩), .v (.int .i64 0), .v (.int .i64 0), .v (.slice none 0 0), .v (.int .i64 0), .v (.int .i64 0), .v (.int .i64 0), .v (.int .i64 0), .v (.bool false), .v (.int .i64 0), .v (.int .i64 0), .v (.string ⟨#[]⟩)], fun _ _ => []⟩, ⟨8, [], none, fun _ q2 => .loc q2 91 0, fun _ q2 => [.blk 91 q2 [.v (.int .i64 0), .v (.int .i64 0), .v (.int .i64 0), .v (.int .i64 0), .v (.bool false), .v (.int .i64 0)] 31]⟩, ⟨9, [], none, fun _ q2 => .loc q2 92 0, fun _ q2 => [.blk 92 q2 [.v (.int .i64 0), .v (.int .i64 0), .v (.int .i64 0), .v (.int .i64 0), .v (.int .i64 0), .v (.int .i64 0), .v (.string ⟨#[]⟩), .v (.int .i64 0), .v (.int .i64 0), .v (.string ⟨#[]⟩), .v (.string ⟨#[]⟩), .v (.int .i64 0), .v (.string ⟨#[]⟩), .v (.int .i64 0), .v (.int .i64 0), .v (.slice none 0 0), .v (.int .i64 0), .v (.int .i64 0), .v (.int .i64 0), .v (.int .i64 0), .v (.bool false), .v (.int .i64 0), .v (.int .i64 0), .v (.string ⟨#[]⟩)] 42]⟩, ⟨10, [3, 8], some 8, fun _ _ => .v undef, fun l _ => match l with | [_, q2] => [.blk 91 q2 [.v (.int .i64 0), .v (.int .i64 0), .v (.int .i64 0), .v (.int .i64 ((q : Nat) + 1)), .v (.bool false), .v (.int .i64 m.fr)] 31] | _ => []⟩, ⟨11, [7, 9], some 9, fun _ _ => .v undef, fun l _ => match l with | [_, q2] => [.blk 92 q2 [.v (.int .i64 3), .v (.int .i64 0), .v (.int .i64 0), .v (.int .i64 0), .v (.int .i64 0), .v (.int .i64 0), .v (.string ⟨#[]⟩), .v (.int .i64 0), .v (.int .i64 ((q : Nat) + 1)), .v (.string m.r.lo), .v (.string m.r.hi), .v (.int .i64 0), .v (.string ⟨#[]⟩), .v (.int .i64 0), .v (.int .i64 0), .v (.slice none 0 0), .v (.int .i64 0), .v (.int .i64 0), .v (.int .i64 0), .v (.int .i64 0), .v (.bool false), .v (.int .i64 0), .v (.int .i64 0), .v (.string ⟨#[]⟩)] 42] | _ => []⟩] [] 0 _ mixed (by kernel_rfl) (by kernel_rfl) (HSub.refl _) ?_ ?_
      · conv => whnf
        repeat' (first | ((with_reducible refine And.intro ?_ ?_); all_goals (conv => whnf)) | ((with_reducible intro zz AA KP hP); conv => whnf))
        repeat' (first
 | ((with_reducible intro b); conv => whnf)
 | ((with_reducible apply hP); all_goals (first | exact (0 : Nat) | ((repeat' (first | exact SubD.nil | (refine SubD.cons rfl rfl ?_))); done) | ((try dsimp only [mapZ, List.cons_append, List.nil_append, den, denL]); refine SelI.spec ?_; repeat (first | apply SelI.nil | refine SelI.blk (by repeat (first | with_reducible apply Rm.head | apply Rm.tail)) ?_ | refine SelI.ext (by repeat (first | with_reducible apply Rm.head | apply Rm.tail)) ?_ | (refine SelI.blk' (by repeat (first | with_reducible apply Rm.head | apply Rm.tail)) ?_ ?_; focus rfl) | (refine SelI.ext' (by repeat (first | with_reducible apply Rm.head | apply Rm.tail)) ?_ ?_; focus rfl))))))
      conv => whnf
      intro zz
      conv => whnf
      try dsimp only
      repeat' (first
 | with_reducible refine r_stop 13 ?_
 | with_reducible refine r_seq (fun KS hS => ?_)
 | with_reducible apply_assumption -symm -exfalso)
      refine StopR.mk ?_
      by_cases h2 : m.st = 2
      · rw [if_pos h2] at hyk
        by_cases hlt3 : k < stop
        · rw [decide_eq_true hlt3] at hyk
          repeat' (first
 | with_reducible ((first | refine r_seq (fun KS hS => ?_) | (refine hS _ _ ?_; clear hS KS) | (refine hA _ ?_; clear hA KA) | (refine hB _ ?_; clear hB KB)))
 | ((with_reducible (first | refine r_region ?_ | refine r_cond (fun KA hA KB hB => ?_) | refine r_skip ?_ | refine And.intro rfl ?_)); conv => whnf)
 | ((with_reducible refine WrapK.i64 ?_ ?_); (focus omega); conv => whnf)
 | (apply r_any (id := 14); refine mixed; kernel_rfl; kernel_rfl; conv => whnf)
 | (apply r_any (id := 15); refine mixed; kernel_rfl; kernel_rfl; conv => whnf)
 | ((with_reducible refine CallV.id ?_); refine CallV.yb (b := true) (by repeat (first | with_reducible apply At.head | apply At.tail)) hyk ?_; conv => whnf)
 | (refine hL3 (j + 1, k + 1) _ _ ⟨by show j + 1 ≤ _; omega, hlt3, hkl, hd2⟩ (by show (OM.openF 1 o.moves).length - (j + 1) < (OM.openF 1 o.moves).length - j; omega) (by repeat' (first | exact Sub.nil | (refine Sub.cons rfl rfl ?_))) ?_)
 | ((with_reducible ((first | refine InAt.mk (fun K' hK => ?_) | refine AnyAt.mk (fun K' hK => ?_) | (refine hK _ ?_; clear hK K') | (refine hK _ _ ?_; clear hK K')))); conv => whnf)
 | (refine And.intro ?_ ?_; all_goals (conv => whnf))
 | (refine if_decT (by omega) ?_; conv => whnf)
 | with_reducible apply_assumption -symm -exfalso)
          all_goals exact (by (try dsimp only [List.cons_append, List.nil_append, den, denL]); refine SelI.spec ?_; (repeat (first | refine SelI.blk (by repeat (first | with_reducible apply Rm.head | apply Rm.tail)) ?_ | refine SelI.ext (by repeat (first | with_reducible apply Rm.head | apply Rm.tail)) ?_ | (refine SelI.blk' (by repeat (first | with_reducible apply Rm.head | apply Rm.tail)) ?_ ?_; focus rfl) | (refine SelI.ext' (by repeat (first | with_reducible apply Rm.head | apply Rm.tail)) ?_ ?_; focus rfl))); exact SelI.nil)
        · rw [decide_eq_false hlt3] at hyk
          have hmin : min (stop + 1) ((o.wanted.map wtX).map denL).length = k + 1 := by rw [List.length_map, List.length_map]; omega
          repeat' (first
 | with_reducible ((first | refine r_seq (fun KS hS => ?_) | (refine hS _ _ ?_; clear hS KS) | (refine hA _ ?_; clear hA KA)))
 | ((with_reducible (first | refine r_region ?_ | refine r_cond (fun KA hA KB hB => ?_) | refine r_ret ?_ | refine And.intro rfl ?_)); conv => whnf)
 | (apply r_any (id := 14); refine mixed; kernel_rfl; kernel_rfl; conv => whnf)
 | (apply r_any (id := 15); refine mixed; kernel_rfl; kernel_rfl; conv => whnf)
 | ((with_reducible refine CallV.id ?_); refine CallV.yb (b := false) (by repeat (first | with_reducible apply At.head | apply At.tail)) hyk ?_; conv => whnf)
 | ((with_reducible ((first | refine InAt.mk (fun K' hK => ?_) | refine AnyAt.mk (fun K' hK => ?_) | (refine hK _ ?_; clear hK K') | (refine hK _ _ ?_; clear hK K')))); conv => whnf)
 | (refine And.intro ?_ ?_; all_goals (conv => whnf))
 | (refine if_decT (by omega) ?_; conv => whnf)
 | with_reducible apply_assumption -symm -exfalso)
          all_goals (rw [hmin]; exact FinK.frL rfl (HSub.trans (HSub.app2 (A' := [.ext 0 (J (k + 1)), .blk 11 bx [.loc d 0 0] 23]) (B' := [.ext 12 (OrchA d o), .ext 9 (GlA o0 o1)]) (HSub.refl _) (HSub.app2 (A' := [.ext 12 (OrchA d o)]) (or_id (i := 0) (j := 1) (k := 2) (l := 3) (d := d) (s := o) (t1 := u1) (t2 := u2) (t3 := u3)) (HSub.refl _))) (by (try dsimp only [List.cons_append, List.nil_append, den, denL]); refine SelI.spec ?_; (repeat (first | refine SelI.blk (by repeat (first | with_reducible apply Rm.head | apply Rm.tail)) ?_ | refine SelI.ext (by repeat (first | with_reducible apply Rm.head | apply Rm.tail)) ?_ | (refine SelI.blk' (by repeat (first | with_reducible apply Rm.head | apply Rm.tail)) ?_ ?_; focus rfl) | (refine SelI.ext' (by repeat (first | with_reducible apply Rm.head | apply Rm.tail)) ?_ ?_; focus rfl))); exact SelI.nil)))
      · rw [if_neg h2] at hyk
        by_cases hlt3 : k < stop
        · rw [decide_eq_true hlt3] at hyk
          repeat' (first
 | with_reducible ((first | refine r_seq (fun KS hS => ?_) | (refine hS _ _ ?_; clear hS KS) | (refine hB _ ?_; clear hB KB)))
 | ((with_reducible (first | refine r_region ?_ | refine r_cond (fun KA hA KB hB => ?_) | refine r_skip ?_ | refine And.intro rfl ?_)); conv => whnf)
 | ((with_reducible refine WrapK.i64 ?_ ?_); (focus omega); conv => whnf)
 | ((with_reducible refine CallV.id ?_); refine CallV.yb (b := true) (by repeat (first | with_reducible apply At.head | apply At.tail)) hyk ?_; conv => whnf)
 | (refine hL3 (j + 1, k + 1) _ _ ⟨by show j + 1 ≤ _; omega, hlt3, hkl, hd2⟩ (by show (OM.openF 1 o.moves).length - (j + 1) < (OM.openF 1 o.moves).length - j; omega) (by repeat' (first | exact Sub.nil | (refine Sub.cons rfl rfl ?_))) ?_)
 | (refine if_decF (by omega) ?_; conv => whnf)
 | with_reducible apply_assumption -symm -exfalso)
          all_goals exact (by (try dsimp only [List.cons_append, List.nil_append, den, denL]); refine SelI.spec ?_; (repeat (first | refine SelI.blk (by repeat (first | with_reducible apply Rm.head | apply Rm.tail)) ?_ | refine SelI.ext (by repeat (first | with_reducible apply Rm.head | apply Rm.tail)) ?_ | (refine SelI.blk' (by repeat (first | with_reducible apply Rm.head | apply Rm.tail)) ?_ ?_; focus rfl) | (refine SelI.ext' (by repeat (first | with_reducible apply Rm.head | apply Rm.tail)) ?_ ?_; focus rfl))); exact SelI.nil)
        · rw [decide_eq_false hlt3] at hyk
          have hmin : min (stop + 1) ((o.wanted.map wtX).map denL).length = k + 1 := by rw [List.length_map, List.length_map]; omega
          repeat' (first
 | with_reducible ((first | refine r_seq (fun KS hS => ?_) | (refine hS _ _ ?_; clear hS KS) | (refine hA _ ?_; clear hA KA) | (refine hB _ ?_; clear hB KB)))
 | ((with_reducible (first | refine r_region ?_ | refine r_cond (fun KA hA KB hB => ?_) | refine r_ret ?_ | refine r_skip ?_ | refine And.intro rfl ?_)); conv => whnf)
 | ((with_reducible refine CallV.id ?_); refine CallV.yb (b := false) (by repeat (first | with_reducible apply At.head | apply At.tail)) hyk ?_; conv => whnf)
 | (refine if_decF (by omega) ?_; conv => whnf)
 | with_reducible apply_assumption -symm -exfalso)
          all_goals (rw [hmin]; exact FinK.frL rfl (HSub.trans (HSub.app2 (A' := [.ext 0 (J (k + 1)), .blk 11 bx [.loc d 0 0] 23]) (B' := [.ext 12 (OrchA d o), .ext 9 (GlA o0 o1)]) (HSub.refl _) (HSub.app2 (A' := [.ext 12 (OrchA d o)]) (or_id (i := 0) (j := 1) (k := 2) (l := 3) (d := d) (s := o) (t1 := u1) (t2 := u2) (t3 := u3)) (HSub.refl _))) (by (try dsimp only [List.cons_append, List.nil_append, den, denL]); refine SelI.spec ?_; (repeat (first | refine SelI.blk (by repeat (first | with_reducible apply Rm.head | apply Rm.tail)) ?_ | refine SelI.ext (by repeat (first | with_reducible apply Rm.head | apply Rm.tail)) ?_ | (refine SelI.blk' (by repeat (first | with_reducible apply Rm.head | apply Rm.tail)) ?_ ?_; focus rfl) | (refine SelI.ext' (by repeat (first | with_reducible apply Rm.head | apply Rm.tail)) ?_ ?_; focus rfl))); exact SelI.nil)))
    · obtain rfl : j = (OM.openF 1 o.moves).length := by omega
      rw [List.drop_length, List.map_nil] at hdr
      have hkl : o.wanted.length ≤ k := List.drop_eq_nil_iff.1 hdr
      have hmin : min (stop + 1) ((o.wanted.map wtX).map denL).length = k := by rw [List.length_map, List.length_map]; omega
      repeat' (first
 | with_reducible ((first | refine r_seq (fun KS hS => ?_) | (refine hS _ _ ?_; clear hS KS) | (refine hB _ ?_; clear hB KB)))
 | ((with_reducible (first | refine r_region ?_ | refine r_cond (fun KA hA KB hB => ?_) | refine r_exit ?_)); conv => whnf)
 | (refine if_decF (by omega) ?_; conv => whnf))
      rw [hmin]
      exact FinK.frL rfl (HSub.trans (HSub.app2 (A' := [.ext 0 (J k), .blk 11 bx [.loc d 0 0] 23]) (B' := [.ext 12 (OrchA d o), .ext 9 (GlA o0 o1)]) (HSub.refl _) (HSub.app2 (A' := [.ext 12 (OrchA d o)]) (or_id (i := 0) (j := 1) (k := 2) (l := 3) (d := d) (s := o) (t1 := u1) (t2 := u2) (t3 := u3)) (HSub.refl _))) (by (try dsimp only [List.cons_append, List.nil_append, den, denL]); refine SelI.spec ?_; (repeat (first | refine SelI.blk (by repeat (first | with_reducible apply Rm.head | apply Rm.tail)) ?_ | refine SelI.ext (by repeat (first | with_reducible apply Rm.head | apply Rm.tail)) ?_ | (refine SelI.blk' (by repeat (first | with_reducible apply Rm.head | apply Rm.tail)) ?_ ?_; focus rfl) | (refine SelI.ext' (by repeat (first | with_reducible apply Rm.head | apply Rm.tail)) ?_ ?_; focus rfl))); exact SelI.nil))
end Go.Proofs.YtjkmpaggfbghiaaGreatDoor

namespace Go.Proofs.YtjkmpaggfbghiaaGreatDoor
open Go Go.RowKit Go.Maps Go.Sort Go.Shelf Go.X Go.Proofs
abbrev OMI := {x : OM.Item // x.ok = true}
theorem omi_ok {x : OM.Item} (h : x.ok = true) : 1 ≤ x.group ∧ x.group ≤ 7 ∧ ((x.move = 0 ∧ x.in_ = false ∧ 1 ≤ x.eff.saga ∧ x.eff.saga ≤ 9999 ∧ 0 ≤ x.eff.step ∧ x.eff.step < 8 ∧ 1 ≤ x.eff.phase ∧ x.eff.phase ≤ 3) ∨ (1 ≤ x.move ∧ x.move ≤ 64 ∧ x.eff = OM.zEff)) := by
  unfold OM.Item.ok at h
  simp only [Bool.and_eq_true, decide_eq_true_eq] at h
  obtain ⟨⟨h1, h2⟩, h3⟩ := h
  refine ⟨h1, h2, ?_⟩
  split at h3
  · rename_i hc
    simp only [Bool.and_eq_true, decide_eq_true_eq] at h3
    exact .inl ⟨hc.1, hc.2, h3.1.1.1.1.1, h3.1.1.1.1.2, h3.1.1.1.2, h3.1.1.2, h3.1.2, h3.2⟩
  · simp only [Bool.and_eq_true, decide_eq_true_eq, beq_iff_eq] at h3
    exact .inr ⟨h3.1.1, h3.1.2, h3.2⟩
theorem itemNum_bd {x : OM.Item} (h : x.ok = true) : 0 ≤ OM.itemNum x ∧ OM.itemNum x < 2000000 := by
  obtain ⟨h1, h2, h3⟩ := omi_ok h
  unfold OM.itemNum
  rcases h3 with ⟨a, b, c⟩ | ⟨a, b, c⟩
  · rw [if_pos a]; omega
  · rw [if_neg (by omega)]; split <;> omega
theorem effK130 {s t p : Int} (h : 1 ≤ s ∧ s ≤ 9999 ∧ 0 ≤ t ∧ t < 8 ∧ 1 ≤ p ∧ p ≤ 3) (W : World) : Calls Tryz.prog 130 #[.agg #[.int .i64 s, .int .i64 t, .int .i64 p]] W fun e w' => e = .returned (.int .i64 0) ∧ Gr W w' := by
  go_enter Tryz.func130, Tryz.ntmps130
  go_wp2
  all_goals first | (exfalso; omega) | skip
  go_ret
  exact ⟨rfl, (Gr.refl W).alloc _⟩
theorem itemK69 {x : OM.Item} (h : x.ok = true) (W : World) : Calls Tryz.prog 69 #[.agg (itC x).toArray] W fun e w' => e = .returned (.int .i64 0) ∧ Gr W w' := by
  obtain ⟨h1, h2, h3⟩ := omi_ok h
  obtain ⟨⟨s, t, p⟩, m, i, g⟩ := x
  clear h
  dsimp only at h1 h2 h3
  rcases h3 with ⟨h6, h7, h3⟩ | ⟨h6, h7, h8⟩
  · obtain rfl : m = 0 := h6
    obtain rfl : i = false := h7
    have h75 := fun W' => effK130 h3 W'
    show Calls Tryz.prog 69 #[.agg #[.int .i64 s, .int .i64 t, .int .i64 p, .int .i64 0, .bool false, .int .i64 g]] W _
    go_enter Tryz.func69, Tryz.ntmps69
    go_wp2_with (go_at_call 130; refine (h75 _).mono ?_; rintro e w' ⟨rfl, hg⟩)
    all_goals first | (exfalso; omega) | (go_ret; exact ⟨rfl, ((Gr.refl W).alloc _).trans ‹_›⟩)
  · unfold OM.zEff at h8
    simp only [OM.Eff.mk.injEq] at h8
    obtain ⟨rfl, rfl, rfl⟩ := h8
    show Calls Tryz.prog 69 #[.agg #[.int .i64 0, .int .i64 0, .int .i64 0, .int .i64 m, .bool i, .int .i64 g]] W _
    go_enter Tryz.func69, Tryz.ntmps69
    go_wp2
    all_goals first | (exfalso; omega) | (go_ret; exact ⟨rfl, (Gr.refl W).alloc _⟩)
theorem numberK29 {x : OM.Item} (h : x.ok = true) (W : World) : Calls Tryz.prog 29 #[.agg (itC x).toArray] W fun e w' => e = .returned (.tuple #[.int .i64 (OM.itemNum x), .int .i64 0]) ∧ Gr W w' := by
  obtain ⟨h1, h2, h3⟩ := omi_ok h
  have h47 := fun W' => itemK69 h W'
  obtain ⟨⟨s, t, p⟩, m, i, g⟩ := x
  clear h
  unfold OM.itemNum
  show Calls Tryz.prog 29 #[.agg #[.int .i64 s, .int .i64 t, .int .i64 p, .int .i64 m, .bool i, .int .i64 g]] W _
  change ∀ W', Calls Tryz.prog 69 #[.agg #[.int .i64 s, .int .i64 t, .int .i64 p, .int .i64 m, .bool i, .int .i64 g]] W' _ at h47
  dsimp only at h1 h2 h3 ⊢
  rcases h3 with ⟨h6, h7, h3⟩ | ⟨h6, h7, h8⟩
  · obtain rfl : m = 0 := h6
    obtain rfl : i = false := h7
    simp only [if_true]
    go_enter Tryz.func29, Tryz.ntmps29
    go_wp2_with (go_at_call 69; refine (h47 _).mono ?_; rintro e w' ⟨rfl, hg⟩; have c0 := hg.new (j := 0) rfl; have c1 := hg.new (j := 1) rfl; have c2 := hg.new (j := 2) rfl; have c3 := hg.new (j := 3) rfl; have c4 := hg.new (j := 4) rfl; have c5 := hg.new (j := 5) rfl)
    all_goals (go_ret2; exact ⟨rfl, ((Gr.refl W).alloc _).trans hg⟩)
  · unfold OM.zEff at h8
    simp only [OM.Eff.mk.injEq] at h8
    obtain ⟨rfl, rfl, rfl⟩ := h8
    have hm : ¬ m = 0 := by omega
    rw [if_neg hm]
    cases i
    · simp only [Bool.false_eq_true, if_false]
      go_enter Tryz.func29, Tryz.ntmps29
      go_wp2_with (go_at_call 69; refine (h47 _).mono ?_; rintro e w' ⟨rfl, hg⟩; have c0 := hg.new (j := 0) rfl; have c1 := hg.new (j := 1) rfl; have c2 := hg.new (j := 2) rfl; have c3 := hg.new (j := 3) rfl; have c4 := hg.new (j := 4) rfl; have c5 := hg.new (j := 5) rfl)
      all_goals first | (exfalso; omega) | (go_ret2; exact ⟨rfl, ((Gr.refl W).alloc _).trans hg⟩)
    · simp only [if_true]
      go_enter Tryz.func29, Tryz.ntmps29
      go_wp2_with (go_at_call 69; refine (h47 _).mono ?_; rintro e w' ⟨rfl, hg⟩; have c0 := hg.new (j := 0) rfl; have c1 := hg.new (j := 1) rfl; have c2 := hg.new (j := 2) rfl; have c3 := hg.new (j := 3) rfl; have c4 := hg.new (j := 4) rfl; have c5 := hg.new (j := 5) rfl)
      all_goals first | (exfalso; omega) | (go_ret2; exact ⟨rfl, ((Gr.refl W).alloc _).trans hg⟩)
theorem numK45 {x : OM.Item} (h : x.ok = true) (W : World) : Calls Tryz.prog 45 #[.agg (itC x).toArray] W fun e w' => e = .returned (.int .i64 (OM.itemNum x)) ∧ Gr W w' := by
  have h47 := fun W' => numberK29 h W'
  generalize OM.itemNum x = n at *
  obtain ⟨⟨s, t, p⟩, m, i, g⟩ := x
  clear h
  show Calls Tryz.prog 45 #[.agg #[.int .i64 s, .int .i64 t, .int .i64 p, .int .i64 m, .bool i, .int .i64 g]] W _
  change ∀ W', Calls Tryz.prog 29 #[.agg #[.int .i64 s, .int .i64 t, .int .i64 p, .int .i64 m, .bool i, .int .i64 g]] W' _ at h47
  go_enter Tryz.func45, Tryz.ntmps45
  go_wp2_with (go_at_call 29; refine (h47 _).mono ?_; rintro e w' ⟨rfl, hg⟩)
  all_goals (go_ret; exact ⟨rfl, ((Gr.refl W).alloc _).trans hg⟩)
theorem gr_cell {w w' : World} (h : Gr w w') {a : Addr} {v : Value} (hc : w.cell? a = some v) : w'.cell? a = some v := by
  obtain ⟨q, os, rfl⟩ := h
  refine cell_gr ?_ hc q os
  unfold World.cell? at hc
  by_cases hb : a.block < w.heap.size
  · exact hb
  · rw [Array.getElem?_eq_none (by omega)] at hc
    cases hc
theorem keepL {W w w' : World} {xs xt xp xm xg ys yt yp ym yg : Int} {xi yi : Bool} (h : Gr W w ∧ w.cell? ⟨W.heap.size, 0, none⟩ = some (.int .i64 xs) ∧ w.cell? ⟨W.heap.size, 1, none⟩ = some (.int .i64 xt) ∧ w.cell? ⟨W.heap.size, 2, none⟩ = some (.int .i64 xp) ∧ w.cell? ⟨W.heap.size, 3, none⟩ = some (.int .i64 xm) ∧ w.cell? ⟨W.heap.size, 4, none⟩ = some (.bool xi) ∧ w.cell? ⟨W.heap.size, 5, none⟩ = some (.int .i64 xg) ∧ w.cell? ⟨W.heap.size + 1, 0, none⟩ = some (.int .i64 ys) ∧ w.cell? ⟨W.heap.size + 1, 1, none⟩ = some (.int .i64 yt) ∧ w.cell? ⟨W.heap.size + 1, 2, none⟩ = some (.int .i64 yp) ∧ w.cell? ⟨W.heap.size + 1, 3, none⟩ = some (.int .i64 ym) ∧ w.cell? ⟨W.heap.size + 1, 4, none⟩ = some (.bool yi) ∧ w.cell? ⟨W.heap.size + 1, 5, none⟩ = some (.int .i64 yg)) (hg : Gr w w') : Gr W w' ∧ w'.cell? ⟨W.heap.size, 0, none⟩ = some (.int .i64 xs) ∧ w'.cell? ⟨W.heap.size, 1, none⟩ = some (.int .i64 xt) ∧ w'.cell? ⟨W.heap.size, 2, none⟩ = some (.int .i64 xp) ∧ w'.cell? ⟨W.heap.size, 3, none⟩ = some (.int .i64 xm) ∧ w'.cell? ⟨W.heap.size, 4, none⟩ = some (.bool xi) ∧ w'.cell? ⟨W.heap.size, 5, none⟩ = some (.int .i64 xg) ∧ w'.cell? ⟨W.heap.size + 1, 0, none⟩ = some (.int .i64 ys) ∧ w'.cell? ⟨W.heap.size + 1, 1, none⟩ = some (.int .i64 yt) ∧ w'.cell? ⟨W.heap.size + 1, 2, none⟩ = some (.int .i64 yp) ∧ w'.cell? ⟨W.heap.size + 1, 3, none⟩ = some (.int .i64 ym) ∧ w'.cell? ⟨W.heap.size + 1, 4, none⟩ = some (.bool yi) ∧ w'.cell? ⟨W.heap.size + 1, 5, none⟩ = some (.int .i64 yg) := by
  obtain ⟨k0, k1, k2, k3, k4, k5, k6, k7, k8, k9, k10, k11, k12⟩ := h
  exact ⟨k0.trans hg, gr_cell hg k1, gr_cell hg k2, gr_cell hg k3, gr_cell hg k4, gr_cell hg k5, gr_cell hg k6, gr_cell hg k7, gr_cell hg k8, gr_cell hg k9, gr_cell hg k10, gr_cell hg k11, gr_cell hg k12⟩
theorem itemsK44a {N : Int → Int → Int → Int → Bool → Int → Int} {O : Int → Int → Int → Int → Bool → Int → Prop}
    (hk : ∀ {s t p m : Int} {i : Bool} {g : Int}, O s t p m i g → ∀ W', Calls Tryz.prog 45 #[.agg #[.int .i64 s, .int .i64 t, .int .i64 p, .int .i64 m, .bool i, .int .i64 g]] W' fun e w' => e = .returned (.int .i64 (N s t p m i g)) ∧ Gr W' w')
    {xs xt xp xm xg ys yt yp ym yg : Int} {xi yi : Bool} (hx : O xs xt xp xm xi xg) (hy : O ys yt yp ym yi yg) (hw : IntKind.i64.wrap (N xs xt xp xm xi xg - N ys yt yp ym yi yg) = N xs xt xp xm xi xg - N ys yt yp ym yi yg) (W : World) :
    Calls Tryz.prog 44 #[.agg #[.int .i64 xs, .int .i64 xt, .int .i64 xp, .int .i64 xm, .bool xi, .int .i64 xg], .agg #[.int .i64 ys, .int .i64 yt, .int .i64 yp, .int .i64 ym, .bool yi, .int .i64 yg]] W fun e w' => e = .returned (.int .i64 (N xs xt xp xm xi xg - N ys yt yp ym yi yg)) ∧ Gr W w' := by
  go_enter Tryz.func44, Tryz.ntmps44
  go_wp2
  go_region_held3 (fun w' => Gr W w' ∧ w'.cell? ⟨W.heap.size, 0, none⟩ = some (.int .i64 xs) ∧ w'.cell? ⟨W.heap.size, 1, none⟩ = some (.int .i64 xt) ∧ w'.cell? ⟨W.heap.size, 2, none⟩ = some (.int .i64 xp) ∧ w'.cell? ⟨W.heap.size, 3, none⟩ = some (.int .i64 xm) ∧ w'.cell? ⟨W.heap.size, 4, none⟩ = some (.bool xi) ∧ w'.cell? ⟨W.heap.size, 5, none⟩ = some (.int .i64 xg) ∧ w'.cell? ⟨W.heap.size + 1, 0, none⟩ = some (.int .i64 ys) ∧ w'.cell? ⟨W.heap.size + 1, 1, none⟩ = some (.int .i64 yt) ∧ w'.cell? ⟨W.heap.size + 1, 2, none⟩ = some (.int .i64 yp) ∧ w'.cell? ⟨W.heap.size + 1, 3, none⟩ = some (.int .i64 ym) ∧ w'.cell? ⟨W.heap.size + 1, 4, none⟩ = some (.bool yi) ∧ w'.cell? ⟨W.heap.size + 1, 5, none⟩ = some (.int .i64 yg)) (first | (with_reducible exact hh) | (((repeat' (with_reducible apply And.intro)) <;> first | (with_reducible exact (((Gr.refl W).alloc _).alloc _).drew) | (simp [go_sem, World.cell?_alloc_past]; done))))
    ((go_at_call 45; refine (hk ?_ _).mono ?_; (with_reducible assumption); rintro e w' ⟨rfl, hg⟩; have hh := keepL (by assumption) hg))
  all_goals (rename_i hh; go_wp2; go_ret; exact ⟨rfl, hh.1⟩)
theorem itemsK44 {x y : OM.Item} (hx : x.ok = true) (hy : y.ok = true) (W : World) : Calls Tryz.prog 44 #[.agg (itC x).toArray, .agg (itC y).toArray] W fun e w' => e = .returned (.int .i64 (OM.itemNum x - OM.itemNum y)) ∧ Gr W w' := by
  have ha2 := itemNum_bd hx
  have hb2 := itemNum_bd hy
  obtain ⟨⟨xs, xt, xp⟩, xm, xi, xg⟩ := x
  obtain ⟨⟨ys, yt, yp⟩, ym, yi, yg⟩ := y
  exact itemsK44a (N := fun s t p m i g => OM.itemNum ⟨⟨s, t, p⟩, m, i, g⟩) (O := fun s t p m i g => OM.Item.ok ⟨⟨s, t, p⟩, m, i, g⟩ = true) (fun h W' => numK45 h W') hx hy (IntWalk.i64_in _ (by omega)) W
instance : Inhabited OMI := ⟨⟨⟨⟨1, 0, 1⟩, 0, false, 1⟩, by decide⟩⟩
abbrev OMI.cells (x : OMI) : List Value := itC x.1
theorem swoNum : SWO (ltOf fun x y : OMI => OM.itemNum x.1 - OM.itemNum y.1) where
  irrefl := fun x => by simp [ltOf]
  trans := fun x y z h1 h2 => by simp [ltOf] at *; omega
  ntrans := fun x y z h1 h2 => by simp [ltOf] at *; omega
theorem sortOk43 {cap : Nat} {a : Option Addr} (l : List OMI) (hsz : l.length ≤ 1000000) (w : World) :
    FrZ Tryz.prog 43 #[.slice a l.length cap, .func (.func 44) #[] #[]] w (SlA 31 6 a l.length cap (l.flatMap OMI.cells)) (fun _ : {l' : List OMI // l'.Perm l ∧ l'.Pairwise fun x y => ltOf (fun x y : OMI => OM.itemNum x.1 - OM.itemNum y.1) y x = false} => .tuple #[]) (fun l' => SlA 31 6 a l.length cap (l'.1.flatMap OMI.cells)) :=
  sortOk_of (k := 6) (ρ := Tryz.sortF_ren) Tryz.sortF ⟨_, Tryz.func43, by kernel_rfl, by kernel_rfl⟩ Tryz.isAgg31 Tryz.sizeOf31 (fun _ => rfl) (by decide) (fun x v hv => by
    have : v ∈ [Value.int .i64 x.1.eff.saga, .int .i64 x.1.eff.step, .int .i64 x.1.eff.phase, .int .i64 x.1.move, .bool x.1.in_, .int .i64 x.1.group] := hv
    simp only [List.mem_cons, List.not_mem_nil, or_false] at this
    rcases this with rfl | rfl | rfl | rfl | rfl | rfl <;> rfl) _ swoNum 44 #[] (enters_of Tryz.func44 (by kernel_rfl) rfl) (fun x y W => itemsK44 x.2 y.2 W) l hsz w
end Go.Proofs.YtjkmpaggfbghiaaGreatDoor

namespace Go.Proofs.YtjkmpaggfbghiaaGreatDoor
open Go Go.X
theorem made1041 {d : Nat} {o : OM.St} (hg : 0 < o.groups) (w : World) :
    Fr Tryz.prog 41 #[pv d] w (AssL [.ext 12 (OrchA d o)]) (.bool true) (AssL [.ext 12 (OrchA d o)]) := by
  refine enter_fr TBok (H := [.ext 12 (OrchA d o)]) all_foot Tryz.func41 rfl rfl Tryz.ntmps41 [.loc d 0 0] rfl rfl ?_
  intro S
  conv => whnf
  refine Run.ex (A := orH d o) (i := 12) .head ?_
  rintro ⟨t1, t2, t3⟩
  dsimp only [orH, layF]
  have hdec : decide (0 < o.groups) = true := decide_eq_true hg
  repeat' (first
 | with_reducible ((first | refine r_seq (fun KS hS => ?_) | (refine hS _ _ ?_; clear hS KS)))
 | ((with_reducible (first | refine r_region ?_ | refine r_ret ?_ | refine And.intro rfl ?_)); conv => whnf)
 | ((with_reducible apply OpK.more); (focus refine sok); (conv => whnf); fail_if_success guard_target =ₛ False))
  all_goals exact FinK.frL (by rw [hdec]; rfl) (HSub.trans (or_id (i := 0) (j := 1) (k := 2) (l := 3) (d := d) (s := o) (t1 := t1) (t2 := t2) (t3 := t3)) (by (try dsimp only [List.cons_append, List.nil_append, den, denL]); refine SelI.spec ?_; (repeat (first | refine SelI.blk (by repeat (first | with_reducible apply Rm.head | apply Rm.tail)) ?_ | refine SelI.ext (by repeat (first | with_reducible apply Rm.head | apply Rm.tail)) ?_ | (refine SelI.blk' (by repeat (first | with_reducible apply Rm.head | apply Rm.tail)) ?_ ?_; focus rfl) | (refine SelI.ext' (by repeat (first | with_reducible apply Rm.head | apply Rm.tail)) ?_ ?_; focus rfl))); exact SelI.nil))
end Go.Proofs.YtjkmpaggfbghiaaGreatDoor

namespace Go.Proofs.YtjkmpaggfbghiaaGreatDoor
open Go Go.X
open Go.Proofs
theorem in1042 : InSt 42 Tryz.f42 4 := InSt.mk' Tryz.func42 rfl Tryz.ntmps42
abbrev imC (o : OM.St) : List Value := o.items.flatMap itC
theorem items_len {o : OM.St} : o.items.length = o.wanted.length := by unfold OM.St.items; exact List.length_map ..
theorem wanted_le {o : OM.St} (h : OM.Inv o) : o.wanted.length ≤ 128 := by
  unfold OM.St.wanted
  rw [List.length_append, List.length_map]
  have h1 : o.effs.length ≤ o.sagas.length := by unfold OM.St.effs; exact List.length_filterMap_le ..
  have h2 : o.openM.length ≤ o.moves.length := by
    unfold OM.St.openM
    rw [OM.openF_length]
    exact List.countP_le_length
  have := h.slen
  have := h.mlen
  omega
def omis {o : OM.St} (h : OM.Inv o) : List OMI := o.wanted.attach.map fun x => ⟨x.1.1, OM.item_ok (c := x.1.2) h x.2⟩
theorem omis_val {o : OM.St} (h : OM.Inv o) : (omis h).map (·.1) = o.items := by
  unfold omis OM.St.items
  rw [List.map_map]
  conv => rhs; rw [← List.attach_map_subtype_val o.wanted]
  rw [List.map_map]
  rfl
theorem omis_len {o : OM.St} (h : OM.Inv o) : (omis h).length = o.items.length := by rw [← omis_val h, List.length_map]
theorem omis_cells {l : List OMI} : l.flatMap OMI.cells = (l.map (·.1)).flatMap itC := by
  rw [List.flatMap_map]
theorem omis_sorted {o : OM.St} (h : OM.Inv o) : (omis h).Pairwise fun x y => OM.itemNum x.1 < OM.itemNum y.1 := by
  have h1 := OM.items_sorted h
  have h2 : o.items.Pairwise fun x y => OM.itemNum x < OM.itemNum y := by
    unfold OM.St.items
    rw [List.pairwise_map]; exact h1
  rw [← omis_val h, List.pairwise_map] at h2
  exact h2
theorem perm_sorted_eq {α : Type} {f : α → Int} : ∀ {l l' : List α}, l'.Perm l → l.Pairwise (fun x y => f x < f y) → l'.Pairwise (fun x y => f x ≤ f y) → l' = l
  | [], l', hp, _, _ => hp.eq_nil
  | x :: l, [], hp, _, _ => by simp at hp
  | x :: l, y :: l', hp, h1, h2 => by
    obtain ⟨a1, a2⟩ := List.pairwise_cons.1 h1
    obtain ⟨b1, b2⟩ := List.pairwise_cons.1 h2
    have hxy : y = x := by
      have hy : y ∈ x :: l := hp.subset (by simp)
      have hx : x ∈ y :: l' := hp.symm.subset (by simp)
      rcases List.mem_cons.1 hy with h | h
      · exact h
      · rcases List.mem_cons.1 hx with h' | h'
        · exact h'.symm
        · have := a1 y h; have := b1 x h'; omega
    subst hxy
    rw [perm_sorted_eq (List.Perm.cons_inv hp) a2 b2]
theorem itemsSorted1043 {o : OM.St} (h : OM.Inv o) {a : Option Addr} {cap : Nat} (w : World) :
    Fr Tryz.prog 43 #[.slice a o.items.length cap, .func (.func 44) #[] #[]] w (SlA 31 6 a o.items.length cap (imC o)) (.tuple #[]) (SlA 31 6 a o.items.length cap (imC o)) := by
  have hl := wanted_le h
  have hc : (omis h).flatMap OMI.cells = imC o := by rw [omis_cells, omis_val]
  have hs := sortOk43 (a := a) (cap := cap) (omis h) (by rw [omis_len, items_len]; omega) w
  rw [omis_len, hc] at hs
  intro S hS hlt
  refine (hs S hS hlt).mono ?_
  rintro e w' ⟨⟨l', hp, hw⟩, rfl, hq⟩
  have : l' = omis h := perm_sorted_eq (f := fun x : OMI => OM.itemNum x.1) hp (omis_sorted h) (hw.imp fun {x y} hxy => by
    simp only [ltOf, decide_eq_false_iff_not] at hxy
    omega)
  subst this
  dsimp only at hq
  rw [hc] at hq
  exact ⟨rfl, hq⟩
theorem items1012 {d : Nat} {o : OM.St} {o0 o1 : Obj} (hko : KObj o0 o1) (hI : OM.Inv o) (w : World) :
    FrZ Tryz.prog 12 #[pv d] w (AssL [.ext 12 (OrchA d o), .ext 9 (GlA o0 o1)]) (fun z : Option Addr × Nat => .slice z.1 o.items.length z.2) (fun z => AssL [.ext 12 (OrchA d o), .ext 9 (GlA o0 o1), .ext 1 (SlA 31 6 z.1 o.items.length z.2 (imC o))]) := by
  have hwl := wanted_le hI
  refine enter_frZ TBok (H := [.ext 12 (OrchA d o), .ext 9 (GlA o0 o1)]) all_foot Tryz.func12 rfl rfl Tryz.ntmps12 [.loc d 0 0] rfl rfl ?_
  intro S _ _
  conv => whnf
  repeat' (first
 | with_reducible refine r_stop 4 ?_
 | with_reducible ((first | refine r_seq (fun KS hS => ?_) | (refine hS _ _ ?_; clear hS KS) | (refine hB _ ?_; clear hB KB)))
 | ((with_reducible (first | refine r_region ?_ | refine r_cond (fun KA hA KB hB => ?_) | refine r_skip ?_ | intro b)); conv => whnf)
 | ((with_reducible refine CallK.id ?_); refine CallK.s1V (by repeat (first | with_reducible apply Rm.head | apply Rm.tail)) (fun ms w hk => made1041 (by have := hI.gr; omega) w) ?_; conv => whnf)
 | with_reducible apply_assumption -symm -exfalso)
  refine StopR.mk ?_
  revert b
  intro bk
  repeat' (first
 | with_reducible ((first | refine r_seq (fun KS hS => ?_) | (refine hS _ _ ?_; clear hS KS) | refine r_block ?_))
 | ((with_reducible (first | refine r_region ?_ | refine r_ret ?_ | refine And.intro rfl ?_ | intro b)); conv => whnf)
 | (apply in1042; rfl; rfl; rfl; intro A; conv => whnf))
  refine r_rangeN (fun i => [.ext 5 (BxE 10 25 31 6 bk i ((o.items.take i).flatMap itC))]) (o.wanted.map wtX) 40 rfl ?_ (wanted1090 (d := d) (bx := b) hko hI) ?_ (by decide) ?_ ?_
  · exact HSub.trans (HSub.app2 (A' := [.blk 11 b [.loc d 0 0] 23, .ext 12 (OrchA d o), .ext 9 (GlA o0 o1)]) (HSub.refl _) (bx_nil (j := 10))) (by (try dsimp only [List.cons_append, List.nil_append, den, denL]); refine SelI.spec ?_; (repeat (first | refine SelI.blk (by repeat (first | with_reducible apply Rm.head | apply Rm.tail)) ?_ | refine SelI.ext (by repeat (first | with_reducible apply Rm.head | apply Rm.tail)) ?_ | (refine SelI.blk' (by repeat (first | with_reducible apply Rm.head | apply Rm.tail)) ?_ ?_; focus rfl) | (refine SelI.ext' (by repeat (first | with_reducible apply Rm.head | apply Rm.tail)) ?_ ?_; focus rfl))); exact SelI.nil)
  · intro x hx
    obtain ⟨y, _, rfl⟩ := List.mem_map.1 hx
    rfl
  · intro i x hx lp rc W' S'
    rw [List.getElem?_map, Option.map_eq_some_iff] at hx
    obtain ⟨⟨x, c⟩, hx, rfl⟩ := hx
    have hi : o.items[i]? = some x := by unfold OM.St.items; rw [List.getElem?_map, hx]; rfl
    have hil : i < o.wanted.length := (List.getElem?_eq_some_iff.1 hx).1
    have htk : (o.items.take (i + 1)).flatMap itC = (o.items.take i).flatMap itC ++ itC x := by rw [← take_snoc hi, List.flatMap_append, List.flatMap_singleton]
    conv => whnf
    repeat' (first
 | ((with_reducible (first | refine r_region ?_ | refine And.intro rfl ?_ | intro b)); conv => whnf))
    refine AssignX.rm (by repeat (first | with_reducible apply Rm.head | apply Rm.tail)) ?_
    refine Run.ex (A := bxH 10 25 31 6 bk i ((o.items.take i).flatMap itC)) (i := 5) (by repeat (first | with_reducible apply Rm.head | apply Rm.tail)) ?_
    rintro ⟨a, cap⟩
    dsimp only [bxH, layF]
    repeat' (first
 | with_reducible refine r_block ?_
 | ((with_reducible (first | refine r_region ?_ | refine And.intro rfl ?_ | intro b)); conv => whnf)
 | ((with_reducible refine OpK.id ?_); refine OpK.app (k := 6) rfl rfl rfl rfl rfl rfl rfl rfl (by repeat (first | with_reducible apply At.head | apply At.tail)) (SrcK.slc rfl rfl (by repeat (first | constructor | apply List.Mem.tail)) (Nat.le_refl _) rfl) (big_ok (by omega) (by decide)) (fun a' cap' => ?_); conv => whnf))
    rw [htk]
    exact ⟨rfl, HSub.trans (HSub.app2 (A' := [.ext 40 _]) (HSub.refl _) (bx_id (i := 3) (j := 10) (a := a') (cap := cap'))) (by (try dsimp only [List.cons_append, List.nil_append, den, denL]); refine SelI.spec ?_; (repeat (first | refine SelI.blk (by repeat (first | with_reducible apply Rm.head | apply Rm.tail)) ?_ | refine SelI.ext (by repeat (first | with_reducible apply Rm.head | apply Rm.tail)) ?_ | (refine SelI.blk' (by repeat (first | with_reducible apply Rm.head | apply Rm.tail)) ?_ ?_; focus rfl) | (refine SelI.ext' (by repeat (first | with_reducible apply Rm.head | apply Rm.tail)) ?_ ?_; focus rfl))); exact SelI.nil)⟩
  · conv => whnf
    refine hS _ _ ?_
    clear hS KS
    dsimp only [List.cons_append, List.nil_append]
    have hll : (o.wanted.map wtX).length = o.items.length := by rw [List.length_map, items_len]
    rw [hll, List.take_of_length_le (Nat.le_refl _)]
    refine Run.ex (A := bxH 10 25 31 6 bk o.items.length (imC o)) (i := 5) (by repeat (first | with_reducible apply Rm.head | apply Rm.tail)) ?_
    rintro ⟨a, cap⟩
    dsimp only [bxH, layF]
    repeat' (first
 | with_reducible ((first | refine r_seq (fun KS hS => ?_) | (refine hS _ _ ?_; clear hS KS)))
 | ((with_reducible (first | refine r_region ?_ | refine r_ret ?_ | refine And.intro rfl ?_)); conv => whnf)
 | ((with_reducible refine CallK.id ?_); refine CallK.frE (by repeat (first | with_reducible apply At.head | apply At.tail)) (fun w => itemsSorted1043 hI w) ?_; conv => whnf))
    all_goals exact FinK.frZL (a, cap) rfl (by (try dsimp only [List.cons_append, List.nil_append, den, denL]); refine SelI.spec ?_; (repeat (first | refine SelI.blk (by repeat (first | with_reducible apply Rm.head | apply Rm.tail)) ?_ | refine SelI.ext (by repeat (first | with_reducible apply Rm.head | apply Rm.tail)) ?_ | (refine SelI.blk' (by repeat (first | with_reducible apply Rm.head | apply Rm.tail)) ?_ ?_; focus rfl) | (refine SelI.ext' (by repeat (first | with_reducible apply Rm.head | apply Rm.tail)) ?_ ?_; focus rfl))); exact SelI.nil)
end Go.Proofs.YtjkmpaggfbghiaaGreatDoor

namespace Go.Proofs.YtjkmpaggfbghiaaGreatDoor
open Go Go.X
theorem itEq (x y : OM.Item) : ((decide (x.eff.saga = y.eff.saga) && (decide (x.eff.step = y.eff.step) && (decide (x.eff.phase = y.eff.phase) && true))) && (decide (x.move = y.move) && ((x.in_ == y.in_) && (decide (x.group = y.group) && true)))) = (x == y) := by
  obtain ⟨⟨a, b, c⟩, d, e, f⟩ := x
  obtain ⟨⟨a', b', c'⟩, d', e', f'⟩ := y
  rw [Bool.eq_iff_iff]
  simp only [Bool.and_eq_true, decide_eq_true_eq, beq_iff_eq, and_true, OM.Item.mk.injEq, OM.Eff.mk.injEq, and_assoc]
abbrev cmO (b : Bool) (c : OM.Cmd) : List SV := match b with | true => cmV c none 0 0 | false => cmV OM.zCmd none 0 0
def cvC : Option OM.Cmd → Value
  | none => .tuple #[.agg (denL (cmV OM.zCmd none 0 0)).toArray, .int .i64 5]
  | some c => .tuple #[.agg (denL (cmV c none 0 0)).toArray, .int .i64 0]
theorem find_idx {α : Type} {p : α → Bool} : ∀ l : List α, l.find? p = l[l.findIdx p]?
  | [] => rfl
  | a :: l => by
    rw [List.find?_cons, List.findIdx_cons]
    cases h : p a
    · simp [find_idx l]
    · simp
theorem command1017 {d : Nat} {o : OM.St} {o0 o1 : Obj} {x : OM.Item} (hko : KObj o0 o1) (hI : OM.Inv o) (w : World) :
    Fr Tryz.prog 17 #[pv d, .agg (denL (itV x)).toArray] w (AssL [.ext 12 (OrchA d o), .ext 9 (GlA o0 o1)]) (cvC (o.command x)) (AssL [.ext 12 (OrchA d o), .ext 9 (GlA o0 o1)]) := by
  obtain ⟨stop, hstop⟩ : ∃ stop, o.wanted.findIdx (fun y => x == y.1) = stop := ⟨_, rfl⟩
  have hfind : o.wanted.find? (fun y => x == y.1) = o.wanted[stop]? := by rw [← hstop]; exact find_idx _
  obtain ⟨cs, hcs⟩ : ∃ cs : OM.Cmd, cs = match o.wanted[stop]? with | some y => y.2 | none => OM.zCmd := ⟨_, rfl⟩
  refine enter_fr TBok (H := [.ext 12 (OrchA d o), .ext 9 (GlA o0 o1)]) all_foot Tryz.func17 rfl rfl Tryz.ntmps17 [.loc d 0 0, .agg (itV x)] rfl rfl ?_
  intro S
  conv => whnf
  repeat' (first
 | with_reducible refine r_stop 1 ?_
 | with_reducible ((first | refine r_seq (fun KS hS => ?_) | (refine hS _ _ ?_; clear hS KS)))
 | ((with_reducible (first | refine r_region ?_ | intro b)); conv => whnf))
  refine StopR.mk ?_
  rename_i b3 b4
  revert b
  intro b5
  repeat' (first
 | with_reducible ((first | refine r_seq (fun KS hS => ?_) | (refine hS _ _ ?_; clear hS KS) | (refine hB _ ?_; clear hB KB) | refine r_block ?_))
 | ((with_reducible (first | refine r_region ?_ | refine r_cond (fun KA hA KB hB => ?_) | refine r_ret ?_ | refine r_skip ?_ | refine And.intro rfl ?_ | intro b)); conv => whnf)
 | (apply in1042; rfl; rfl; rfl; intro A; conv => whnf)
 | ((with_reducible refine CallK.id ?_); refine CallK.s1V (by repeat (first | with_reducible apply Rm.head | apply Rm.tail)) (fun ms w hk => made1041 (by have := hI.gr; omega) w) ?_; conv => whnf)
 | with_reducible apply_assumption -symm -exfalso)
  refine r_rangeX (fun i => [.blk 13 b3 (itV x) 31, .blk 14 b4 (cmO (decide (stop < i)) cs) 42, .blk 15 b5 [.v (.int .i64 0)] 32]) (o.wanted.map wtX) stop .ret 40 rfl (by simp) ?_ (wanted1090 (d := d) (bx := b) hko hI) ?_ (by decide) ?_ ?_ ?_
  · rw [decide_eq_false (Nat.not_lt_zero _)]; exact (by (try dsimp only [List.cons_append, List.nil_append, den, denL]); refine SelI.spec ?_; (repeat (first | refine SelI.blk (by repeat (first | with_reducible apply Rm.head | apply Rm.tail)) ?_ | refine SelI.ext (by repeat (first | with_reducible apply Rm.head | apply Rm.tail)) ?_ | (refine SelI.blk' (by repeat (first | with_reducible apply Rm.head | apply Rm.tail)) ?_ ?_; focus rfl) | (refine SelI.ext' (by repeat (first | with_reducible apply Rm.head | apply Rm.tail)) ?_ ?_; focus rfl))); exact SelI.nil)
  · intro x hx
    obtain ⟨y, _, rfl⟩ := List.mem_map.1 hx
    rfl
  · intro i y hy hi lp rc W' S'
    rw [List.getElem?_map, Option.map_eq_some_iff] at hy
    obtain ⟨⟨y, c⟩, hy, rfl⟩ := hy
    have hil : i < o.wanted.length := (List.getElem?_eq_some_iff.1 hy).1
    have hxi : o.wanted[i] = (y, c) := (List.getElem?_eq_some_iff.1 hy).2
    rw [decide_eq_false (show ¬ stop < i by omega)]
    conv => whnf
    by_cases hlt : i < stop
    · have hno : (x == y) = false := by
        have := List.not_of_lt_findIdx (p := fun y : OM.Item × OM.Cmd => x == y.1) (xs := o.wanted) (i := i) (by omega)
        rw [hxi] at this
        simpa using this
      have hcomp := (itEq x y).trans hno
      rw [if_pos hlt, decide_eq_false (show ¬ stop < i + 1 by omega)]
      repeat' (first
 | with_reducible ((first | refine r_seq (fun KS hS => ?_) | (refine hS _ _ ?_; clear hS KS)))
 | ((with_reducible (first | refine r_region ?_ | refine And.intro rfl ?_ | intro b)); conv => whnf))
      refine AssignX.rm (by repeat (first | with_reducible apply Rm.head | apply Rm.tail)) ?_
      repeat' (first
 | with_reducible ((first | refine r_seq (fun KS hS => ?_) | (refine hS _ _ ?_; clear hS KS) | (refine hB _ ?_; clear hB KB) | refine r_block ?_))
 | ((with_reducible (first | refine r_region ?_ | refine r_cond (fun KA hA KB hB => ?_) | refine r_skip ?_ | refine And.intro rfl ?_)); conv => whnf)
 | (refine if_f hcomp ?_; conv => whnf)
 | ((with_reducible apply OpK.more); (focus refine sok); (conv => whnf); fail_if_success guard_target =ₛ False))
      exact ⟨rfl, (by (try dsimp only [List.cons_append, List.nil_append, den, denL]); refine SelI.spec ?_; (repeat (first | refine SelI.blk (by repeat (first | with_reducible apply Rm.head | apply Rm.tail)) ?_ | refine SelI.ext (by repeat (first | with_reducible apply Rm.head | apply Rm.tail)) ?_ | (refine SelI.blk' (by repeat (first | with_reducible apply Rm.head | apply Rm.tail)) ?_ ?_; focus rfl) | (refine SelI.ext' (by repeat (first | with_reducible apply Rm.head | apply Rm.tail)) ?_ ?_; focus rfl))); exact SelI.nil)⟩
    · obtain rfl : i = stop := by omega
      have hyes : (x == y) = true := by
        have := List.findIdx_getElem (p := fun y : OM.Item × OM.Cmd => x == y.1) (xs := o.wanted) (w := by omega)
        simp only [hstop] at this
        rw [hxi] at this
        exact this
      have hcomp := (itEq x y).trans hyes
      rw [hy] at hcs
      dsimp only at hcs
      subst hcs
      rw [if_neg hlt, decide_eq_true (show i < i + 1 by omega)]
      repeat' (first
 | with_reducible ((first | refine r_seq (fun KS hS => ?_) | (refine hS _ _ ?_; clear hS KS)))
 | ((with_reducible (first | refine r_region ?_ | refine And.intro rfl ?_ | intro b)); conv => whnf))
      refine AssignX.rm (by repeat (first | with_reducible apply Rm.head | apply Rm.tail)) ?_
      repeat' (first
 | with_reducible ((first | refine r_seq (fun KS hS => ?_) | (refine hS _ _ ?_; clear hS KS) | (refine hA _ ?_; clear hA KA) | refine r_block ?_))
 | ((with_reducible (first | refine r_region ?_ | refine r_cond (fun KA hA KB hB => ?_) | refine r_ret ?_ | refine And.intro rfl ?_)); conv => whnf)
 | (refine if_t hcomp ?_; conv => whnf)
 | ((with_reducible apply OpK.more); (focus refine sok); (conv => whnf); fail_if_success guard_target =ₛ False))
      exact ⟨rfl, (by (try dsimp only [List.cons_append, List.nil_append, den, denL]); refine SelI.spec ?_; (repeat (first | refine SelI.blk (by repeat (first | with_reducible apply Rm.head | apply Rm.tail)) ?_ | refine SelI.ext (by repeat (first | with_reducible apply Rm.head | apply Rm.tail)) ?_ | (refine SelI.blk' (by repeat (first | with_reducible apply Rm.head | apply Rm.tail)) ?_ ?_; focus rfl) | (refine SelI.ext' (by repeat (first | with_reducible apply Rm.head | apply Rm.tail)) ?_ ?_; focus rfl))); exact SelI.nil)⟩
  · intro hle
    rw [List.length_map] at hle
    rw [decide_eq_false (by rw [List.length_map]; omega)]
    have hnone : o.command x = none := by unfold OM.St.command; rw [hfind, List.getElem?_eq_none (by omega)]; rfl
    conv => whnf
    repeat' (first
 | with_reducible ((first | refine r_seq (fun KS hS => ?_) | (refine hS _ _ ?_; clear hS KS)))
 | ((with_reducible (first | refine r_region ?_ | refine r_ret ?_ | refine And.intro rfl ?_)); conv => whnf))
    exact FinK.frL (by rw [hnone]; rfl) (by (try dsimp only [List.cons_append, List.nil_append, den, denL]); refine SelI.spec ?_; (repeat (first | refine SelI.blk (by repeat (first | with_reducible apply Rm.head | apply Rm.tail)) ?_ | refine SelI.ext (by repeat (first | with_reducible apply Rm.head | apply Rm.tail)) ?_ | (refine SelI.blk' (by repeat (first | with_reducible apply Rm.head | apply Rm.tail)) ?_ ?_; focus rfl) | (refine SelI.ext' (by repeat (first | with_reducible apply Rm.head | apply Rm.tail)) ?_ ?_; focus rfl))); exact SelI.nil)
  · intro hle
    rw [List.length_map] at hle
    rw [decide_eq_true (by omega)]
    have hsome : o.command x = some cs := by
      unfold OM.St.command
      rw [hfind, List.getElem?_eq_getElem hle, hcs, List.getElem?_eq_getElem hle]; rfl
    conv => whnf
    repeat' (first
 | ((with_reducible refine And.intro rfl ?_); conv => whnf))
    exact FinK.frL (by rw [hsome]; rfl) (by (try dsimp only [List.cons_append, List.nil_append, den, denL]); refine SelI.spec ?_; (repeat (first | refine SelI.blk (by repeat (first | with_reducible apply Rm.head | apply Rm.tail)) ?_ | refine SelI.ext (by repeat (first | with_reducible apply Rm.head | apply Rm.tail)) ?_ | (refine SelI.blk' (by repeat (first | with_reducible apply Rm.head | apply Rm.tail)) ?_ ?_; focus rfl) | (refine SelI.ext' (by repeat (first | with_reducible apply Rm.head | apply Rm.tail)) ?_ ?_; focus rfl))); exact SelI.nil)
end Go.Proofs.YtjkmpaggfbghiaaGreatDoor

namespace Go.Proofs.YtjkmpaggfbghiaaGreatDoor
open Go Go.X
abbrev rpV (r : OM.Rep) : Value := .agg #[.int .i64 r.err, .int .i64 r.num, .string ⟨#[]⟩]
theorem refuse1046 {e : Int} (w : World) : Pu Tryz.prog 46 #[.int .i64 e] w (rpV ⟨e, 0⟩) := by
  refine enter_sound TBok Tryz.func46 rfl rfl Tryz.ntmps46 [.v (.int .i64 e)] (Kn.start w noS) rfl rfl ?_
  conv => whnf
  repeat' (first
 | with_reducible ((first | refine r_seq (fun KS hS => ?_) | (refine hS _ _ ?_; clear hS KS)))
 | ((with_reducible (first | refine r_region ?_ | refine r_ret ?_ | refine And.intro rfl ?_ | intro b)); conv => whnf))
  all_goals exact FinK.pu rfl
theorem nowP1097 {d : Nat} {n k : Int} {w : World} (h : OldC w d 0 [.v (.int .i64 n)]) (h' : OldC w d 1 [.v (.int .i64 k)]) : Pu Tryz.prog 97 #[pv d] w (.int .i64 (min k 2147483648)) := by
  refine enter_sound TBok Tryz.func97 rfl rfl Tryz.ntmps97 [.v (pv d)] (Kn.start w noS) rfl rfl ?_
  conv => whnf
  repeat' (first
 | with_reducible ((first | refine r_seq (fun KS hS => ?_) | (refine hS _ _ ?_; clear hS KS)))
 | ((with_reducible (first | refine r_region ?_ | refine r_ret ?_ | intro b)); conv => whnf)
 | ((with_reducible refine OpK.id ?_); (first | refine OpK.fap rfl rfl (h.pc id) ?_ | refine OpK.ldp rfl rfl (h'.pc id) (List.cons_ne_nil _ _) ?_ | refine OpK.minI rfl rfl rfl ?_); conv => whnf))
  all_goals exact FinK.pu rfl
theorem tstartAll1096 {t : Nat} {o : OM.St} {c : OM.Cmd} {now : Int} {a : Option Addr} {cap : Nat} (hL : LOk o.sagas) (hnow : now = o.now) (hd : c.d.ok = true) (hn : 0 ≤ now ∧ now ≤ 2147483648) (hz : 1 ≤ c.saga ∧ c.saga ≤ 9999) (w : World) :
    Fr Tryz.prog 96 #[pv t, .int .i64 c.saga, .agg #[.string c.d.name, .int .i64 c.d.retries, .int .i64 c.d.deadline, .slice a c.d.steps.length cap], .int .i64 now] w (AssL [.ext 0 (TabA t o.sagas), .ext 8 (dfA c.d a cap)]) (.int .i64 (o.doStart c).2.err) (AssL [.ext 0 (TabA t (o.doStart c).1.sagas), .ext 8 (dfA c.d a cap)]) := by
  subst hnow
  unfold OM.St.doStart
  cases hg : o.get c.saga with
  | some s => exact thave1096 hg hd hn hz w
  | none =>
    rw [Option.isSome_none, if_neg (by simp)]
    by_cases hl : 64 ≤ o.sagas.length
    · rw [if_pos hl]; exact tfull1096 hL.srt (by omega) hL.len hg hd hn hz w
    · rw [if_neg hl]; exact tstart1096 hL.srt (by omega) hg hd hn hz w
theorem doStart_same (o : OM.St) (c : OM.Cmd) : (o.doStart c).1 = { o with sagas := (o.doStart c).1.sagas } ∧ (o.doStart c).2.num = 0 := by
  unfold OM.St.doStart
  split
  · exact ⟨rfl, rfl⟩
  · split <;> exact ⟨rfl, rfl⟩
theorem now_ok {o : OM.St} (h : OM.Inv o) : 0 ≤ o.now ∧ o.now ≤ 2147483648 := by
  have := h.dn
  unfold OM.St.now
  omega
theorem start1048 {d : Nat} {o : OM.St} {c : OM.Cmd} {a : Option Addr} {cap : Nat} (hI : OM.Inv o) (hd : c.d.ok = true) (hz : 1 ≤ c.saga ∧ c.saga ≤ 9999) (w : World) :
    Fr Tryz.prog 48 #[pv d, .agg (denL (cmV c a c.d.steps.length cap)).toArray] w (AssL [.ext 12 (OrchA d o), .ext 8 (dfA c.d a cap)]) (rpV (o.doStart c).2) (AssL [.ext 12 (OrchA d (o.doStart c).1), .ext 8 (dfA c.d a cap)]) := by
  have hL := LOk.ofInv hI
  have hnow := now_ok hI
  obtain ⟨h1, h2⟩ := doStart_same o c
  have hst1096 := fun t w => tstartAll1096 (t := t) (a := a) (cap := cap) hL rfl hd hnow hz w
  generalize (o.doStart c).1.sagas = L' at *
  generalize (o.doStart c).1 = o' at *
  generalize (o.doStart c).2 = r at *
  obtain ⟨e, m⟩ := r
  dsimp only at h2 hst1096
  subst h1 h2
  unfold OM.St.now at hst1096 hnow
  refine enter_fr TBok (H := [.ext 12 (OrchA d o), .ext 8 (dfA c.d a cap)]) all_foot Tryz.func48 rfl rfl Tryz.ntmps48 [.loc d 0 0, .agg (cmV c a c.d.steps.length cap)] rfl rfl ?_
  intro S
  conv => whnf
  refine Run.ex (A := orH d o) (i := 12) (by repeat (first | with_reducible apply Rm.head | apply Rm.tail)) ?_
  rintro ⟨t1, t2, t3⟩
  dsimp only [orH, layF]
  repeat' (first
 | with_reducible ((first | refine r_seq (fun KS hS => ?_) | (refine hS _ _ ?_; clear hS KS)))
 | ((with_reducible (first | refine r_region ?_ | refine r_ret ?_ | refine And.intro rfl ?_ | intro b)); conv => whnf)
 | (apply r_split 10 (id := 1); refine mixed; kernel_rfl; kernel_rfl; kernel_rfl; intro K' hK; conv => whnf)
 | ((with_reducible refine CallQ.at 97 ?_); refine CallQ.puW (fun ms w hk => nowP1097 (d := d) (n := o.groups) (k := o.done) (OldC.of_got (hk.got (by repeat (first | constructor | apply List.Mem.tail))) rfl) (OldC.of_got (hk.got (by repeat (first | constructor | apply List.Mem.tail))) rfl)) ?_; conv => whnf)
 | ((with_reducible refine CallK.id ?_); refine CallK.s2V (by repeat (first | with_reducible apply Rm.head | apply Rm.tail)) (by repeat (first | with_reducible apply Rm.head | apply Rm.tail)) (fun ms w hk => hst1096 _ w) ?_; conv => whnf)
 | ((with_reducible refine CallK.at 46 ?_); refine CallK.pu (fun w => refuse1046 w) ?_; conv => whnf)
 | ((with_reducible ((first | refine AnyAt.mk (fun K' hK => ?_) | (refine hK _ ?_; clear hK K') | (refine hK _ _ ?_; clear hK K')))); conv => whnf))
  all_goals exact FinK.frL rfl (HSub.trans (HSub.app2 (A' := [.ext 12 (OrchA d { o with sagas := L' })]) (or_id (i := 0) (j := 1) (k := 2) (l := 3) (d := d) (s := { o with sagas := L' }) (t1 := t1) (t2 := t2) (t3 := t3)) (HSub.refl [.ext 8 (dfA c.d a cap)])) (by (try dsimp only [List.cons_append, List.nil_append, den, denL]); refine SelI.spec ?_; (repeat (first | refine SelI.blk (by repeat (first | with_reducible apply Rm.head | apply Rm.tail)) ?_ | refine SelI.ext (by repeat (first | with_reducible apply Rm.head | apply Rm.tail)) ?_ | (refine SelI.blk' (by repeat (first | with_reducible apply Rm.head | apply Rm.tail)) ?_ ?_; focus rfl) | (refine SelI.ext' (by repeat (first | with_reducible apply Rm.head | apply Rm.tail)) ?_ ?_; focus rfl))); exact SelI.nil))
end Go.Proofs.YtjkmpaggfbghiaaGreatDoor

namespace Go.Proofs.YtjkmpaggfbghiaaGreatDoor
open Go Go.X
abbrev zSg : List Value := [.string ⟨#[]⟩, .int .i64 0, .int .i64 0, .slice none 0 0, .int .i64 0, .int .i64 0, .bool false, .int .i64 0, .int .i64 0, .int .i64 0]
theorem saga1020 {d : Nat} {o : OM.St} {id : Int} {s : OM.Sg} (hI : OM.Inv o) (hg : o.get id = some s) (w : World) :
    FrZ Tryz.prog 20 #[pv d, .int .i64 id] w (AssL [.ext 12 (OrchA d o)]) (fun z : Option Addr × Nat => .tuple #[sgV s z, .int .i64 0]) (fun z => AssL [.ext 12 (OrchA d o), .ext 1 (stA s z)]) := by
  have hL := LOk.ofInv hI
  have hgr := hI.gr
  have hmem := getL_mem hg
  have hok : OM.SOk s := hL.ok _ hmem
  have hid : 1 ≤ id ∧ id ≤ 9999 := hL.id _ hmem
  refine enter_frZ TBok (H := [.ext 12 (OrchA d o)]) all_foot Tryz.func20 rfl rfl Tryz.ntmps20 [.loc d 0 0, .v (.int .i64 id)] rfl rfl ?_
  intro S _ _
  conv => whnf
  repeat' (first
 | with_reducible refine r_stop 3 ?_
 | with_reducible ((first | refine r_seq (fun KS hS => ?_) | (refine hS _ _ ?_; clear hS KS) | (refine hB _ ?_; clear hB KB)))
 | ((with_reducible (first | refine r_region ?_ | refine r_cond (fun KA hA KB hB => ?_) | refine r_skip ?_ | intro b)); conv => whnf)
 | ((with_reducible refine CallK.id ?_); refine CallK.s1V (by repeat (first | with_reducible apply Rm.head | apply Rm.tail)) (fun ms w hk => made1041 (by omega) w) ?_; conv => whnf)
 | with_reducible apply_assumption -symm -exfalso)
  refine StopR.mk ?_
  refine Run.ex (A := orH d o) (i := 12) (by repeat (first | with_reducible apply Rm.head | apply Rm.tail)) ?_
  rintro ⟨t1, t2, t3⟩
  dsimp only [orH, layF]
  repeat' (first
 | with_reducible ((first | refine r_seq (fun KS hS => ?_) | (refine hS _ _ ?_; clear hS KS) | (refine hB _ ?_; clear hB KB)))
 | ((with_reducible (first | refine r_region ?_ | refine r_cond (fun KA hA KB hB => ?_) | refine r_ret ?_ | refine r_skip ?_ | refine And.intro rfl ?_ | intro b)); conv => whnf)
 | ((with_reducible refine CallK.id ?_); refine CallK.s1 (by repeat (first | with_reducible apply Rm.head | apply Rm.tail)) (fun ms w hk => get1056 hg hok (zok_id hid) w) ?_; conv => whnf)
 | with_reducible apply_assumption -symm -exfalso)
  all_goals exact FinK.frZL _ rfl (HSub.trans (HSub.app2 (A' := [.ext 12 (OrchA d o)]) (or_id (i := 0) (j := 1) (k := 2) (l := 3) (d := d) (s := o) (t1 := t1) (t2 := t2) (t3 := t3)) (HSub.refl _)) (by (try dsimp only [List.cons_append, List.nil_append, den, denL]); refine SelI.spec ?_; (repeat (first | refine SelI.blk (by repeat (first | with_reducible apply Rm.head | apply Rm.tail)) ?_ | refine SelI.ext (by repeat (first | with_reducible apply Rm.head | apply Rm.tail)) ?_ | (refine SelI.blk' (by repeat (first | with_reducible apply Rm.head | apply Rm.tail)) ?_ ?_; focus rfl) | (refine SelI.ext' (by repeat (first | with_reducible apply Rm.head | apply Rm.tail)) ?_ ?_; focus rfl))); exact SelI.nil))
theorem noSaga1020 {d : Nat} {o : OM.St} {id : Int} (hI : OM.Inv o) (hg : o.get id = none) (w : World) :
    Fr Tryz.prog 20 #[pv d, .int .i64 id] w (AssL [.ext 12 (OrchA d o)]) (.tuple #[.agg zSg.toArray, .int .i64 5]) (AssL [.ext 12 (OrchA d o)]) := by
  have hgr := hI.gr
  refine enter_fr TBok (H := [.ext 12 (OrchA d o)]) all_foot Tryz.func20 rfl rfl Tryz.ntmps20 [.loc d 0 0, .v (.int .i64 id)] rfl rfl ?_
  intro S
  conv => whnf
  repeat' (first
 | with_reducible refine r_stop 3 ?_
 | with_reducible ((first | refine r_seq (fun KS hS => ?_) | (refine hS _ _ ?_; clear hS KS) | (refine hB _ ?_; clear hB KB)))
 | ((with_reducible (first | refine r_region ?_ | refine r_cond (fun KA hA KB hB => ?_) | refine r_skip ?_ | intro b)); conv => whnf)
 | ((with_reducible refine CallK.id ?_); refine CallK.s1V (by repeat (first | with_reducible apply Rm.head | apply Rm.tail)) (fun ms w hk => made1041 (by omega) w) ?_; conv => whnf)
 | with_reducible apply_assumption -symm -exfalso)
  refine StopR.mk ?_
  refine Run.ex (A := orH d o) (i := 12) (by repeat (first | with_reducible apply Rm.head | apply Rm.tail)) ?_
  rintro ⟨t1, t2, t3⟩
  dsimp only [orH, layF]
  repeat' (first
 | with_reducible ((first | refine r_seq (fun KS hS => ?_) | (refine hS _ _ ?_; clear hS KS) | (refine hA _ ?_; clear hA KA)))
 | ((with_reducible (first | refine r_region ?_ | refine r_cond (fun KA hA KB hB => ?_) | refine r_ret ?_ | refine And.intro rfl ?_ | intro b)); conv => whnf)
 | ((with_reducible refine CallK.id ?_); refine CallK.s1V (by repeat (first | with_reducible apply Rm.head | apply Rm.tail)) (fun ms w hk => noGet1056 hg w) ?_; conv => whnf))
  all_goals exact FinK.frL rfl (HSub.trans (or_id (i := 0) (j := 1) (k := 2) (l := 3) (d := d) (s := o) (t1 := t1) (t2 := t2) (t3 := t3)) (by (try dsimp only [List.cons_append, List.nil_append, den, denL]); refine SelI.spec ?_; (repeat (first | refine SelI.blk (by repeat (first | with_reducible apply Rm.head | apply Rm.tail)) ?_ | refine SelI.ext (by repeat (first | with_reducible apply Rm.head | apply Rm.tail)) ?_ | (refine SelI.blk' (by repeat (first | with_reducible apply Rm.head | apply Rm.tail)) ?_ ?_; focus rfl) | (refine SelI.ext' (by repeat (first | with_reducible apply Rm.head | apply Rm.tail)) ?_ ?_; focus rfl))); exact SelI.nil))
theorem applied1036 {d : Nat} {o : OM.St} (hg : 0 < o.groups) (w : World) :
    Fr Tryz.prog 36 #[pv d] w (AssL [.ext 12 (OrchA d o)]) (.int .i64 o.done) (AssL [.ext 12 (OrchA d o)]) := by
  refine enter_fr TBok (H := [.ext 12 (OrchA d o)]) all_foot Tryz.func36 rfl rfl Tryz.ntmps36 [.loc d 0 0] rfl rfl ?_
  intro S
  conv => whnf
  repeat' (first
 | with_reducible refine r_stop 3 ?_
 | with_reducible ((first | refine r_seq (fun KS hS => ?_) | (refine hS _ _ ?_; clear hS KS) | (refine hB _ ?_; clear hB KB)))
 | ((with_reducible (first | refine r_region ?_ | refine r_cond (fun KA hA KB hB => ?_) | refine r_skip ?_)); conv => whnf)
 | ((with_reducible refine CallK.id ?_); refine CallK.s1V (by repeat (first | with_reducible apply Rm.head | apply Rm.tail)) (fun ms w hk => made1041 (by omega) w) ?_; conv => whnf)
 | with_reducible apply_assumption -symm -exfalso)
  refine StopR.mk ?_
  refine Run.ex (A := orH d o) (i := 12) (by repeat (first | with_reducible apply Rm.head | apply Rm.tail)) ?_
  rintro ⟨t1, t2, t3⟩
  dsimp only [orH, layF]
  repeat' (first
 | with_reducible ((first | refine r_seq (fun KS hS => ?_) | (refine hS _ _ ?_; clear hS KS)))
 | ((with_reducible (first | refine r_region ?_ | refine r_ret ?_ | refine And.intro rfl ?_)); conv => whnf))
  all_goals exact FinK.frL rfl (HSub.trans (or_id (i := 0) (j := 1) (k := 2) (l := 3) (d := d) (s := o) (t1 := t1) (t2 := t2) (t3 := t3)) (by (try dsimp only [List.cons_append, List.nil_append, den, denL]); refine SelI.spec ?_; (repeat (first | refine SelI.blk (by repeat (first | with_reducible apply Rm.head | apply Rm.tail)) ?_ | refine SelI.ext (by repeat (first | with_reducible apply Rm.head | apply Rm.tail)) ?_ | (refine SelI.blk' (by repeat (first | with_reducible apply Rm.head | apply Rm.tail)) ?_ ?_; focus rfl) | (refine SelI.ext' (by repeat (first | with_reducible apply Rm.head | apply Rm.tail)) ?_ ?_; focus rfl))); exact SelI.nil))
theorem route1021 {d : Nat} {o : OM.St} {key : ByteArray} (hI : OM.Inv o) (hk : OM.nmOk key = true) (w : World) :
    Fr Tryz.prog 21 #[pv d, .string key] w (AssL [.ext 12 (OrchA d o)]) (.tuple #[.int .i64 (o.route key), .int .i64 0]) (AssL [.ext 12 (OrchA d o)]) := by
  have hgr := hI.gr
  have hpo := inv_pok hI
  have hpl : o.parts.length ≤ 64 := by have := hI.room; omega
  obtain ⟨pt, hpt, hrt⟩ := part_get hI hk
  rw [hrt]
  refine enter_fr TBok (H := [.ext 12 (OrchA d o)]) all_foot Tryz.func21 rfl rfl Tryz.ntmps21 [.loc d 0 0, .v (.string key)] rfl rfl ?_
  intro S
  conv => whnf
  repeat' (first
 | with_reducible refine r_stop 3 ?_
 | with_reducible ((first | refine r_seq (fun KS hS => ?_) | (refine hS _ _ ?_; clear hS KS) | (refine hB _ ?_; clear hB KB)))
 | ((with_reducible (first | refine r_region ?_ | refine r_cond (fun KA hA KB hB => ?_) | refine r_skip ?_)); conv => whnf)
 | ((with_reducible refine CallK.id ?_); refine CallK.s1V (by repeat (first | with_reducible apply Rm.head | apply Rm.tail)) (fun ms w hk => made1041 (by omega) w) ?_; conv => whnf)
 | with_reducible apply_assumption -symm -exfalso)
  refine StopR.mk ?_
  refine Run.ex (A := orH d o) (i := 12) (by repeat (first | with_reducible apply Rm.head | apply Rm.tail)) ?_
  rintro ⟨t1, t2, t3⟩
  dsimp only [orH, layF]
  repeat' (first
 | with_reducible ((first | refine r_seq (fun KS hS => ?_) | (refine hS _ _ ?_; clear hS KS)))
 | ((with_reducible (first | refine r_region ?_ | refine r_ret ?_ | refine And.intro rfl ?_)); conv => whnf)
 | ((with_reducible refine CallK.id ?_); refine CallK.s1V (by repeat (first | with_reducible apply Rm.head | apply Rm.tail)) (fun ms w _ => group1057 hk hpo hpt (by omega) w) ?_; conv => whnf))
  all_goals exact FinK.frL rfl (HSub.trans (or_id (i := 0) (j := 1) (k := 2) (l := 3) (d := d) (s := o) (t1 := t1) (t2 := t2) (t3 := t3)) (by (try dsimp only [List.cons_append, List.nil_append, den, denL]); refine SelI.spec ?_; (repeat (first | refine SelI.blk (by repeat (first | with_reducible apply Rm.head | apply Rm.tail)) ?_ | refine SelI.ext (by repeat (first | with_reducible apply Rm.head | apply Rm.tail)) ?_ | (refine SelI.blk' (by repeat (first | with_reducible apply Rm.head | apply Rm.tail)) ?_ ?_; focus rfl) | (refine SelI.ext' (by repeat (first | with_reducible apply Rm.head | apply Rm.tail)) ?_ ?_; focus rfl))); exact SelI.nil))
theorem noop1047 {d : Nat} {c : OM.Cmd} {a : Option Addr} {n cap : Nat} (w : World) : Pu Tryz.prog 47 #[pv d, .agg (denL (cmV c a n cap)).toArray] w (rpV ⟨0, 0⟩) := by
  refine enter_sound TBok Tryz.func47 rfl rfl Tryz.ntmps47 [.v (pv d), .agg (cmV c a n cap)] (Kn.start w noS) rfl rfl ?_
  conv => whnf
  repeat' (first
 | with_reducible ((first | refine r_seq (fun KS hS => ?_) | (refine hS _ _ ?_; clear hS KS)))
 | ((with_reducible (first | refine r_region ?_ | refine r_ret ?_ | refine And.intro rfl ?_ | intro b)); conv => whnf))
  all_goals exact FinK.pu rfl
theorem madeP1041 {d : Nat} {n : Int} {w : World} (hn : 0 < n) (h : OldC w d 0 [.v (.int .i64 n)]) : Pu Tryz.prog 41 #[pv d] w (.bool true) := by
  refine enter_sound TBok Tryz.func41 rfl rfl Tryz.ntmps41 [.v (pv d)] (Kn.start w noS) rfl rfl ?_
  conv => whnf
  have hdec : decide (0 < n) = true := decide_eq_true hn
  repeat' (first
 | with_reducible ((first | refine r_seq (fun KS hS => ?_) | (refine hS _ _ ?_; clear hS KS)))
 | ((with_reducible (first | refine r_region ?_ | refine r_ret ?_ | intro b)); conv => whnf)
 | ((with_reducible refine OpK.id ?_); (first | refine OpK.fap rfl rfl (h.pc id) ?_ | refine OpK.ldp rfl rfl (h.pc id) (List.cons_ne_nil _ _) ?_); conv => whnf)
 | ((with_reducible apply OpK.more); (focus refine sok); (conv => whnf); fail_if_success guard_target =ₛ False))
  all_goals exact FinK.pu (by rw [hdec]; rfl)
def OQuiet (o : OM.St) : Bool := decide (((nxE o.sagas).length : Int) = 0) && decide (((OM.openF 1 o.moves).length : Int) = 0)
theorem quiet1034 {d : Nat} {o : OM.St} {o0 o1 : Obj} (hko : KObj o0 o1) (hI : OM.Inv o) (w : World) :
    Fr Tryz.prog 34 #[pv d] w (AssL [.ext 12 (OrchA d o), .ext 9 (GlA o0 o1)]) (.bool (OQuiet o)) (AssL [.ext 12 (OrchA d o), .ext 9 (GlA o0 o1)]) := by
  have hgr := hI.gr
  have hL := LOk.ofInv hI
  have hml := hI.mlen
  refine enter_fr TBok (H := [.ext 12 (OrchA d o), .ext 9 (GlA o0 o1)]) all_foot Tryz.func34 rfl rfl Tryz.ntmps34 [.loc d 0 0] rfl rfl ?_
  intro S
  conv => whnf
  refine Run.ex (A := orH d o) (i := 12) (by repeat (first | with_reducible apply Rm.head | apply Rm.tail)) ?_
  rintro ⟨t1, t2, t3⟩
  dsimp only [orH, layF]
  have hq1073 := fun t w => tquiet1073 (t := t) (L := o.sagas) hko hL w
  unfold OQuiet
  by_cases hq : ((nxE o.sagas).length : Int) = 0
  · rw [decide_eq_true hq] at hq1073 ⊢
    repeat' (first
 | with_reducible ((first | refine r_seq (fun KS hS => ?_) | (refine hS _ _ ?_; clear hS KS)))
 | ((with_reducible (first | refine r_region ?_ | refine r_ret ?_ | refine And.intro rfl ?_ | intro b)); conv => whnf)
 | ((with_reducible refine CallK.at 41 ?_); refine CallK.puW (fun ms w hk => madeP1041 (d := d) (n := o.groups) (by omega) (OldC.of_got (hk.got (by repeat (first | constructor | apply List.Mem.tail))) rfl)) ?_; conv => whnf)
 | ((with_reducible refine CallK.id ?_); (first | refine CallK.s2V (by repeat (first | with_reducible apply Rm.head | apply Rm.tail)) (by repeat (first | with_reducible apply Rm.head | apply Rm.tail)) (fun ms w hk => hq1073 _ w) ?_ | refine CallK.s1 (by repeat (first | with_reducible apply Rm.head | apply Rm.tail)) (fun ms w hk => mopenL1074 (l := o.moves) hml w) ?_); conv => whnf))
    all_goals exact FinK.frL (by first | rfl | (rw [decide_eq_true hq, Bool.true_and]; rfl)) (HSub.trans (HSub.app2 (A' := [.ext 12 (OrchA d o)]) (or_id (i := 0) (j := 1) (k := 2) (l := 3) (d := d) (s := o) (t1 := t1) (t2 := t2) (t3 := t3)) (HSub.refl _)) (by (try dsimp only [List.cons_append, List.nil_append, den, denL]); refine SelI.spec ?_; (repeat (first | refine SelI.blk (by repeat (first | with_reducible apply Rm.head | apply Rm.tail)) ?_ | refine SelI.ext (by repeat (first | with_reducible apply Rm.head | apply Rm.tail)) ?_ | (refine SelI.blk' (by repeat (first | with_reducible apply Rm.head | apply Rm.tail)) ?_ ?_; focus rfl) | (refine SelI.ext' (by repeat (first | with_reducible apply Rm.head | apply Rm.tail)) ?_ ?_; focus rfl))); exact SelI.nil))
  · rw [decide_eq_false hq] at hq1073 ⊢
    repeat' (first
 | with_reducible ((first | refine r_seq (fun KS hS => ?_) | (refine hS _ _ ?_; clear hS KS)))
 | ((with_reducible (first | refine r_region ?_ | refine r_ret ?_ | refine And.intro rfl ?_)); conv => whnf)
 | ((with_reducible refine CallK.at 41 ?_); refine CallK.puW (fun ms w hk => madeP1041 (d := d) (n := o.groups) (by omega) (OldC.of_got (hk.got (by repeat (first | constructor | apply List.Mem.tail))) rfl)) ?_; conv => whnf)
 | ((with_reducible refine CallK.id ?_); refine CallK.s2V (by repeat (first | with_reducible apply Rm.head | apply Rm.tail)) (by repeat (first | with_reducible apply Rm.head | apply Rm.tail)) (fun ms w hk => hq1073 _ w) ?_; conv => whnf))
    all_goals exact FinK.frL (by first | rfl | (rw [decide_eq_false hq, Bool.false_and]; rfl)) (HSub.trans (HSub.app2 (A' := [.ext 12 (OrchA d o)]) (or_id (i := 0) (j := 1) (k := 2) (l := 3) (d := d) (s := o) (t1 := t1) (t2 := t2) (t3 := t3)) (HSub.refl _)) (by (try dsimp only [List.cons_append, List.nil_append, den, denL]); refine SelI.spec ?_; (repeat (first | refine SelI.blk (by repeat (first | with_reducible apply Rm.head | apply Rm.tail)) ?_ | refine SelI.ext (by repeat (first | with_reducible apply Rm.head | apply Rm.tail)) ?_ | (refine SelI.blk' (by repeat (first | with_reducible apply Rm.head | apply Rm.tail)) ?_ ?_; focus rfl) | (refine SelI.ext' (by repeat (first | with_reducible apply Rm.head | apply Rm.tail)) ?_ ?_; focus rfl))); exact SelI.nil))
theorem room1103 {d : Nat} {o : OM.St} (hI : OM.Inv o) (w : World) :
    Fr Tryz.prog 103 #[pv d] w (AssL [.ext 12 (OrchA d o)]) (.int .i64 o.room) (AssL [.ext 12 (OrchA d o)]) := by
  have hml := hI.mlen
  have hpl : o.parts.length ≤ 64 := by have := hI.room; omega
  refine enter_fr TBok (H := [.ext 12 (OrchA d o)]) all_foot Tryz.func103 rfl rfl Tryz.ntmps103 [.loc d 0 0] rfl rfl ?_
  intro S
  conv => whnf
  have hp0 : 0 < o.parts.length := List.length_pos_iff.2 hI.cov.2
  have hol := OM.openF_length o.moves 1
  have hol2 := List.countP_le_length (p := OM.isOpen) (l := o.moves)
  refine Run.ex (A := orH d o) (i := 12) (by repeat (first | with_reducible apply Rm.head | apply Rm.tail)) ?_
  rintro ⟨t1, t2, t3⟩
  dsimp only [orH, layF]
  repeat' (first
 | with_reducible refine r_stop 1 ?_
 | with_reducible ((first | refine r_seq (fun KS hS => ?_) | (refine hS _ _ ?_; clear hS KS)))
 | ((with_reducible refine r_region ?_); conv => whnf))
  refine StopR.mk ?_
  refine r_seq (fun KS hS => ?_)
  refine r_par (β := Option Addr × Nat) (id := 1) [⟨0, [], none, fun _ _ => .loc d 0 0, fun _ _ => []⟩, ⟨1, [0], none, fun _ _ => .loc d 0 0, fun _ _ => []⟩, ⟨2, [1], none, fun _ _ => .loc d 0 4, fun _ _ => []⟩, ⟨3, [2], none, fun _ _ => .loc t3 22 0, fun _ _ => []⟩, ⟨4, [3], none, fun _ z2 => .v (.slice z2.1 o.parts.length z2.2), fun _ z2 => [.ext 90 (SlA 37 2 z2.1 o.parts.length z2.2 (o.parts.flatMap rgC))]⟩, ⟨5, [4], none, fun _ _ => .v (.int .i64 (o.parts.length : Int)), fun _ _ => []⟩, ⟨6, [5], none, fun _ _ => .v (.int .i64 (64 - (o.parts.length : Int))), fun _ _ => []⟩, ⟨7, [], none, fun _ _ => .loc d 0 0, fun _ _ => []⟩, ⟨8, [7], none, fun _ _ => .loc d 0 0, fun _ _ => []⟩, ⟨9, [8], none, fun _ _ => .loc d 0 3, fun _ _ => []⟩, ⟨10, [9], none, fun _ _ => .loc t2 21 0, fun _ _ => []⟩, ⟨11, [10], none, fun _ z2 => .v (.slice z2.1 (OM.openF 1 o.moves).length z2.2), fun _ z2 => [.ext 91 (SlA 3 1 z2.1 (OM.openF 1 o.moves).length z2.2 (opI o.moves))]⟩, ⟨12, [11], none, fun _ _ => .v (.int .i64 ((OM.openF 1 o.moves).length : Int)), fun _ _ => []⟩, ⟨13, [12], none, fun _ _ => .v (.int .i64 (2 * ((OM.openF 1 o.moves).length : Int))), fun _ _ => []⟩, ⟨14, [6, 13], none, fun _ _ => .v (.int .i64 (64 - (o.parts.length : Int) - 2 * ((OM.openF 1 o.moves).length : Int))), fun _ _ => []⟩] [] 1 _ mixed (by kernel_rfl) (by kernel_rfl) (HSub.refl _) ?_ ?_
  · conv => whnf
    repeat' (first | ((with_reducible refine And.intro ?_ ?_); all_goals (conv => whnf)) | ((with_reducible intro zz AA KP hP); conv => whnf))
    repeat' (first
 | ((with_reducible intro b); conv => whnf)
 | ((with_reducible refine WrapK.i64 ?_ ?_); (focus omega); conv => whnf)
 | ((with_reducible refine CallK.id ?_); (first | refine CallK.s1 (by repeat (first | with_reducible apply Rm.head | apply Rm.tail)) (fun ms w hk => ranges1060 (l := o.parts) hp0 (by omega) w) ?_ | refine CallK.s1 (by repeat (first | with_reducible apply Rm.head | apply Rm.tail)) (fun ms w hk => mopenL1074 (l := o.moves) hml w) ?_); conv => whnf)
 | ((with_reducible apply hP); all_goals (first | exact b | exact (none, 0) | ((repeat' (first | exact SubD.nil | (refine SubD.cons rfl rfl ?_))); done) | ((try dsimp only [mapZ, List.cons_append, List.nil_append, den, denL]); refine SelI.spec ?_; repeat (first | apply SelI.nil | refine SelI.blk (by repeat (first | with_reducible apply Rm.head | apply Rm.tail)) ?_ | refine SelI.ext (by repeat (first | with_reducible apply Rm.head | apply Rm.tail)) ?_ | (refine SelI.blk' (by repeat (first | with_reducible apply Rm.head | apply Rm.tail)) ?_ ?_; focus rfl) | (refine SelI.ext' (by repeat (first | with_reducible apply Rm.head | apply Rm.tail)) ?_ ?_; focus rfl))))))
  conv => whnf
  intro zz
  conv => whnf
  try dsimp only
  repeat' (first
 | with_reducible (refine hS _ _ ?_; clear hS KS)
 | ((with_reducible refine r_ret ?_); conv => whnf)
 | ((with_reducible ((first | refine InAt.mk (fun K' hK => ?_) | (refine hK _ ?_; clear hK K')))); conv => whnf))
  all_goals exact FinK.frL rfl (HSub.trans (or_id (i := 0) (j := 1) (k := 2) (l := 3) (d := d) (s := o) (t1 := t1) (t2 := t2) (t3 := t3)) (by (try dsimp only [List.cons_append, List.nil_append, den, denL]); refine SelI.spec ?_; (repeat (first | refine SelI.blk (by repeat (first | with_reducible apply Rm.head | apply Rm.tail)) ?_ | refine SelI.ext (by repeat (first | with_reducible apply Rm.head | apply Rm.tail)) ?_ | (refine SelI.blk' (by repeat (first | with_reducible apply Rm.head | apply Rm.tail)) ?_ ?_; focus rfl) | (refine SelI.ext' (by repeat (first | with_reducible apply Rm.head | apply Rm.tail)) ?_ ?_; focus rfl))); exact SelI.nil))
end Go.Proofs.YtjkmpaggfbghiaaGreatDoor
