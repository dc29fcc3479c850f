/- Contracts and lemmas for the claim (part 15); no condition of its own. -/
import Derived.Test.YtjkmpaggfbghiaaGreatDoorYQC914
import Derived.Test.YtjkmpaggfbghiaaGreatDoorYQC906
import Derived.Test.YtjkmpaggfbghiaaGreatDoorYQC905
set_option linter.all false
set_option maxRecDepth 100000
set_option maxHeartbeats 0
set_option linter.unusedVariables false
set_option linter.unusedSimpArgs false
set_option linter.unnecessarySimpa false
namespace Go.Proofs.YtjkmpaggfbghiaaGreatDoor
open Go Go.X
abbrev nmC (A : Pl) (x : Int × OM.Sg) : List Value := .int .i64 x.1 :: denL (sgc x.2 (A x.1).1 (A x.1).2)
theorem asc_ne {L : SL} (hs : AscS L) {i : Nat} {x : Int × OM.Sg} (hx : L[i]? = some x) : ∀ y ∈ L.take i, y.1 ≠ x.1 := by
  intro y hy
  obtain ⟨j, hj⟩ := List.mem_iff_getElem?.1 hy
  rw [List.getElem?_take] at hj
  split at hj
  · rename_i hji
    obtain ⟨h1, h2⟩ := List.getElem?_eq_some_iff.1 hj
    obtain ⟨h3, h4⟩ := List.getElem?_eq_some_iff.1 hx
    have := List.pairwise_iff_getElem.1 hs j i h1 h3 hji
    rw [h2, h4] at this
    omega
  · cases hj
theorem nm_snoc {L : SL} (hs : AscS L) {A : Pl} {z : Option Addr × Nat} {i : Nat} {x : Int × OM.Sg} (hx : L[i]? = some x) :
    (L.take i).flatMap (nmC A) ++ (.int .i64 x.1 :: denL (sgc x.2 z.1 z.2)) = (L.take (i + 1)).flatMap (nmC (setA A x.1 z)) := by
  have h1 : (L.take i).flatMap (nmC (setA A x.1 z)) = (L.take i).flatMap (nmC A) := fl_congr fun y hy => by
    unfold nmC setA
    rw [if_neg (asc_ne hs hx y hy)]
  rw [← flat_snoc (g := nmC (setA A x.1 z)) hx, h1]
  congr 1
  unfold nmC setA
  rw [if_pos rfl]
theorem StA_snoc {L : SL} (hs : AscS L) {A : Pl} {z : Option Addr × Nat} {i : Nat} {x : Int × OM.Sg} (hx : L[i]? = some x) {p q r : Nat} :
    HSub [.ext p (StA (L.take (i + 1)) (setA A x.1 z))] [.ext q (StA (L.take i) A), .ext r (stA x.2 z)] := by
  refine HSub.trans HSub.join (HSub.trans ?_ (HSub.app2 (A := [.ext q (StA (L.take i) A)]) HSub.unjoin (HSub.ext (i := 0) (fun _ _ h => h) HSub.nil)))
  have e0 : stB (setA A x.1 z) x = .ext 0 (stA x.2 z) := by unfold stB setA; rw [if_pos rfl]
  have : (L.take (i + 1)).map (stB (setA A x.1 z)) = (L.take i).map (stB A) ++ [.ext 0 (stA x.2 z)] := by
    rw [← take_snoc hx, List.map_append, stB_set (asc_ne hs hx), List.map_cons, List.map_nil, e0]
  rw [this]
  exact HSub.refl _
theorem _root_.Go.X.HSub.addStL {i : Nat} {A : Pl} {L' L : List Blk} (h : HSub L' L) : HSub (L' ++ [.ext i (StA [] A)]) L :=
  HSub.trans (HSub.perm List.perm_append_comm) (fun w S hS =>
    let ⟨S', h1, h2⟩ := h w S hS
    ⟨fun k => False ∨ S' k, .cons (x := .ext i (StA [] A)) (S := fun _ => False) (Holds.nil (w := w)) (fun _ h => h.elim) h1 (fun _ h => h.elim), fun k hk => hk.elim False.elim (h2 k)⟩)
theorem mlen1064 {t : Nat} {l : List OM.Mv} (hl : l.length ≤ 64) (w : World) :
    Fr Tryz.prog 64 #[pv t] w (AssL [.ext 0 (MvsA t l)]) (.int .i64 (l.length : Nat)) (AssL [.ext 0 (MvsA t l)]) := by
  refine enter_fr TBok (H := [.ext 0 (MvsA t l)]) all_foot Tryz.func64 rfl rfl Tryz.ntmps64 [.loc t 0 0] rfl rfl ?_
  intro S
  conv => whnf
  refine Run.ex (A := mvsH t l) (i := 0) rmG ?_
  rintro ⟨a, cap⟩
  dsimp only [mvsH, layF]
  repeat' (first
 | with_reducible ((first | refine r_seq (fun KS hS => ?_) | (refine hS _ _ ?_; clear hS KS) | (refine hB _ ?_; clear hB KB)))
 | ((with_reducible (first | refine r_region ?_ | refine r_cond (fun KA hA KB hB => ?_) | refine r_ret ?_ | refine r_skip ?_ | refine And.intro rfl ?_)); conv => whnf)
 | (apply in1125; rfl; rfl; rfl; intro A; conv => whnf)
 | ((with_reducible apply OpK.more); (focus refine sok); (conv => whnf); fail_if_success guard_target =ₛ False)
 | with_reducible apply_assumption -symm -exfalso)
  all_goals exact FinK.frL rfl (HSub.trans (mvs_id (i := 0) (j := 1) (a := a) (cap := cap) rfl) seG)
structure StZ where
  sa : Option Addr × Nat
  A : Pl
  ma : Option Addr × Nat
  ra : Option Addr × Nat
  wa : Option Addr × Nat
  ea : Option Addr × Nat
abbrev stateV (o : OM.St) (z : StZ) : List SV := [.v (.int .i64 o.groups), .v (.int .i64 o.done), .v (.slice z.sa.1 o.sagas.length z.sa.2), .v (.slice z.ma.1 o.moves.length z.ma.2), .v (.slice z.ra.1 o.parts.length z.ra.2), .v (.slice z.wa.1 o.parts.length z.wa.2), .v (.slice z.ea.1 o.parts.length z.ea.2)]
abbrev stateH (o : OM.St) (z : StZ) : List Blk := [.ext 20 (SlA 76 11 z.sa.1 o.sagas.length z.sa.2 (o.sagas.flatMap (nmC z.A))), .ext 21 (StA o.sagas z.A), .ext 22 (SlA 83 6 z.ma.1 o.moves.length z.ma.2 (o.moves.flatMap mvC)), .ext 23 (SlA 37 2 z.ra.1 o.parts.length z.ra.2 (o.parts.flatMap rgC)), .ext 24 (SlA 3 1 z.wa.1 o.parts.length z.wa.2 (o.parts.flatMap gpC)), .ext 25 (SlA 3 1 z.ea.1 o.parts.length z.ea.2 (o.parts.flatMap ecC))]
theorem state1024 {d : Nat} {o : OM.St} (hI : OM.Inv o) (w : World) :
    FrZ Tryz.prog 24 #[pv d] w (AssL [.ext 12 (OrchA d o)]) (fun z : StZ => .agg (denL (stateV o z)).toArray) (fun z => AssL (.ext 12 (OrchA d o) :: stateH o z)) := by
  have hL := LOk.ofInv hI
  have hml := hI.mlen
  have hll := hI.slen
  have hp0 : 0 < o.parts.length := List.length_pos_iff.2 hI.cov.2
  have hpl : o.parts.length ≤ 64 := by have := hI.room; omega
  refine enter_frZ TBok (H := [.ext 12 (OrchA d o)]) all_foot Tryz.func24 rfl rfl Tryz.ntmps24 [.loc d 0 0] rfl rfl ?_
  intro S hz8 hz9
  clear hz8 hz9
  conv => whnf
  repeat' (first
 | with_reducible refine r_stop 3 ?_
 | with_reducible ((first | refine r_seq (fun KS hS => ?_) | (refine hS _ _ ?_; clear hS KS) | (refine hB _ ?_; clear hB KB)))
 | ((with_reducible (first | refine r_region ?_ | refine r_cond (fun KA hA KB hB => ?_) | refine r_skip ?_ | intro b)); conv => whnf)
 | ((with_reducible refine CallK.id ?_); refine CallK.s1V rmG (fun ms w hk => made1041 (by have := hI.gr; omega) w) ?_; conv => whnf)
 | with_reducible apply_assumption -symm -exfalso)
  refine StopR.mk ?_
  obtain ⟨b2, hb2⟩ : ∃ x, x = b := ⟨b, rfl⟩
  subst hb2
  refine Run.ex (A := orH d o) (i := 12) rmG ?_
  rintro ⟨t1, t2, t3⟩
  dsimp only [orH, layF]
  refine r_seq (fun KS2 hS2 => ?_)
  refine r_par (β := Option Addr × Nat) (id := 3) [nq 0 [] (.loc d 0 0), nq 1 [0] (.loc d 0 0), nq 2 [1] (.loc d 0 0), nq 3 [2] (.v (.int .i64 o.groups)), nq 4 [] (.loc d 0 0), nq 5 [4] (.loc d 0 0), nq 6 [5] (.loc d 0 1), nq 7 [6] (.v (.int .i64 o.done)), nq 8 [] (.loc d 0 0), nq 9 [8] (.loc d 0 0), nq 10 [9] (.loc d 0 4), nq 11 [10] (.loc t3 22 0), ⟨12, [11], some 100, fun _ q2 => .v (.slice q2.1 o.parts.length q2.2), fun _ q2 => [.ext 3 (PtsA t3 o.parts), .ext 23 (SlA 37 2 q2.1 o.parts.length q2.2 (o.parts.flatMap rgC))]⟩, nq 13 [] (.loc d 0 0), nq 14 [13] (.loc d 0 0), nq 15 [14] (.loc d 0 4), nq 16 [15] (.loc t3 22 0), ⟨17, [16, 12], some 12, fun _ q2 => .v (.slice q2.1 o.parts.length q2.2), fun l q2 => match l with | [_, z12] => [.ext 3 (PtsA t3 o.parts), .ext 23 (SlA 37 2 z12.1 o.parts.length z12.2 (o.parts.flatMap rgC)), .ext 24 (SlA 3 1 q2.1 o.parts.length q2.2 (o.parts.flatMap gpC))] | _ => []⟩, nq 18 [] (.loc d 0 0), nq 19 [18] (.loc d 0 0), nq 20 [19] (.loc d 0 4), nq 21 [20] (.loc t3 22 0), ⟨22, [21, 17, 12], some 17, fun _ q2 => .v (.slice q2.1 o.parts.length q2.2), fun l q2 => match l with | [_, z17, z12] => [.ext 3 (PtsA t3 o.parts), .ext 23 (SlA 37 2 z12.1 o.parts.length z12.2 (o.parts.flatMap rgC)), .ext 24 (SlA 3 1 z17.1 o.parts.length z17.2 (o.parts.flatMap gpC)), .ext 25 (SlA 3 1 q2.1 o.parts.length q2.2 (o.parts.flatMap ecC))] | _ => []⟩, ⟨23, [3, 7, 12, 17, 22], none, fun l _ => match l with | [_, _, z12, z17, z22] => .agg [.v (.int .i64 o.groups), .v (.int .i64 o.done), .v (.slice none 0 0), .v (.slice none 0 0), .v (.slice z12.1 o.parts.length z12.2), .v (.slice z17.1 o.parts.length z17.2), .v (.slice z22.1 o.parts.length z22.2)] | _ => .v undef, fun _ _ => []⟩, ⟨24, [], none, fun _ q2 => .loc q2.2 90 0, fun _ q2 => [.blk 90 q2.2 [.v (.int .i64 0), .v (.int .i64 0), .v (.slice none 0 0), .v (.slice none 0 0), .v (.slice none 0 0), .v (.slice none 0 0), .v (.slice none 0 0)] 72]⟩] [⟨100, [], none, fun _ _ => .v undef, fun _ _ => [.ext 3 (PtsA t3 o.parts)]⟩] 1 [.blk 13 b2 [.v (.int .i64 0), .v (.int .i64 0), .v (.slice none 0 0), .v (.slice none 0 0), .v (.slice none 0 0), .v (.slice none 0 0), .v (.slice none 0 0)] 72, .blk 0 d [.v (.int .i64 o.groups), .v (.int .i64 o.done), .loc t1 20 0, .loc t2 21 0, .loc t3 22 0] 121, .ext 1 (TabA t1 o.sagas), .ext 2 (MvsA t2 o.moves)] mixed (by kernel_rfl) (by kernel_rfl) (by show HSub [.ext 3 (PtsA t3 o.parts), .blk 13 b2 [.v (.int .i64 0), .v (.int .i64 0), .v (.slice none 0 0), .v (.slice none 0 0), .v (.slice none 0 0), .v (.slice none 0 0), .v (.slice none 0 0)] 72, .blk 0 d [.v (.int .i64 o.groups), .v (.int .i64 o.done), .loc t1 20 0, .loc t2 21 0, .loc t3 22 0] 121, .ext 1 (TabA t1 o.sagas), .ext 2 (MvsA t2 o.moves)] _; exact seG) ?_ ?_
  · conv => whnf
    repeat' (first | ((with_reducible refine And.intro ?_ ?_); all_goals (conv => whnf)) | ((with_reducible intro zz2 AA KP hP); conv => whnf))
    repeat' (first
 | ((with_reducible intro b); conv => whnf)
 | ((with_reducible refine CallK.id ?_); (first | refine CallK.s1 rmG (fun ms w hk => ranges1060 hp0 (by omega) w) ?_ | refine CallK.s1 rmG (fun ms w hk => groups1061 hp0 (by omega) w) ?_ | refine CallK.s1 rmG (fun ms w hk => epochs1062 hp0 (by omega) w) ?_); conv => whnf)
 | ((with_reducible refine hP (none, b) _ _ ?_ ?_); all_goals (first | exact default | ((repeat' (first | exact SubD.nil | (refine SubD.cons rfl rfl ?_))); done) | exact seZ))
 | ((with_reducible apply hP); all_goals (first | exact default | ((repeat' (first | exact SubD.nil | (refine SubD.cons rfl rfl ?_))); done) | exact seZ)))
  conv => whnf
  intro zz
  conv => whnf
  try dsimp only
  repeat' (first
 | with_reducible ((first | refine r_seq (fun KS hS => ?_) | (refine hS _ _ ?_; clear hS KS) | refine r_block ?_))
 | ((with_reducible (first | refine r_region ?_ | refine And.intro rfl ?_ | intro b)); conv => whnf)
 | ((with_reducible refine CallK.id ?_); refine CallK.s1 rmG (fun ms w hk => ids1063 hL.srt hL.len w) ?_; conv => whnf)
 | ((with_reducible ((first | refine AnyAt.mk (fun K' hK => ?_) | (refine hK _ _ ?_; clear hK K')))); conv => whnf)
 | with_reducible apply_assumption -symm -exfalso)
  rcases b with ⟨ia, icap⟩
  dsimp only
  generalize zz 12 = ra
  generalize zz 17 = wa
  generalize zz 22 = ea
  generalize (zz 24).2 = b3
  clear zz
  refine r_loop (α := Nat × Pl × Option Addr × Nat) (fun z => [(0, .loc d 0 0), (2, .loc b2 13 0), (3, .loc b3 90 0), (43, .v (.slice ia o.sagas.length icap)), (44, .v (.int .i64 (o.sagas.length : Nat))), (45, .v (.int .i64 (z.1 : Nat)))]) (fun z => [.blk 90 b3 [.v (.int .i64 o.groups), .v (.int .i64 o.done), .v (.slice z.2.2.1 z.1 z.2.2.2), .v (.slice none 0 0), .v (.slice ra.1 o.parts.length ra.2), .v (.slice wa.1 o.parts.length wa.2), .v (.slice ea.1 o.parts.length ea.2)] 72, .blk 13 b2 [.v (.int .i64 0), .v (.int .i64 0), .v (.slice none 0 0), .v (.slice none 0 0), .v (.slice none 0 0), .v (.slice none 0 0), .v (.slice none 0 0)] 72, .blk 0 d [.v (.int .i64 o.groups), .v (.int .i64 o.done), .loc t1 20 0, .loc t2 21 0, .loc t3 22 0] 121, .ext 1 (TabA t1 o.sagas), .ext 2 (MvsA t2 o.moves), .ext 3 (PtsA t3 o.parts), .ext 23 (SlA 37 2 ra.1 o.parts.length ra.2 (o.parts.flatMap rgC)), .ext 24 (SlA 3 1 wa.1 o.parts.length wa.2 (o.parts.flatMap gpC)), .ext 25 (SlA 3 1 ea.1 o.parts.length ea.2 (o.parts.flatMap ecC)), .ext 4 (SlA 3 1 ia o.sagas.length icap (idC o.sagas))] ++ [.ext 20 (SlA 76 11 z.2.2.1 z.1 z.2.2.2 ((o.sagas.take z.1).flatMap (nmC z.2.1))), .ext 21 (StA (o.sagas.take z.1) z.2.1)]) (fun z => z.1 ≤ o.sagas.length) (fun z => o.sagas.length - z.1) (0, (fun _ => (none, 0)), none, 0) (Nat.zero_le _) suG (HSub.addStL (L' := [.blk 90 b3 [.v (.int .i64 o.groups), .v (.int .i64 o.done), .v (.slice none 0 0), .v (.slice none 0 0), .v (.slice ra.1 o.parts.length ra.2), .v (.slice wa.1 o.parts.length wa.2), .v (.slice ea.1 o.parts.length ea.2)] 72, .blk 13 b2 [.v (.int .i64 0), .v (.int .i64 0), .v (.slice none 0 0), .v (.slice none 0 0), .v (.slice none 0 0), .v (.slice none 0 0), .v (.slice none 0 0)] 72, .blk 0 d [.v (.int .i64 o.groups), .v (.int .i64 o.done), .loc t1 20 0, .loc t2 21 0, .loc t3 22 0] 121, .ext 1 (TabA t1 o.sagas), .ext 2 (MvsA t2 o.moves), .ext 3 (PtsA t3 o.parts), .ext 23 (SlA 37 2 ra.1 o.parts.length ra.2 (o.parts.flatMap rgC)), .ext 24 (SlA 3 1 wa.1 o.parts.length wa.2 (o.parts.flatMap gpC)), .ext 25 (SlA 3 1 ea.1 o.parts.length ea.2 (o.parts.flatMap ecC)), .ext 4 (SlA 3 1 ia o.sagas.length icap (idC o.sagas))] ++ [.ext 20 (SlA 76 11 none 0 0 [])]) (HSub.addSlL (L' := [.blk 90 b3 [.v (.int .i64 o.groups), .v (.int .i64 o.done), .v (.slice none 0 0), .v (.slice none 0 0), .v (.slice ra.1 o.parts.length ra.2), .v (.slice wa.1 o.parts.length wa.2), .v (.slice ea.1 o.parts.length ea.2)] 72, .blk 13 b2 [.v (.int .i64 0), .v (.int .i64 0), .v (.slice none 0 0), .v (.slice none 0 0), .v (.slice none 0 0), .v (.slice none 0 0), .v (.slice none 0 0)] 72, .blk 0 d [.v (.int .i64 o.groups), .v (.int .i64 o.done), .loc t1 20 0, .loc t2 21 0, .loc t3 22 0] 121, .ext 1 (TabA t1 o.sagas), .ext 2 (MvsA t2 o.moves), .ext 3 (PtsA t3 o.parts), .ext 23 (SlA 37 2 ra.1 o.parts.length ra.2 (o.parts.flatMap rgC)), .ext 24 (SlA 3 1 wa.1 o.parts.length wa.2 (o.parts.flatMap gpC)), .ext 25 (SlA 3 1 ea.1 o.parts.length ea.2 (o.parts.flatMap ecC)), .ext 4 (SlA 3 1 ia o.sagas.length icap (idC o.sagas))]) seG)) ?_
  rintro ⟨i, A, a, cap⟩ hi KL hL2
  dsimp only [List.cons_append, List.nil_append] at hi ⊢
  by_cases hlt : i < o.sagas.length
  · obtain ⟨x, hx⟩ : ∃ x, o.sagas[i]? = some x := ⟨_, List.getElem?_eq_getElem hlt⟩
    have hmem := List.mem_of_getElem? hx
    have hg := getL_of_mem hL.srt hmem
    have hok := hL.ok x hmem
    have hid := hL.id x hmem
    repeat' (first
 | with_reducible ((first | refine r_seq (fun KS hS => ?_) | (refine hS _ _ ?_; clear hS KS) | (refine hA _ ?_; clear hA KA) | refine r_block ?_))
 | ((with_reducible (first | refine r_region ?_ | refine r_cond (fun KA hA KB hB => ?_) | refine r_skip ?_ | refine And.intro rfl ?_ | intro b)); conv => whnf)
 | ((with_reducible refine WrapK.i64 ?_ ?_); (focus omega); conv => whnf)
 | ((with_reducible refine OpK.id ?_); (first | refine OpK.idx (k := 1) rfl rfl rfl rfl rfl rfl rfl (Sees.ext atG) (by omega) (by omega) (id_at hx) (fun b off hp => ?_) | refine OpK.ldp rfl rfl hp (List.cons_ne_nil _ _) ?_); conv => whnf)
 | ((with_reducible refine CallK.id ?_); refine CallK.s1 rmG (fun ms w hk => get1056 hg hok (zok_id hid) w) ?_; conv => whnf)
 | ((with_reducible refine OpK.id ?_); refine OpK.app (k := 11) rfl rfl rfl rfl rfl rfl rfl rfl atG (SrcK.slc rfl rfl lmG (Nat.le_refl _) rfl) (big_ok (by omega) (by decide)) (fun a' cap' => ?_); conv => whnf)
 | (refine hL2 (i + 1, setA A x.1 ‹Option Addr × Nat›, a', cap') _ _ (by show i + 1 ≤ _; omega) (by show _ - (i + 1) < _ - i; omega) suG (by refine HSub.trans (HSub.app2 (A := [.blk 90 b3 [.v (.int .i64 o.groups), .v (.int .i64 o.done), .v (.slice a' (i + 1) cap'), .v (.slice none 0 0), .v (.slice ra.1 o.parts.length ra.2), .v (.slice wa.1 o.parts.length wa.2), .v (.slice ea.1 o.parts.length ea.2)] 72, .blk 13 b2 [.v (.int .i64 0), .v (.int .i64 0), .v (.slice none 0 0), .v (.slice none 0 0), .v (.slice none 0 0), .v (.slice none 0 0), .v (.slice none 0 0)] 72, .blk 0 d [.v (.int .i64 o.groups), .v (.int .i64 o.done), .loc t1 20 0, .loc t2 21 0, .loc t3 22 0] 121, .ext 1 (TabA t1 o.sagas), .ext 2 (MvsA t2 o.moves), .ext 3 (PtsA t3 o.parts), .ext 23 (SlA 37 2 ra.1 o.parts.length ra.2 (o.parts.flatMap rgC)), .ext 24 (SlA 3 1 wa.1 o.parts.length wa.2 (o.parts.flatMap gpC)), .ext 25 (SlA 3 1 ea.1 o.parts.length ea.2 (o.parts.flatMap ecC)), .ext 4 (SlA 3 1 ia o.sagas.length icap (idC o.sagas))]) (HSub.refl _) (HSub.ext (i := 20) (j := 20) (fun w S h => by rw [← nm_snoc hL.srt hx]; exact h) (StA_snoc (q := 21) (r := 1) hL.srt hx))) ?_; dsimp only [List.cons_append, List.nil_append]; exact seG))
 | (refine if_decT (by omega) ?_; conv => whnf)
 | with_reducible apply_assumption -symm -exfalso)
  · obtain rfl : i = o.sagas.length := by omega
    clear hL2
    rw [List.take_length]
    repeat' (first
 | with_reducible ((first | refine r_seq (fun KS hS => ?_) | (refine hS _ _ ?_; clear hS KS) | (refine hB _ ?_; clear hB KB) | refine r_block ?_))
 | ((with_reducible (first | refine r_region ?_ | refine r_cond (fun KA hA KB hB => ?_) | refine r_exit ?_ | refine And.intro rfl ?_)); conv => whnf)
 | ((with_reducible refine CallK.id ?_); refine CallK.s1V rmG (fun ms w hk => mlen1064 hml w) ?_; conv => whnf)
 | (refine if_decF (by omega) ?_; conv => whnf)
 | with_reducible apply_assumption -symm -exfalso)
    refine r_loop (α := Nat × Option Addr × Nat) (fun z => [(0, .loc d 0 0), (2, .loc b2 13 0), (3, .loc b3 90 0), (71, .v (.int .i64 (o.moves.length : Nat))), (72, .v (.int .i64 (z.1 : Nat)))]) (fun z => [.blk 90 b3 [.v (.int .i64 o.groups), .v (.int .i64 o.done), .v (.slice a o.sagas.length cap), .v (.slice z.2.1 z.1 z.2.2), .v (.slice ra.1 o.parts.length ra.2), .v (.slice wa.1 o.parts.length wa.2), .v (.slice ea.1 o.parts.length ea.2)] 72, .blk 13 b2 [.v (.int .i64 0), .v (.int .i64 0), .v (.slice none 0 0), .v (.slice none 0 0), .v (.slice none 0 0), .v (.slice none 0 0), .v (.slice none 0 0)] 72, .blk 0 d [.v (.int .i64 o.groups), .v (.int .i64 o.done), .loc t1 20 0, .loc t2 21 0, .loc t3 22 0] 121, .ext 1 (TabA t1 o.sagas), .ext 2 (MvsA t2 o.moves), .ext 3 (PtsA t3 o.parts), .ext 23 (SlA 37 2 ra.1 o.parts.length ra.2 (o.parts.flatMap rgC)), .ext 24 (SlA 3 1 wa.1 o.parts.length wa.2 (o.parts.flatMap gpC)), .ext 25 (SlA 3 1 ea.1 o.parts.length ea.2 (o.parts.flatMap ecC)), .ext 20 (SlA 76 11 a o.sagas.length cap (o.sagas.flatMap (nmC A))), .ext 21 (StA o.sagas A)] ++ [.ext 22 (SlA 83 6 z.2.1 z.1 z.2.2 ((o.moves.take z.1).flatMap mvC))]) (fun z => z.1 ≤ o.moves.length) (fun z => o.moves.length - z.1) (0, none, 0) (Nat.zero_le _) suG (HSub.addSlL (L' := [.blk 90 b3 [.v (.int .i64 o.groups), .v (.int .i64 o.done), .v (.slice a o.sagas.length cap), .v (.slice none 0 0), .v (.slice ra.1 o.parts.length ra.2), .v (.slice wa.1 o.parts.length wa.2), .v (.slice ea.1 o.parts.length ea.2)] 72, .blk 13 b2 [.v (.int .i64 0), .v (.int .i64 0), .v (.slice none 0 0), .v (.slice none 0 0), .v (.slice none 0 0), .v (.slice none 0 0), .v (.slice none 0 0)] 72, .blk 0 d [.v (.int .i64 o.groups), .v (.int .i64 o.done), .loc t1 20 0, .loc t2 21 0, .loc t3 22 0] 121, .ext 1 (TabA t1 o.sagas), .ext 2 (MvsA t2 o.moves), .ext 3 (PtsA t3 o.parts), .ext 23 (SlA 37 2 ra.1 o.parts.length ra.2 (o.parts.flatMap rgC)), .ext 24 (SlA 3 1 wa.1 o.parts.length wa.2 (o.parts.flatMap gpC)), .ext 25 (SlA 3 1 ea.1 o.parts.length ea.2 (o.parts.flatMap ecC)), .ext 20 (SlA 76 11 a o.sagas.length cap (o.sagas.flatMap (nmC A))), .ext 21 (StA o.sagas A)]) seG) ?_
    rintro ⟨i, a2, cap2⟩ hi KL hL2
    dsimp only [List.cons_append, List.nil_append] at hi ⊢
    by_cases hlt : i < o.moves.length
    · obtain ⟨m, hx⟩ : ∃ m, o.moves[i]? = some m := ⟨_, List.getElem?_eq_getElem hlt⟩
      have hsn := flat_snoc (g := mvC) hx
      repeat' (first
 | with_reducible ((first | refine r_seq (fun KS hS => ?_) | (refine hS _ _ ?_; clear hS KS) | (refine hA _ ?_; clear hA KA) | refine r_block ?_))
 | ((with_reducible (first | refine r_region ?_ | refine r_cond (fun KA hA KB hB => ?_) | refine r_skip ?_ | refine And.intro rfl ?_ | intro b)); conv => whnf)
 | ((with_reducible refine WrapK.i64 ?_ ?_); (focus omega); conv => whnf)
 | ((with_reducible refine CallK.id ?_); refine CallK.s1V rmG (fun ms w hk => mget1065 hx hml w) ?_; conv => whnf)
 | ((with_reducible refine OpK.id ?_); refine OpK.app (k := 6) rfl rfl rfl rfl rfl rfl rfl rfl atG (SrcK.slc rfl rfl lmG (Nat.le_refl _) rfl) (big_ok (by omega) (by decide)) (fun a' cap' => ?_); conv => whnf)
 | (refine hL2 (i + 1, a', cap') _ _ (by show i + 1 ≤ _; omega) (by show _ - (i + 1) < _ - i; omega) suG (by refine HSub.trans (HSub.app2 (A := [.blk 90 b3 [.v (.int .i64 o.groups), .v (.int .i64 o.done), .v (.slice a o.sagas.length cap), .v (.slice a' (i + 1) cap'), .v (.slice ra.1 o.parts.length ra.2), .v (.slice wa.1 o.parts.length wa.2), .v (.slice ea.1 o.parts.length ea.2)] 72, .blk 13 b2 [.v (.int .i64 0), .v (.int .i64 0), .v (.slice none 0 0), .v (.slice none 0 0), .v (.slice none 0 0), .v (.slice none 0 0), .v (.slice none 0 0)] 72, .blk 0 d [.v (.int .i64 o.groups), .v (.int .i64 o.done), .loc t1 20 0, .loc t2 21 0, .loc t3 22 0] 121, .ext 1 (TabA t1 o.sagas), .ext 2 (MvsA t2 o.moves), .ext 3 (PtsA t3 o.parts), .ext 23 (SlA 37 2 ra.1 o.parts.length ra.2 (o.parts.flatMap rgC)), .ext 24 (SlA 3 1 wa.1 o.parts.length wa.2 (o.parts.flatMap gpC)), .ext 25 (SlA 3 1 ea.1 o.parts.length ea.2 (o.parts.flatMap ecC)), .ext 20 (SlA 76 11 a o.sagas.length cap (o.sagas.flatMap (nmC A))), .ext 21 (StA o.sagas A)]) (HSub.refl _) (HSub.ext (i := 22) (j := 22) (fun w S h => by rw [← hsn]; exact h) HSub.nil)) ?_; dsimp only [List.cons_append, List.nil_append]; exact seG))
 | (refine if_decT (by omega) ?_; conv => whnf)
 | with_reducible apply_assumption -symm -exfalso)
    · obtain rfl : i = o.moves.length := by omega
      clear hL2
      rw [List.take_length]
      repeat' (first
 | with_reducible ((first | refine r_seq (fun KS hS => ?_) | (refine hS _ _ ?_; clear hS KS) | (refine hB _ ?_; clear hB KB)))
 | ((with_reducible (first | refine r_region ?_ | refine r_cond (fun KA hA KB hB => ?_) | refine r_ret ?_ | refine r_exit ?_ | refine And.intro rfl ?_)); conv => whnf)
 | (refine if_decF (by omega) ?_; conv => whnf)
 | with_reducible apply_assumption -symm -exfalso)
      refine FinK.frZL ⟨(a, cap), A, (a2, cap2), ra, wa, ea⟩ rfl (HSub.trans (HSub.app2 (A' := [.ext 12 (OrchA d o)]) (or_id (d := d) (s := o) (t1 := t1) (t2 := t2) (t3 := t3) (i := 0) (j := 1) (k := 2) (l := 3)) (HSub.refl (stateH o ⟨(a, cap), A, (a2, cap2), ra, wa, ea⟩))) ?_)
      dsimp only [stateH, List.cons_append, List.nil_append]
      exact seG
theorem nm_at {A : Pl} {l : List (Int × OM.Sg)} {i : Nat} {x : Int × OM.Sg} (h : l[i]? = some x) : ((l.flatMap (nmC A)).drop ((i : Int).toNat * 11)).take 11 = denL (.v (.int .i64 x.1) :: sgc x.2 (A x.1).1 (A x.1).2) := flat_at (k := 11) (g := nmC A) (fun _ => rfl) h
theorem AssL.re3 {A B C : Ass} {i q j p k r : Nat} {M : List Blk} {w : World} {S : Nat → Prop} (h : (AssL (.ext i A :: .ext j B :: .ext k C :: M)).holds w S) : (AssL (.ext q A :: .ext p B :: .ext r C :: M)).holds w S := by
  have h : Holds w (.ext i A :: .ext j B :: .ext k C :: M) S := h
  cases h with
  | @cons _ _ S1 T1 hx hb hH hd => exact Holds.cons (x := .ext q A) hx hb (AssL.re2 (i := j) (j := k) hH) hd
abbrev inX (j : Nat) : OM.Item := ⟨OM.zEff, ((j + 1 : Nat) : Int), true, 2⟩
theorem one_mv {L : List OM.Mv} : ∀ u ∈ L.flatMap mvC, u.oneCell' = true := by
  intro u hu
  obtain ⟨x, _, hx⟩ := List.mem_flatMap.1 hu
  simp only [List.mem_cons, List.not_mem_nil, or_false] at hx
  rcases hx with rfl | rfl | rfl | rfl | rfl | rfl <;> rfl
theorem one_pt {L : List OM.Pt} : ∀ u ∈ L.flatMap ptC, u.oneCell' = true := by
  intro u hu
  obtain ⟨x, _, hx⟩ := List.mem_flatMap.1 hu
  simp only [List.mem_cons, List.not_mem_nil, or_false] at hx
  rcases hx with rfl | rfl | rfl | rfl <;> rfl
theorem mclone1135 {L : List OM.Mv} {a : Option Addr} {cap : Nat} {w : World} (hr : RdS w 83 6 a L.length cap (L.flatMap mvC)) (hlen : L.length ≤ 1000) :
    FrZ Tryz.prog 135 #[.slice a L.length cap] w emp (fun z : Option Addr × Nat => .slice z.1 L.length z.2) (fun z => SlA 83 6 z.1 L.length z.2 (L.flatMap mvC)) := by
  refine enter_frZ TBok (H := []) emp_foot Tryz.func135 rfl rfl Tryz.ntmps135 [.v (.slice a L.length cap)] rfl rfl ?_
  intro S hS _
  have sa := fun n' r H => Sees.old (c := ⟨Tryz.prog, TB, n', w, S, r, TBok⟩) (H := H) (hr.oldE hS)
  cases a with
  | none =>
    have h0 : L.length = 0 := by
      obtain ⟨T, h, _⟩ := hr
      rcases h with ⟨_, h, _⟩ | ⟨b, _, pre, post, fr, h, _⟩
      · exact h
      · cases h
    have hX : L = [] := List.eq_nil_of_length_eq_zero h0
    subst hX
    conv => whnf
    repeat' (first
 | with_reducible ((first | refine r_seq (fun KS hS => ?_) | (refine hS _ _ ?_; clear hS KS) | (refine hA _ ?_; clear hA KA)))
 | ((with_reducible (first | refine r_region ?_ | refine r_cond (fun KA hA KB hB => ?_) | refine r_ret ?_)); conv => whnf)
 | ((with_reducible refine OpK.id ?_); refine OpK.slNil rfl rfl rfl rfl rfl (.inl ⟨rfl, rfl⟩) ?_; conv => whnf))
    exact FinK.frZ (i := 0) (Option.none, 0) rfl (HSub.addSl (HSub.none _))
  | some ad =>
    conv => whnf
    repeat' (first
 | with_reducible ((first | refine r_seq (fun KS hS => ?_) | (refine hS _ _ ?_; clear hS KS) | (refine hB _ ?_; clear hB KB)))
 | ((with_reducible (first | refine r_region ?_ | refine r_cond (fun KA hA KB hB => ?_) | refine r_ret ?_ | refine r_skip ?_ | intro b)); conv => whnf)
 | ((with_reducible refine OpK.id ?_); (first | refine OpK.slNil rfl rfl rfl rfl rfl (.inl ⟨rfl, rfl⟩) ?_ | refine OpK.appS (k := 6) rfl rfl rfl rfl rfl rfl rfl rfl atG rfl (SrcK.sees rfl rfl (sa _ _ _) one_mv) (big_ok (by omega) (by decide)) (fun a2 cap2 => ?_)); conv => whnf)
 | with_reducible apply_assumption -symm -exfalso)
    exact FinK.frZ (i := 0) (a2, cap2) (by show Value.slice a2 (0 + L.length) cap2 = _; rw [Nat.zero_add]) (HSub.ext (fun _ _ hx => by rw [Nat.zero_add] at hx; exact hx) HSub.nil)
theorem pclone1136 {L : List OM.Pt} {a : Option Addr} {cap : Nat} {w : World} (hr : RdS w 193 4 a L.length cap (L.flatMap ptC)) (hlen : L.length ≤ 1000) :
    FrZ Tryz.prog 136 #[.slice a L.length cap] w emp (fun z : Option Addr × Nat => .slice z.1 L.length z.2) (fun z => SlA 193 4 z.1 L.length z.2 (L.flatMap ptC)) := by
  refine enter_frZ TBok (H := []) emp_foot Tryz.func136 rfl rfl Tryz.ntmps136 [.v (.slice a L.length cap)] rfl rfl ?_
  intro S hS _
  have sa := fun n' r H => Sees.old (c := ⟨Tryz.prog, TB, n', w, S, r, TBok⟩) (H := H) (hr.oldE hS)
  cases a with
  | none =>
    have h0 : L.length = 0 := by
      obtain ⟨T, h, _⟩ := hr
      rcases h with ⟨_, h, _⟩ | ⟨b, _, pre, post, fr, h, _⟩
      · exact h
      · cases h
    have hX : L = [] := List.eq_nil_of_length_eq_zero h0
    subst hX
    conv => whnf
    repeat' (first
 | with_reducible ((first | refine r_seq (fun KS hS => ?_) | (refine hS _ _ ?_; clear hS KS) | (refine hA _ ?_; clear hA KA)))
 | ((with_reducible (first | refine r_region ?_ | refine r_cond (fun KA hA KB hB => ?_) | refine r_ret ?_)); conv => whnf)
 | ((with_reducible refine OpK.id ?_); refine OpK.slNil rfl rfl rfl rfl rfl (.inl ⟨rfl, rfl⟩) ?_; conv => whnf))
    exact FinK.frZ (i := 0) (Option.none, 0) rfl (HSub.addSl (HSub.none _))
  | some ad =>
    conv => whnf
    repeat' (first
 | with_reducible ((first | refine r_seq (fun KS hS => ?_) | (refine hS _ _ ?_; clear hS KS) | (refine hB _ ?_; clear hB KB)))
 | ((with_reducible (first | refine r_region ?_ | refine r_cond (fun KA hA KB hB => ?_) | refine r_ret ?_ | refine r_skip ?_ | intro b)); conv => whnf)
 | ((with_reducible refine OpK.id ?_); (first | refine OpK.slNil rfl rfl rfl rfl rfl (.inl ⟨rfl, rfl⟩) ?_ | refine OpK.appS (k := 4) rfl rfl rfl rfl rfl rfl rfl rfl atG rfl (SrcK.sees rfl rfl (sa _ _ _) one_pt) (big_ok (by omega) (by decide)) (fun a2 cap2 => ?_)); conv => whnf)
 | with_reducible apply_assumption -symm -exfalso)
    exact FinK.frZ (i := 0) (a2, cap2) (by show Value.slice a2 (0 + L.length) cap2 = _; rw [Nat.zero_add]) (HSub.ext (fun _ _ hx => by rw [Nat.zero_add] at hx; exact hx) HSub.nil)
theorem mcopy1083 {t : Nat} {l : List OM.Mv} (hl : l.length ≤ 1000) (w : World) :
    FrZ Tryz.prog 83 #[pv t] w (AssL [.ext 0 (MvsA t l)]) (fun t' : Nat => pv t') (fun t' => AssL [.ext 0 (MvsA t l), .ext 1 (MvsA t' l)]) := by
  refine enter_frZ TBok (H := [.ext 0 (MvsA t l)]) all_foot Tryz.func83 rfl rfl Tryz.ntmps83 [.loc t 0 0] rfl rfl ?_
  intro S hz8 hz9
  clear hz8 hz9
  conv => whnf
  refine Run.ex (A := mvsH t l) (i := 0) rmG ?_
  rintro ⟨a, cap⟩
  dsimp only [mvsH, layF]
  repeat' (first
 | with_reducible ((first | refine r_seq (fun KS hS => ?_) | (refine hS _ _ ?_; clear hS KS) | (refine hB _ ?_; clear hB KB)))
 | ((with_reducible (first | refine r_region ?_ | refine r_cond (fun KA hA KB hB => ?_) | refine r_ret ?_ | refine r_skip ?_ | refine And.intro rfl ?_ | intro b)); conv => whnf)
 | (apply in1125; rfl; rfl; rfl; intro A; conv => whnf)
 | ((with_reducible refine CallK.id ?_); refine CallK.fresh (fun ms w hk => mclone1135 (Sees.rd (Sees.ext atG) hk) hl) ?_; conv => whnf)
 | ((with_reducible apply OpK.more); (focus refine sok); (conv => whnf); fail_if_success guard_target =ₛ False)
 | with_reducible apply_assumption -symm -exfalso)
  rename_i bz
  exact FinK.frZL b rfl (HSub.trans (HSub.app2 (A' := [.ext 0 (MvsA t l)]) (mvs_id (i := 0) (j := 1) (a := a) (cap := cap) rfl) (mvs_id (q := 1) (t := b) (i := 2) (j := 3) (a := bz.1) (cap := bz.2) (n := l.length) (l := l) rfl)) seG)
theorem pcopy1084 {t : Nat} {l : List OM.Pt} (h0 : 0 < l.length) (hl : l.length ≤ 1000) (w : World) :
    FrZ Tryz.prog 84 #[pv t] w (AssL [.ext 0 (PtsA t l)]) (fun t' : Nat => pv t') (fun t' => AssL [.ext 0 (PtsA t l), .ext 1 (PtsA t' l)]) := by
  refine enter_frZ TBok (H := [.ext 0 (PtsA t l)]) all_foot Tryz.func84 rfl rfl Tryz.ntmps84 [.loc t 0 0] rfl rfl ?_
  intro S hz8 hz9
  clear hz8 hz9
  conv => whnf
  refine Run.ex (A := ptsH t l) (i := 0) rmG ?_
  rintro ⟨a, cap⟩
  dsimp only [ptsH, layF]
  repeat' (first
 | with_reducible ((first | refine r_seq (fun KS hS => ?_) | (refine hS _ _ ?_; clear hS KS) | (refine hB _ ?_; clear hB KB)))
 | ((with_reducible (first | refine r_region ?_ | refine r_cond (fun KA hA KB hB => ?_) | refine r_ret ?_ | refine r_skip ?_ | refine And.intro rfl ?_ | intro b)); conv => whnf)
 | (apply in1121; rfl; rfl; rfl; intro A; conv => whnf)
 | ((with_reducible refine CallK.id ?_); refine CallK.fresh (fun ms w hk => pclone1136 (Sees.rd (Sees.ext atG) hk) hl) ?_; conv => whnf)
 | ((with_reducible apply OpK.more); (focus refine sok); (conv => whnf); fail_if_success guard_target =ₛ False)
 | (refine if_ndecF (by omega) ?_; conv => whnf)
 | with_reducible apply_assumption -symm -exfalso)
  rename_i bz
  exact FinK.frZL b rfl (HSub.trans (HSub.app2 (A' := [.ext 0 (PtsA t l)]) (pts_id (i := 0) (j := 1) (a := a) (cap := cap) rfl) (pts_id (q := 1) (t := b) (i := 2) (j := 3) (a := bz.1) (cap := bz.2) (n := l.length) (l := l) rfl)) seG)
theorem asc_ext : ∀ {K L : SL}, AscS K → AscS L → (∀ x, x ∈ K ↔ x ∈ L) → K = L
  | [], [], _, _, _ => rfl
  | [], y :: L, _, _, h => absurd ((h y).2 (.head _)) (by simp)
  | x :: K, [], _, _, h => absurd ((h x).1 (.head _)) (by simp)
  | x :: K, y :: L, hk, hl, h => by
    have hk' := List.pairwise_cons.1 hk
    have hl' := List.pairwise_cons.1 hl
    have e : x = y := by
      rcases List.mem_cons.1 ((h x).1 (.head _)) with e | e
      · exact e
      · rcases List.mem_cons.1 ((h y).2 (.head _)) with e2 | e2
        · exact e2.symm
        · have := hl'.1 x e; have := hk'.1 y e2; omega
    subst e
    rw [asc_ext hk'.2 hl'.2 fun z => ?_]
    constructor
    · intro hz
      rcases List.mem_cons.1 ((h z).1 (.tail _ hz)) with e | e
      · subst e; have := hk'.1 z hz; omega
      · exact e
    · intro hz
      rcases List.mem_cons.1 ((h z).2 (.tail _ hz)) with e | e
      · subst e; have := hl'.1 z hz; omega
      · exact e
def leftK (L : SL) (done : List Int) : Nat := L.countP fun x => !done.contains x.1
theorem leftK_lt {done : List Int} {id : Int} (hd : id ∉ done) : ∀ {L : SL}, (∃ x ∈ L, x.1 = id) → leftK L (id :: done) < leftK L done
  | [], h => by obtain ⟨x, h, _⟩ := h; cases h
  | y :: L, h => by
    have hle : ∀ M : SL, leftK M (id :: done) ≤ leftK M done := by
      intro M
      refine List.countP_mono_left fun x _ hx => ?_
      simp only [List.contains_cons, Bool.not_eq_true', Bool.or_eq_false_iff] at hx ⊢
      exact hx.2
    have hM := hle L
    unfold leftK at hM ⊢
    rw [List.countP_cons, List.countP_cons]
    by_cases e : y.1 = id
    · have c1 : (id :: done).contains y.1 = true := by simp [e]
      have c2 : done.contains y.1 = false := by
        rw [e]; simpa using hd
      rw [c1, c2]
      simp only [List.contains_cons] at hM ⊢
      simp
      simp at hM
      omega
    · have ih := leftK_lt hd (L := L) (by
        obtain ⟨x, hx, he⟩ := h
        rcases List.mem_cons.1 hx with rfl | hx
        · exact absurd he e
        · exact ⟨x, hx, he⟩)
      unfold leftK at ih
      have c1 : (id :: done).contains y.1 = done.contains y.1 := by
        rw [List.contains_cons]
        have : (y.1 == id) = false := by simpa using e
        rw [this, Bool.false_or]
      rw [c1]
      omega
section
variable {c : Cx} {o : Oper} {E : Env} {H : List Blk} {nx : K1}
theorem nxS {x : Operand} {r m i : Nat} {L : SL} {A : Pl} {done : List Int} {fn : Blk → List Blk} (ho : o.op = .next x false) (hx : opd E x = some (.v (.pointer (some ⟨r, 0, none⟩)))) (hu : At H (.ext i (ItK r m (sgF L A) done)) fn)
    (h1 : (∀ id s, getL L id = some s → id ∈ done) → nx (.tup [.v (.bool false)]) H)
    (h2 : ∀ id s, getL L id = some s → id ∉ done → nx (.tup [.v (.bool true), .v (.int .i64 id), .v (sgV s (A id))]) (fn (.ext i (ItK r m (sgF L A) (id :: done))))) : OpK c o E H nx := by
  refine OpK.nxK (ty := 0) ho hx hu (fun h => h1 fun id s hg => h id _ (sgF_get hg)) (fun z v hf hnd => ?_)
  unfold sgF at hf
  rw [Option.map_eq_some_iff] at hf
  obtain ⟨s, hg, rfl⟩ := hf
  exact h2 z s hg hnd
end
theorem tab_it {t m r : Nat} {L : SL} {A : Pl} {done : List Int} {i j k q : Nat} : HSub [.ext q (TabA t L)] [.blk i t [.v (.map (some m))] 210, .ext j (ItK r m (sgF L A) done), .ext k (StA L A)] :=
  HSub.trans (exA.close (A := tabH t L) (m, A)) (HSub.keep rfl (HSub.ext (fun _ _ h => ItK.map h) (HSub.ext (fun _ _ h => h) HSub.nil)))
theorem putS_in {K L : SL} {done : List Int} {id : Int} {s : OM.Sg} (hk : AscS K) (hm : ∀ x, x ∈ K ↔ x ∈ L ∧ x.1 ∈ done) (hL : AscS L) (hg : getL L id = some s) (hd : id ∉ done) : ∀ x, x ∈ OM.putS id s K ↔ x ∈ L ∧ x.1 ∈ id :: done := by
  intro x
  have hin := getL_mem hg
  have hput := OM.putS_sorted (id := id) (s := s) hk
  constructor
  · intro hx
    rcases OM.putS_mem hx with rfl | hx
    · exact ⟨hin, .head _⟩
    · obtain ⟨h1, h2⟩ := (hm x).1 hx
      exact ⟨h1, .tail _ h2⟩
  · rintro ⟨h1, h2⟩
    have hgx := getL_of_mem hL h1
    have : getL (OM.putS id s K) x.1 = some x.2 := by
      rw [getL_put hk]
      rcases List.mem_cons.1 h2 with e | h2
      · rw [if_pos e]
        rw [e, hg] at hgx
        exact hgx
      · have hne : x.1 ≠ id := fun e => hd (e ▸ h2)
        rw [if_neg hne]
        exact getL_of_mem hk ((hm x).2 ⟨h1, h2⟩)
    exact getL_mem this
theorem tcopy1082 {t : Nat} {L : SL} (hL : LOk L) (w : World) :
    FrZ Tryz.prog 82 #[pv t] w (AssL [.ext 0 (TabA t L)]) (fun t' : Nat => pv t') (fun t' => AssL [.ext 0 (TabA t L), .ext 1 (TabA t' L)]) := by
  have hsl : ∀ id s, getL L id = some s → s.d.steps.length ≤ 1000 := fun id s hg => by
    have h : OM.SOk s := hL.ok _ (getL_mem hg)
    have := OM.Dfn.steps_pos h.d
    omega
  refine enter_frZ TBok (H := [.ext 0 (TabA t L)]) all_foot Tryz.func82 rfl rfl Tryz.ntmps82 [.loc t 0 0] rfl rfl ?_
  intro S hz8 hz9
  clear hz8 hz9
  conv => whnf
  refine Run.ex (A := tabH t L) (i := 0) rmG ?_
  rintro ⟨m, P0⟩
  dsimp only [tabH, layF]
  repeat' (first
 | with_reducible ((first | refine r_seq (fun KS hS => ?_) | (refine hS _ _ ?_; clear hS KS) | (refine hB _ ?_; clear hB KB) | refine r_block ?_))
 | ((with_reducible (first | refine r_region ?_ | refine r_cond (fun KA hA KB hB => ?_) | refine r_ret ?_ | refine r_skip ?_ | refine And.intro rfl ?_ | intro b)); conv => whnf)
 | (apply in1122; rfl; rfl; rfl; intro A; conv => whnf)
 | ((with_reducible refine CallK.id ?_); refine CallK.fresh (fun ms w hk => snew1071 w) ?_; conv => whnf)
 | ((with_reducible refine OpK.id ?_); refine OpK.rngK rfl rfl rfl rfl atG ?_; conv => whnf)
 | ((with_reducible apply OpK.more); (focus refine sok); (conv => whnf); fail_if_success guard_target =ₛ False)
 | with_reducible apply_assumption -symm -exfalso)
  rename Nat => r
  obtain ⟨tb, htb⟩ : ∃ x, x = b := ⟨b, rfl⟩
  subst htb
  refine Run.weakenD (E' := [(3, .loc tb 0 0), (14, .v (.pointer (some ⟨r, 0, none⟩)))]) (H' := [.blk 10 t [.v (.map (some m))] 210, .ext 11 (ItK r m (sgF L P0) []), .ext 12 (StA L P0), .ext 13 (TabA tb [])]) ?_ sdG seG
  refine r_loop (α := List Int × SL) (fun z => [(3, .loc tb 0 0), (14, .v (.pointer (some ⟨r, 0, none⟩)))]) (fun z => [.blk 10 t [.v (.map (some m))] 210, .ext 11 (ItK r m (sgF L P0) z.1), .ext 12 (StA L P0), .ext 13 (TabA tb z.2)]) (fun z => AscS z.2 ∧ ∀ x, x ∈ z.2 ↔ x ∈ L ∧ x.1 ∈ z.1) (fun z => leftK L z.1) ([], []) ⟨.nil, by simp⟩ suG seG ?_
  rintro ⟨done, K⟩ ⟨hK, hm⟩ KL hL2
  dsimp only at hK hm ⊢
  refine Run.ex (A := tabH tb K) (i := 13) rmG ?_
  rintro ⟨m2, A2⟩
  dsimp only [tabH, layF]
  repeat' (first
 | with_reducible ((first | refine r_seq (fun KS hS => ?_) | (refine hS _ _ ?_; clear hS KS) | (refine hA _ ?_; clear hA KA) | (refine hB _ ?_; clear hB KB) | refine r_block ?_))
 | ((with_reducible (first | refine r_region ?_ | refine r_cond (fun KA hA KB hB => ?_) | refine r_ret ?_ | refine r_skip ?_ | refine r_exit ?_ | refine And.intro rfl ?_ | intro b)); conv => whnf)
 | (refine nxS rfl rfl atG (fun hall => ?_) (fun id s hg hnd => ?_); all_goals (conv => whnf))
 | ((with_reducible refine OpK.id ?_); refine OpK.re (s := .tup [.v (.int .i64 id), .agg (sgc s (P0 id).1 (P0 id).2)]) (OpK.enK rfl rfl atG (sgF_get hg) ⟨rfl, rfl⟩) ?_; conv => whnf)
 | ((with_reducible refine CallK.id ?_); refine CallK.fresh (fun ms w' hk => scopy1113 (s := s) (Sees.rd (StA.sees (L := L) (A := P0) atG (getL_mem hg)) hk) (hsl id s hg)) ?_; conv => whnf)
 | ((with_reducible refine OpK.id ?_); refine OpK.upK rfl rfl rfl rfl rfl rfl rfl rfl atG (zok_id (hL.id _ (getL_mem hg))) ?_; conv => whnf)
 | (apply r_any (id := 7); refine mixed; kernel_rfl; kernel_rfl; conv => whnf)
 | (refine hL2 (id :: done, OM.putS id s K) _ _ ⟨OM.putS_sorted hK, putS_in hK hm hL.srt hg hnd⟩ (leftK_lt hnd ⟨_, getL_mem hg, rfl⟩) suG (HSub.trans (HSub.app2 (A' := [.blk 10 t [.v (.map (some m))] 210, .ext 11 (ItK r m (sgF L P0) (id :: done)), .ext 12 (StA L P0)]) (HSub.refl _) (tab_put (q := 13) (t := tb) (i := 0) (j := 1) (k := 2) (l := 3) (s := s) (m := m2) (A := A2) (a := b) hK)) seG))
 | ((with_reducible ((first | refine InAt.mk (fun K' hK => ?_) | refine AnyAt.mk (fun K' hK => ?_) | (refine hK _ ?_; clear hK K') | (refine hK _ _ ?_; clear hK K')))); conv => whnf)
 | (refine And.intro ?_ ?_; all_goals (conv => whnf))
 | with_reducible apply_assumption -symm -exfalso)
  · obtain rfl : K = L := asc_ext hK hL.srt (fun x => ⟨fun h => ((hm x).1 h).1, fun h => (hm x).2 ⟨h, hall x.1 x.2 (getL_of_mem hL.srt h)⟩⟩)
    exact FinK.frZL tb rfl (HSub.trans (HSub.app2 (A' := [.ext 0 (TabA t K)]) (tab_it (q := 0) (t := t) (i := 10) (j := 11) (k := 12) (m := m) (r := r) (L := K) (A := P0) (done := done)) (tab_id (q := 1) (t := tb) (i := 0) (j := 1) (k := 2) (m := m2) (L := K) (A := A2))) seG)
theorem or_idV {d t1 t2 t3 : Nat} {s : OM.St} {i j k l q : Nat} : HSub [.ext q (OrchA d s)] [.blk i d [.v (.int .i64 s.groups), .v (.int .i64 s.done), .v (pv t1), .v (pv t2), .v (pv t3)] 121, .ext j (TabA t1 s.sagas), .ext k (MvsA t2 s.moves), .ext l (PtsA t3 s.parts)] :=
  HSub.trans (or_id (i := 0) (j := j) (k := k) (l := l)) (HSub.keep rfl (HSub.refl _))
theorem ocopy1039 {d : Nat} {o : OM.St} (hI : OM.Inv o) (w : World) :
    FrZ Tryz.prog 39 #[pv d] w (AssL [.ext 12 (OrchA d o)]) (fun d' : Nat => pv d') (fun d' => AssL [.ext 12 (OrchA d o), .ext 13 (OrchA d' o)]) := by
  have hL := LOk.ofInv hI
  have hml := hI.mlen
  have hp0 : 0 < o.parts.length := List.length_pos_iff.2 hI.cov.2
  have hpl : o.parts.length ≤ 64 := by have := hI.room; omega
  refine enter_frZ TBok (H := [.ext 12 (OrchA d o)]) all_foot Tryz.func39 rfl rfl Tryz.ntmps39 [.loc d 0 0] rfl rfl ?_
  intro S hz8 hz9
  clear hz8 hz9
  conv => whnf
  repeat' (first
 | with_reducible refine r_stop 3 ?_
 | with_reducible ((first | refine r_seq (fun KS hS => ?_) | (refine hS _ _ ?_; clear hS KS) | (refine hB _ ?_; clear hB KB)))
 | ((with_reducible (first | refine r_region ?_ | refine r_cond (fun KA hA KB hB => ?_) | refine r_skip ?_)); conv => whnf)
 | ((with_reducible refine CallK.id ?_); refine CallK.s1V rmG (fun ms w hk => made1041 (by have := hI.gr; omega) w) ?_; conv => whnf)
 | with_reducible apply_assumption -symm -exfalso)
  refine StopR.mk ?_
  refine Run.ex (A := orH d o) (i := 12) rmG ?_
  rintro ⟨t1, t2, t3⟩
  dsimp only [orH, layF]
  repeat' (first
 | with_reducible refine r_stop 4 ?_
 | with_reducible ((first | refine r_seq (fun KS hS => ?_) | (refine hS _ _ ?_; clear hS KS)))
 | ((with_reducible (first | refine r_region ?_ | refine And.intro rfl ?_ | intro b)); conv => whnf))
  refine StopR.mk ?_
  refine r_seq (fun KS2 hS2 => ?_)
  refine r_par (β := Nat) (id := 4) [nq 0 [] (.loc d 0 0), nq 1 [0] (.loc d 0 0), nq 2 [1] (.loc d 0 2), nq 3 [2] (.loc t1 20 0), ⟨4, [3], some 100, fun _ q2 => .v (pv q2), fun _ q2 => [.ext 1 (TabA t1 o.sagas), .ext 31 (TabA q2 o.sagas)]⟩, nq 5 [] (.loc d 0 0), nq 6 [5] (.loc d 0 0), nq 7 [6] (.loc d 0 3), nq 8 [7] (.loc t2 21 0), ⟨9, [8, 4], some 101, fun _ q2 => .v (pv q2), fun _ q2 => [.ext 2 (MvsA t2 o.moves), .ext 32 (MvsA q2 o.moves)]⟩, nq 10 [] (.loc d 0 0), nq 11 [10] (.loc d 0 0), nq 12 [11] (.loc d 0 4), nq 13 [12] (.loc t3 22 0), ⟨14, [13, 9], some 102, fun _ q2 => .v (pv q2), fun _ q2 => [.ext 3 (PtsA t3 o.parts), .ext 33 (PtsA q2 o.parts)]⟩] [⟨100, [], none, fun _ _ => .v undef, fun _ _ => [.ext 1 (TabA t1 o.sagas)]⟩, ⟨101, [], none, fun _ _ => .v undef, fun _ _ => [.ext 2 (MvsA t2 o.moves)]⟩, ⟨102, [], none, fun _ _ => .v undef, fun _ _ => [.ext 3 (PtsA t3 o.parts)]⟩] 6 [.blk 1 b [.v (.int .i64 o.groups), .v (.int .i64 o.done), .loc t1 20 0, .loc t2 21 0, .loc t3 22 0] 121, .blk 0 d [.v (.int .i64 o.groups), .v (.int .i64 o.done), .loc t1 20 0, .loc t2 21 0, .loc t3 22 0] 121] mixed (by kernel_rfl) (by kernel_rfl) (by show HSub [.ext 1 (TabA t1 o.sagas), .ext 2 (MvsA t2 o.moves), .ext 3 (PtsA t3 o.parts), .blk 1 b [.v (.int .i64 o.groups), .v (.int .i64 o.done), .loc t1 20 0, .loc t2 21 0, .loc t3 22 0] 121, .blk 0 d [.v (.int .i64 o.groups), .v (.int .i64 o.done), .loc t1 20 0, .loc t2 21 0, .loc t3 22 0] 121] _; exact seG) ?_ ?_
  · conv => whnf
    repeat' (first | ((with_reducible refine And.intro ?_ ?_); all_goals (conv => whnf)) | ((with_reducible intro zz2 AA KP hP); conv => whnf))
    repeat' (first
 | ((with_reducible intro b); conv => whnf)
 | ((with_reducible refine CallK.id ?_); (first | refine CallK.s1 rmG (fun ms w hk => tcopy1082 hL w) ?_ | refine CallK.s1 rmG (fun ms w hk => mcopy1083 (by omega) w) ?_ | refine CallK.s1 rmG (fun ms w hk => pcopy1084 hp0 (by omega) w) ?_); conv => whnf)
 | ((with_reducible apply hP); all_goals (first | exact default | ((repeat' (first | exact SubD.nil | (refine SubD.cons rfl rfl ?_) | (refine SubD.cons rfl (by simp [den]) ?_))); done) | exact seZ)))
  conv => whnf
  intro zz
  conv => whnf
  try dsimp only
  repeat' (first
 | with_reducible ((first | refine r_seq (fun KS hS => ?_) | (refine hS _ _ ?_; clear hS KS)))
 | ((with_reducible (first | refine r_region ?_ | refine r_ret ?_ | refine And.intro rfl ?_)); conv => whnf)
 | ((with_reducible ((first | refine InAt.mk (fun K' hK => ?_) | refine AnyAt.mk (fun K' hK => ?_) | (refine hK _ ?_; clear hK K') | (refine hK _ _ ?_; clear hK K')))); conv => whnf)
 | with_reducible apply_assumption -symm -exfalso)
  exact FinK.frZL b rfl (HSub.trans (HSub.app2 (A' := [.ext 12 (OrchA d o)]) (or_id (q := 12) (d := d) (s := o) (t1 := t1) (t2 := t2) (t3 := t3) (i := 0) (j := 1) (k := 2) (l := 3)) (or_idV (q := 13) (d := b) (s := o) (t1 := zz 4) (t2 := zz 9) (t3 := zz 14) (i := 1) (j := 31) (k := 32) (l := 33))) seG)
end Go.Proofs.YtjkmpaggfbghiaaGreatDoor
namespace Go.Proofs.YtjkmpaggfbghiaaGreatDoor
open Go Go.X
theorem sok3 : SOk Tryz.prog [29, 31, 33, 34, 37, 80, 143, 149] := sokB_spec (by kernel_rfl)
theorem prg_at {l : List OM.Pt} {i : Nat} {p : OM.Pt} (h : l[i]? = some p) : ((l.flatMap rgC).drop ((i : Int).toNat * 2)).take 2 = denL [.v (.string p.r.lo), .v (.string p.r.hi)] := flat_at (k := 2) (g := rgC) (fun _ => rfl) h
theorem gp_at {l : List OM.Pt} {i : Nat} {p : OM.Pt} (h : l[i]? = some p) : ((l.flatMap gpC).drop ((i : Int).toNat * 1)).take 1 = denL [.v (.int .i64 p.group)] := flat_at (k := 1) (g := gpC) (fun _ => rfl) h
theorem ec_at {l : List OM.Pt} {i : Nat} {p : OM.Pt} (h : l[i]? = some p) : ((l.flatMap ecC).drop ((i : Int).toNat * 1)).take 1 = denL [.v (.int .i64 p.epoch)] := flat_at (k := 1) (g := ecC) (fun _ => rfl) h
theorem eqMv1079 {L : List OM.Mv} {a a' : Option Addr} {cap cap' : Nat} {w : World} (hr : RdS w 149 6 a L.length cap (L.flatMap mvC)) (hr' : RdS w 149 6 a' L.length cap' (L.flatMap mvC)) (hl : L.length ≤ 1000) :
    Pu Tryz.prog 79 #[.slice a L.length cap, .slice a' L.length cap'] w (.bool true) := by
  have sa := fun n' r H => Sees.old (c := ⟨Tryz.prog, TB, n', w, noS, r, TBok⟩) (H := H) hr.old
  have sb := fun n' r H => Sees.old (c := ⟨Tryz.prog, TB, n', w, noS, r, TBok⟩) (H := H) hr'.old
  refine enter_sound TBok Tryz.func79 rfl rfl Tryz.ntmps79 [.v (.slice a L.length cap), .v (.slice a' L.length cap')] (Kn.start w noS) rfl rfl ?_
  conv => whnf
  repeat' (first
 | with_reducible ((first | refine r_seq (fun KS hS => ?_) | (refine hS _ _ ?_; clear hS KS) | (refine hB _ ?_; clear hB KB) | refine r_block ?_))
 | ((with_reducible (first | refine r_region ?_ | refine r_cond (fun KA hA KB hB => ?_) | refine r_skip ?_)); conv => whnf)
 | (refine if_ndecF (by omega) ?_; conv => whnf)
 | with_reducible apply_assumption -symm -exfalso)
  refine r_loop (α := Nat) (fun i => [(13, .v (.int .i64 (i : Nat))), (12, .v (.int .i64 L.length)), (0, .v (.slice a L.length cap)), (1, .v (.slice a' L.length cap'))]) (fun _ => []) (fun i => i ≤ L.length) (fun i => L.length - i) 0 (Nat.zero_le _) suG (HSub.none _) ?_
  intro i hi KL hL
  by_cases hlt : i < L.length
  · obtain ⟨y, hy⟩ : ∃ y, L[i]? = some y := ⟨_, List.getElem?_eq_getElem hlt⟩
    repeat' (first
 | with_reducible ((first | refine r_seq (fun KS hS => ?_) | (refine hS _ _ ?_; clear hS KS) | (refine hA _ ?_; clear hA KA) | (refine hB _ ?_; clear hB KB) | refine r_block ?_))
 | ((with_reducible (first | refine r_region ?_ | refine r_cond (fun KA hA KB hB => ?_) | refine r_skip ?_)); conv => whnf)
 | ((with_reducible refine WrapK.i64 ?_ ?_); (focus omega); conv => whnf)
 | ((with_reducible refine QK.id ?_); (first | refine QK.idx (k := 6) rfl rfl rfl rfl rfl rfl rfl (sa _ _ _) (by omega) (by omega) (mv_at hy) (fun b off hp => ?_) | refine QK.idx (k := 6) rfl rfl rfl rfl rfl rfl rfl (sb _ _ _) (by omega) (by omega) (mv_at hy) (fun b off hp => ?_) | refine QK.ldp rfl rfl hp (List.cons_ne_nil _ _) ?_); conv => whnf)
 | ((with_reducible refine IK.id ?_); refine IK.neqV sok3 rfl rfl rfl ?_; conv => whnf)
 | (((refine if_f ?_ ?_); (focus (simp only [eq_self, decide_true, Bool.and_true, Bool.and_self, Bool.not_true, beq_self_eq_true] <;> fail)); conv => whnf))
 | (refine hL (i + 1) _ _ (by show i + 1 ≤ _; omega) (by show L.length - (i + 1) < L.length - i; omega) suG (HSub.none _))
 | (apply r_quiet; refine mixed; kernel_rfl; kernel_rfl; kernel_rfl; conv => whnf)
 | (refine if_decT (by omega) ?_; conv => whnf)
 | with_reducible apply_assumption -symm -exfalso)
  · obtain rfl : i = L.length := by omega
    repeat' (first
 | with_reducible ((first | refine r_seq (fun KS hS => ?_) | (refine hS _ _ ?_; clear hS KS) | (refine hB _ ?_; clear hB KB)))
 | ((with_reducible (first | refine r_region ?_ | refine r_cond (fun KA hA KB hB => ?_) | refine r_ret ?_ | refine r_exit ?_)); conv => whnf)
 | (refine if_decF (by omega) ?_; conv => whnf)
 | with_reducible apply_assumption -symm -exfalso)
    exact FinK.pu rfl
theorem eqRg1080 {L : List OM.Pt} {a a' : Option Addr} {cap cap' : Nat} {w : World} (hr : RdS w 37 2 a L.length cap (L.flatMap rgC)) (hr' : RdS w 37 2 a' L.length cap' (L.flatMap rgC)) (hl : L.length ≤ 1000) :
    Pu Tryz.prog 80 #[.slice a L.length cap, .slice a' L.length cap'] w (.bool true) := by
  have sa := fun n' r H => Sees.old (c := ⟨Tryz.prog, TB, n', w, noS, r, TBok⟩) (H := H) hr.old
  have sb := fun n' r H => Sees.old (c := ⟨Tryz.prog, TB, n', w, noS, r, TBok⟩) (H := H) hr'.old
  refine enter_sound TBok Tryz.func80 rfl rfl Tryz.ntmps80 [.v (.slice a L.length cap), .v (.slice a' L.length cap')] (Kn.start w noS) rfl rfl ?_
  conv => whnf
  repeat' (first
 | with_reducible ((first | refine r_seq (fun KS hS => ?_) | (refine hS _ _ ?_; clear hS KS) | (refine hB _ ?_; clear hB KB) | refine r_block ?_))
 | ((with_reducible (first | refine r_region ?_ | refine r_cond (fun KA hA KB hB => ?_) | refine r_skip ?_)); conv => whnf)
 | (refine if_ndecF (by omega) ?_; conv => whnf)
 | with_reducible apply_assumption -symm -exfalso)
  refine r_loop (α := Nat) (fun i => [(13, .v (.int .i64 (i : Nat))), (12, .v (.int .i64 L.length)), (0, .v (.slice a L.length cap)), (1, .v (.slice a' L.length cap'))]) (fun _ => []) (fun i => i ≤ L.length) (fun i => L.length - i) 0 (Nat.zero_le _) suG (HSub.none _) ?_
  intro i hi KL hL
  by_cases hlt : i < L.length
  · obtain ⟨y, hy⟩ : ∃ y, L[i]? = some y := ⟨_, List.getElem?_eq_getElem hlt⟩
    repeat' (first
 | with_reducible ((first | refine r_seq (fun KS hS => ?_) | (refine hS _ _ ?_; clear hS KS) | (refine hA _ ?_; clear hA KA) | (refine hB _ ?_; clear hB KB) | refine r_block ?_))
 | ((with_reducible (first | refine r_region ?_ | refine r_cond (fun KA hA KB hB => ?_) | refine r_skip ?_)); conv => whnf)
 | ((with_reducible refine WrapK.i64 ?_ ?_); (focus omega); conv => whnf)
 | ((with_reducible refine QK.id ?_); (first | refine QK.idx (k := 2) rfl rfl rfl rfl rfl rfl rfl (sa _ _ _) (by omega) (by omega) (prg_at hy) (fun b off hp => ?_) | refine QK.idx (k := 2) rfl rfl rfl rfl rfl rfl rfl (sb _ _ _) (by omega) (by omega) (prg_at hy) (fun b off hp => ?_) | refine QK.ldp rfl rfl hp (List.cons_ne_nil _ _) ?_); conv => whnf)
 | ((with_reducible refine IK.id ?_); refine IK.neqV sok3 rfl rfl rfl ?_; conv => whnf)
 | (((refine if_f ?_ ?_); (focus (simp only [eq_self, decide_true, Bool.and_true, Bool.and_self, Bool.not_true, beq_self_eq_true] <;> fail)); conv => whnf))
 | (refine hL (i + 1) _ _ (by show i + 1 ≤ _; omega) (by show L.length - (i + 1) < L.length - i; omega) suG (HSub.none _))
 | (apply r_quiet; refine mixed; kernel_rfl; kernel_rfl; kernel_rfl; conv => whnf)
 | (refine if_decT (by omega) ?_; conv => whnf)
 | with_reducible apply_assumption -symm -exfalso)
  · obtain rfl : i = L.length := by omega
    repeat' (first
 | with_reducible ((first | refine r_seq (fun KS hS => ?_) | (refine hS _ _ ?_; clear hS KS) | (refine hB _ ?_; clear hB KB)))
 | ((with_reducible (first | refine r_region ?_ | refine r_cond (fun KA hA KB hB => ?_) | refine r_ret ?_ | refine r_exit ?_)); conv => whnf)
 | (refine if_decF (by omega) ?_; conv => whnf)
 | with_reducible apply_assumption -symm -exfalso)
    exact FinK.pu rfl
theorem eqGp1081 {L : List OM.Pt} {a a' : Option Addr} {cap cap' : Nat} {w : World} (hr : RdS w 3 1 a L.length cap (L.flatMap gpC)) (hr' : RdS w 3 1 a' L.length cap' (L.flatMap gpC)) (hl : L.length ≤ 1000) :
    Pu Tryz.prog 81 #[.slice a L.length cap, .slice a' L.length cap'] w (.bool true) := by
  have sa := fun n' r H => Sees.old (c := ⟨Tryz.prog, TB, n', w, noS, r, TBok⟩) (H := H) hr.old
  have sb := fun n' r H => Sees.old (c := ⟨Tryz.prog, TB, n', w, noS, r, TBok⟩) (H := H) hr'.old
  refine enter_sound TBok Tryz.func81 rfl rfl Tryz.ntmps81 [.v (.slice a L.length cap), .v (.slice a' L.length cap')] (Kn.start w noS) rfl rfl ?_
  conv => whnf
  repeat' (first
 | with_reducible ((first | refine r_seq (fun KS hS => ?_) | (refine hS _ _ ?_; clear hS KS) | (refine hB _ ?_; clear hB KB) | refine r_block ?_))
 | ((with_reducible (first | refine r_region ?_ | refine r_cond (fun KA hA KB hB => ?_) | refine r_skip ?_)); conv => whnf)
 | (refine if_ndecF (by omega) ?_; conv => whnf)
 | with_reducible apply_assumption -symm -exfalso)
  refine r_loop (α := Nat) (fun i => [(13, .v (.int .i64 (i : Nat))), (12, .v (.int .i64 L.length)), (0, .v (.slice a L.length cap)), (1, .v (.slice a' L.length cap'))]) (fun _ => []) (fun i => i ≤ L.length) (fun i => L.length - i) 0 (Nat.zero_le _) suG (HSub.none _) ?_
  intro i hi KL hL
  by_cases hlt : i < L.length
  · obtain ⟨y, hy⟩ : ∃ y, L[i]? = some y := ⟨_, List.getElem?_eq_getElem hlt⟩
    repeat' (first
 | with_reducible ((first | refine r_seq (fun KS hS => ?_) | (refine hS _ _ ?_; clear hS KS) | (refine hA _ ?_; clear hA KA) | (refine hB _ ?_; clear hB KB) | refine r_block ?_))
 | ((with_reducible (first | refine r_region ?_ | refine r_cond (fun KA hA KB hB => ?_) | refine r_skip ?_)); conv => whnf)
 | ((with_reducible refine WrapK.i64 ?_ ?_); (focus omega); conv => whnf)
 | ((with_reducible refine QK.id ?_); (first | refine QK.idx (k := 1) rfl rfl rfl rfl rfl rfl rfl (sa _ _ _) (by omega) (by omega) (gp_at hy) (fun b off hp => ?_) | refine QK.idx (k := 1) rfl rfl rfl rfl rfl rfl rfl (sb _ _ _) (by omega) (by omega) (gp_at hy) (fun b off hp => ?_) | refine QK.ldp rfl rfl hp (List.cons_ne_nil _ _) ?_); conv => whnf)
 | (((refine if_f ?_ ?_); (focus (simp only [eq_self, decide_true, Bool.and_true, Bool.and_self, Bool.not_true, beq_self_eq_true] <;> fail)); conv => whnf))
 | (refine hL (i + 1) _ _ (by show i + 1 ≤ _; omega) (by show L.length - (i + 1) < L.length - i; omega) suG (HSub.none _))
 | (apply r_quiet; refine mixed; kernel_rfl; kernel_rfl; kernel_rfl; conv => whnf)
 | (refine if_decT (by omega) ?_; conv => whnf)
 | with_reducible apply_assumption -symm -exfalso)
  · obtain rfl : i = L.length := by omega
    repeat' (first
 | with_reducible ((first | refine r_seq (fun KS hS => ?_) | (refine hS _ _ ?_; clear hS KS) | (refine hB _ ?_; clear hB KB)))
 | ((with_reducible (first | refine r_region ?_ | refine r_cond (fun KA hA KB hB => ?_) | refine r_ret ?_ | refine r_exit ?_)); conv => whnf)
 | (refine if_decF (by omega) ?_; conv => whnf)
 | with_reducible apply_assumption -symm -exfalso)
    exact FinK.pu rfl
theorem eqEc1081 {L : List OM.Pt} {a a' : Option Addr} {cap cap' : Nat} {w : World} (hr : RdS w 3 1 a L.length cap (L.flatMap ecC)) (hr' : RdS w 3 1 a' L.length cap' (L.flatMap ecC)) (hl : L.length ≤ 1000) :
    Pu Tryz.prog 81 #[.slice a L.length cap, .slice a' L.length cap'] w (.bool true) := by
  have sa := fun n' r H => Sees.old (c := ⟨Tryz.prog, TB, n', w, noS, r, TBok⟩) (H := H) hr.old
  have sb := fun n' r H => Sees.old (c := ⟨Tryz.prog, TB, n', w, noS, r, TBok⟩) (H := H) hr'.old
  refine enter_sound TBok Tryz.func81 rfl rfl Tryz.ntmps81 [.v (.slice a L.length cap), .v (.slice a' L.length cap')] (Kn.start w noS) rfl rfl ?_
  conv => whnf
  repeat' (first
 | with_reducible ((first | refine r_seq (fun KS hS => ?_) | (refine hS _ _ ?_; clear hS KS) | (refine hB _ ?_; clear hB KB) | refine r_block ?_))
 | ((with_reducible (first | refine r_region ?_ | refine r_cond (fun KA hA KB hB => ?_) | refine r_skip ?_)); conv => whnf)
 | (refine if_ndecF (by omega) ?_; conv => whnf)
 | with_reducible apply_assumption -symm -exfalso)
  refine r_loop (α := Nat) (fun i => [(13, .v (.int .i64 (i : Nat))), (12, .v (.int .i64 L.length)), (0, .v (.slice a L.length cap)), (1, .v (.slice a' L.length cap'))]) (fun _ => []) (fun i => i ≤ L.length) (fun i => L.length - i) 0 (Nat.zero_le _) suG (HSub.none _) ?_
  intro i hi KL hL
  by_cases hlt : i < L.length
  · obtain ⟨y, hy⟩ : ∃ y, L[i]? = some y := ⟨_, List.getElem?_eq_getElem hlt⟩
    repeat' (first
 | with_reducible ((first | refine r_seq (fun KS hS => ?_) | (refine hS _ _ ?_; clear hS KS) | (refine hA _ ?_; clear hA KA) | (refine hB _ ?_; clear hB KB) | refine r_block ?_))
 | ((with_reducible (first | refine r_region ?_ | refine r_cond (fun KA hA KB hB => ?_) | refine r_skip ?_)); conv => whnf)
 | ((with_reducible refine WrapK.i64 ?_ ?_); (focus omega); conv => whnf)
 | ((with_reducible refine QK.id ?_); (first | refine QK.idx (k := 1) rfl rfl rfl rfl rfl rfl rfl (sa _ _ _) (by omega) (by omega) (ec_at hy) (fun b off hp => ?_) | refine QK.idx (k := 1) rfl rfl rfl rfl rfl rfl rfl (sb _ _ _) (by omega) (by omega) (ec_at hy) (fun b off hp => ?_) | refine QK.ldp rfl rfl hp (List.cons_ne_nil _ _) ?_); conv => whnf)
 | (((refine if_f ?_ ?_); (focus (simp only [eq_self, decide_true, Bool.and_true, Bool.and_self, Bool.not_true, beq_self_eq_true] <;> fail)); conv => whnf))
 | (refine hL (i + 1) _ _ (by show i + 1 ≤ _; omega) (by show L.length - (i + 1) < L.length - i; omega) suG (HSub.none _))
 | (apply r_quiet; refine mixed; kernel_rfl; kernel_rfl; kernel_rfl; conv => whnf)
 | (refine if_decT (by omega) ?_; conv => whnf)
 | with_reducible apply_assumption -symm -exfalso)
  · obtain rfl : i = L.length := by omega
    repeat' (first
 | with_reducible ((first | refine r_seq (fun KS hS => ?_) | (refine hS _ _ ?_; clear hS KS) | (refine hB _ ?_; clear hB KB)))
 | ((with_reducible (first | refine r_region ?_ | refine r_cond (fun KA hA KB hB => ?_) | refine r_ret ?_ | refine r_exit ?_)); conv => whnf)
 | (refine if_decF (by omega) ?_; conv => whnf)
 | with_reducible apply_assumption -symm -exfalso)
    exact FinK.pu rfl
abbrev dfc (d : OM.Dfn) (a : Option Addr) (cap : Nat) : List SV := [.v (.string d.name), .v (.int .i64 d.retries), .v (.int .i64 d.deadline), .v (.slice a d.steps.length cap)]
theorem eqDef1134 {d : OM.Dfn} {a a' : Option Addr} {cap cap' : Nat} {w : World} (hr : RdS w 80 2 a d.steps.length cap (stepCells d.steps)) (hr' : RdS w 80 2 a' d.steps.length cap' (stepCells d.steps)) (hl : d.steps.length ≤ 1000) :
    Pu Tryz.prog 134 #[.agg (denL (dfc d a cap)).toArray, .agg (denL (dfc d a' cap')).toArray] w (.bool true) := by
  have sa := fun n' r H => Sees.old (c := ⟨Tryz.prog, TB, n', w, noS, r, TBok⟩) (H := H) hr.old
  have sb := fun n' r H => Sees.old (c := ⟨Tryz.prog, TB, n', w, noS, r, TBok⟩) (H := H) hr'.old
  refine enter_sound TBok Tryz.func134 rfl rfl Tryz.ntmps134 [.agg (dfc d a cap), .agg (dfc d a' cap')] (Kn.start w noS) rfl rfl ?_
  conv => whnf
  repeat' (first
 | with_reducible ((first | refine r_seq (fun KS hS => ?_) | (refine hS _ _ ?_; clear hS KS) | (refine hB _ ?_; clear hB KB) | refine r_block ?_))
 | ((with_reducible (first | refine r_region ?_ | refine r_cond (fun KA hA KB hB => ?_) | refine r_skip ?_ | refine And.intro rfl ?_ | intro b)); conv => whnf)
 | (((refine if_f ?_ ?_); (focus (simp only [eq_self, decide_true, Bool.and_true, Bool.and_self, Bool.not_true, beq_self_eq_true] <;> fail)); conv => whnf))
 | with_reducible apply_assumption -symm -exfalso)
  rename_i b0 _ _
  refine r_loop (α := Nat) (fun i => [(2, .loc b0 0 0), (3, .loc b 1 0), (5, .v (.int .i64 (i : Nat)))]) (fun _ => [.blk 0 b0 (dfc d a cap) 40, .blk 1 b (dfc d a' cap') 40]) (fun i => i ≤ d.steps.length) (fun i => d.steps.length - i) 0 (Nat.zero_le _) suG seG ?_
  intro i hi KL hL
  by_cases hlt : i < d.steps.length
  · obtain ⟨y, hy⟩ : ∃ y, d.steps[((i : Nat) : Int).toNat]? = some y := ⟨_, List.getElem?_eq_getElem (by simpa using hlt)⟩
    repeat' (first
 | with_reducible ((first | refine r_seq (fun KS hS => ?_) | (refine hS _ _ ?_; clear hS KS) | (refine hA _ ?_; clear hA KA) | (refine hB _ ?_; clear hB KB) | refine r_block ?_))
 | ((with_reducible (first | refine r_region ?_ | refine r_cond (fun KA hA KB hB => ?_) | refine r_skip ?_ | refine And.intro rfl ?_)); conv => whnf)
 | ((with_reducible refine WrapK.i64 ?_ ?_); (focus omega); conv => whnf)
 | ((with_reducible refine QK.id ?_); (first | refine QK.idx (k := 2) rfl rfl rfl rfl rfl rfl rfl (sa _ _ _) (by omega) (by omega) (step_int hy) (fun b off hp => ?_) | refine QK.idx (k := 2) rfl rfl rfl rfl rfl rfl rfl (sb _ _ _) (by omega) (by omega) (step_int hy) (fun b off hp => ?_) | refine QK.ldp rfl rfl hp (List.cons_ne_nil _ _) ?_); conv => whnf)
 | ((with_reducible refine IK.id ?_); refine IK.neqV sok3 rfl rfl rfl ?_; conv => whnf)
 | (((refine if_f ?_ ?_); (focus (simp only [eq_self, decide_true, Bool.and_true, Bool.and_self, Bool.not_true, beq_self_eq_true] <;> fail)); conv => whnf))
 | (refine hL (i + 1) _ _ (by show i + 1 ≤ _; omega) (by show d.steps.length - (i + 1) < d.steps.length - i; omega) suG seG)
 | (apply r_quiet; refine mixed; kernel_rfl; kernel_rfl; kernel_rfl; conv => whnf)
 | (refine if_decT (by omega) ?_; conv => whnf)
 | with_reducible apply_assumption -symm -exfalso)
  · obtain rfl : i = d.steps.length := by omega
    repeat' (first
 | with_reducible ((first | refine r_seq (fun KS hS => ?_) | (refine hS _ _ ?_; clear hS KS) | (refine hB _ ?_; clear hB KB)))
 | ((with_reducible (first | refine r_region ?_ | refine r_cond (fun KA hA KB hB => ?_) | refine r_ret ?_ | refine r_exit ?_ | refine And.intro rfl ?_)); conv => whnf)
 | (refine if_decF (by omega) ?_; conv => whnf)
 | with_reducible apply_assumption -symm -exfalso)
    exact FinK.pu rfl
theorem same1078 {s : OM.Sg} {a a' : Option Addr} {cap cap' : Nat} {w : World} (hr : RdS w 80 2 a s.d.steps.length cap (stepCells s.d.steps)) (hr' : RdS w 80 2 a' s.d.steps.length cap' (stepCells s.d.steps)) (hl : s.d.steps.length ≤ 1000) :
    Pu Tryz.prog 78 #[.agg (denL (sgc s a cap)).toArray, .agg (denL (sgc s a' cap')).toArray] w (.bool true) := by
  have sa := fun n' r H => Sees.old (c := ⟨Tryz.prog, TB, n', w, noS, r, TBok⟩) (H := H) hr.old
  have sb := fun n' r H => Sees.old (c := ⟨Tryz.prog, TB, n', w, noS, r, TBok⟩) (H := H) hr'.old
  refine enter_sound TBok Tryz.func78 rfl rfl Tryz.ntmps78 [.agg (sgc s a cap), .agg (sgc s a' cap')] (Kn.start w noS) rfl rfl ?_
  conv => whnf
  repeat' (first
 | with_reducible ((first | refine r_seq (fun KS hS => ?_) | (refine hS _ _ ?_; clear hS KS)))
 | ((with_reducible (first | refine r_region ?_ | refine r_ret ?_ | refine And.intro rfl ?_ | intro b)); conv => whnf)
 | ((with_reducible refine CallK.at 134 ?_); refine CallK.puW (fun ms w hk => eqDef1134 (d := s.d) (Sees.rd (sa _ _ _) hk) (Sees.rd (sb _ _ _) hk) hl) ?_; conv => whnf)
 | (((with_reducible apply OpK.more); (focus refine sok3); (conv => whnf); fail_if_success guard_target =ₛ False))
 | (((refine if_t ?_ ?_); (focus (simp only [eq_self, decide_true, Bool.and_true, Bool.and_self, Bool.not_true, beq_self_eq_true] <;> fail)); conv => whnf)))
  all_goals exact FinK.pu (by show Value.bool (decide (s.err = s.err)) = _; rw [decide_eq_true rfl])
abbrev nmS (P0 : Pl) (x : Int × OM.Sg) : List SV := .v (.int .i64 x.1) :: sgc x.2 (P0 x.1).1 (P0 x.1).2
theorem sameN1077 {x : Int × OM.Sg} {P0 P1 : Pl} {w : World} (hr : RdS w 80 2 (P0 x.1).1 x.2.d.steps.length (P0 x.1).2 (stepCells x.2.d.steps)) (hr' : RdS w 80 2 (P1 x.1).1 x.2.d.steps.length (P1 x.1).2 (stepCells x.2.d.steps)) (hl : x.2.d.steps.length ≤ 1000) :
    Pu Tryz.prog 77 #[.agg (denL (nmS P0 x)).toArray, .agg (denL (nmS P1 x)).toArray] w (.bool true) := by
  have sa := fun n' r H => Sees.old (c := ⟨Tryz.prog, TB, n', w, noS, r, TBok⟩) (H := H) hr.old
  have sb := fun n' r H => Sees.old (c := ⟨Tryz.prog, TB, n', w, noS, r, TBok⟩) (H := H) hr'.old
  refine enter_sound TBok Tryz.func77 rfl rfl Tryz.ntmps77 [.agg (nmS P0 x), .agg (nmS P1 x)] (Kn.start w noS) rfl rfl ?_
  conv => whnf
  repeat' (first
 | with_reducible ((first | refine r_seq (fun KS hS => ?_) | (refine hS _ _ ?_; clear hS KS)))
 | ((with_reducible (first | refine r_region ?_ | refine r_ret ?_ | refine And.intro rfl ?_ | intro b)); conv => whnf)
 | ((with_reducible refine CallK.at 78 ?_); refine CallK.puW (fun ms w hk => same1078 (s := x.2) (Sees.rd (sa _ _ _) hk) (Sees.rd (sb _ _ _) hk) hl) ?_; conv => whnf)
 | (((refine if_t ?_ ?_); (focus (simp only [eq_self, decide_true, Bool.and_true, Bool.and_self, Bool.not_true, beq_self_eq_true] <;> fail)); conv => whnf)))
  all_goals exact FinK.pu rfl
theorem eqSagas1076 {L : SL} {P0 P1 : Pl} {a a' : Option Addr} {cap cap' : Nat} {w : World} (hr : RdS w 148 11 a L.length cap (L.flatMap (nmC P0))) (hr' : RdS w 148 11 a' L.length cap' (L.flatMap (nmC P1))) (hl : L.length ≤ 1000)
    (hpa : ∀ x ∈ L, RdS w 80 2 (P0 x.1).1 x.2.d.steps.length (P0 x.1).2 (stepCells x.2.d.steps)) (hpb : ∀ x ∈ L, RdS w 80 2 (P1 x.1).1 x.2.d.steps.length (P1 x.1).2 (stepCells x.2.d.steps)) (hs : ∀ x ∈ L, x.2.d.steps.length ≤ 1000) :
    Pu Tryz.prog 76 #[.slice a L.length cap, .slice a' L.length cap', .func (.func 77) #[] #[]] w (.bool true) := by
  have sa := fun n' r H => Sees.old (c := ⟨Tryz.prog, TB, n', w, noS, r, TBok⟩) (H := H) hr.old
  have sb := fun n' r H => Sees.old (c := ⟨Tryz.prog, TB, n', w, noS, r, TBok⟩) (H := H) hr'.old
  refine enter_sound TBok Tryz.func76 rfl rfl Tryz.ntmps76 [.v (.slice a L.length cap), .v (.slice a' L.length cap'), .fn 77 []] (Kn.start w noS) rfl rfl ?_
  conv => whnf
  repeat' (first
 | with_reducible ((first | refine r_seq (fun KS hS => ?_) | (refine hS _ _ ?_; clear hS KS) | (refine hB _ ?_; clear hB KB) | refine r_block ?_))
 | ((with_reducible (first | refine r_region ?_ | refine r_cond (fun KA hA KB hB => ?_) | refine r_skip ?_)); conv => whnf)
 | (refine if_ndecF (by omega) ?_; conv => whnf)
 | with_reducible apply_assumption -symm -exfalso)
  refine r_loop (α := Nat) (fun i => [(17, .v (.int .i64 (i : Nat))), (16, .v (.int .i64 L.length)), (15, .v (.slice a L.length cap)), (1, .v (.slice a' L.length cap')), (2, .fn 77 [])]) (fun _ => []) (fun i => i ≤ L.length) (fun i => L.length - i) 0 (Nat.zero_le _) suG (HSub.none _) ?_
  intro i hi KL hL
  by_cases hlt : i < L.length
  · obtain ⟨x, hx⟩ : ∃ x, L[i]? = some x := ⟨_, List.getElem?_eq_getElem hlt⟩
    have hm := List.mem_of_getElem? hx
    have hxa := fun n' r H => Sees.old (c := ⟨Tryz.prog, TB, n', w, noS, r, TBok⟩) (H := H) (hpa x hm).old
    have hxb := fun n' r H => Sees.old (c := ⟨Tryz.prog, TB, n', w, noS, r, TBok⟩) (H := H) (hpb x hm).old
    have hxs := hs x hm
    repeat' (first
 | with_reducible ((first | refine r_seq (fun KS hS => ?_) | (refine hS _ _ ?_; clear hS KS) | (refine hA _ ?_; clear hA KA) | (refine hB _ ?_; clear hB KB) | refine r_block ?_))
 | ((with_reducible (first | refine r_region ?_ | refine r_cond (fun KA hA KB hB => ?_) | refine r_skip ?_ | refine And.intro rfl ?_ | intro b)); conv => whnf)
 | ((with_reducible refine WrapK.i64 ?_ ?_); (focus omega); conv => whnf)
 | ((with_reducible refine OpK.id ?_); (first | refine OpK.idx (k := 11) rfl rfl rfl rfl rfl rfl rfl (sa _ _ _) (by omega) (by omega) (nm_at hx) (fun b off hp => ?_) | refine OpK.idx (k := 11) rfl rfl rfl rfl rfl rfl rfl (sb _ _ _) (by omega) (by omega) (nm_at hx) (fun b off hp => ?_) | refine OpK.ldp rfl rfl hp (List.cons_ne_nil _ _) ?_); conv => whnf)
 | ((with_reducible refine CallK.at 77 ?_); refine CallK.puW (fun ms w hk => sameN1077 (P0 := P0) (P1 := P1) (x := x) (Sees.rd (hxa _ _ _) hk) (Sees.rd (hxb _ _ _) hk) hxs) ?_; conv => whnf)
 | (refine hL (i + 1) _ _ (by show i + 1 ≤ _; omega) (by show L.length - (i + 1) < L.length - i; omega) suG (HSub.none _))
 | (refine if_decT (by omega) ?_; conv => whnf)
 | with_reducible apply_assumption -symm -exfalso)
  · obtain rfl : i = L.length := by omega
    repeat' (first
 | with_reducible ((first | refine r_seq (fun KS hS => ?_) | (refine hS _ _ ?_; clear hS KS) | (refine hB _ ?_; clear hB KB)))
 | ((with_reducible (first | refine r_region ?_ | refine r_cond (fun KA hA KB hB => ?_) | refine r_ret ?_ | refine r_exit ?_)); conv => whnf)
 | (refine if_decF (by omega) ?_; conv => whnf)
 | with_reducible apply_assumption -symm -exfalso)
    exact FinK.pu rfl
theorem turned1075 {s : OM.Sg} {a : Option Addr} {cap : Nat} (w : World) : Pu Tryz.prog 75 #[.agg (denL (sgc s a cap)).toArray] w (.agg (denL (sgc s a cap)).toArray) := by
  refine enter_sound TBok Tryz.func75 rfl rfl Tryz.ntmps75 [.agg (sgc s a cap)] (Kn.start w noS) rfl rfl ?_
  conv => whnf
  repeat' (first
 | with_reducible ((first | refine r_seq (fun KS hS => ?_) | (refine hS _ _ ?_; clear hS KS)))
 | ((with_reducible (first | refine r_region ?_ | refine r_ret ?_ | refine And.intro rfl ?_ | intro b)); conv => whnf))
  all_goals exact FinK.pu rfl
abbrev WhY : Type := (Option Addr × Nat) × Option Addr × Nat
abbrev whV (o : OM.St) (n : Int) (z : StZ) (y : WhY) : List SV := [.v (.int .i64 o.groups), .v (.int .i64 n), .v (.slice y.1.1 o.sagas.length y.1.2), .v (.slice y.2.1 o.moves.length y.2.2), .v (.slice z.ra.1 o.parts.length z.ra.2), .v (.slice z.wa.1 o.parts.length z.wa.2), .v (.slice z.ea.1 o.parts.length z.ea.2)]
def whH (o : OM.St) (z : StZ) (y : WhY) : List Blk := [.ext 30 (SlA 148 11 y.1.1 o.sagas.length y.1.2 (o.sagas.flatMap (nmC z.A))), .ext 31 (StA o.sagas z.A), .ext 32 (SlA 149 6 y.2.1 o.moves.length y.2.2 (o.moves.flatMap mvC)), .ext 33 (SlA 37 2 z.ra.1 o.parts.length z.ra.2 (o.parts.flatMap rgC)), .ext 34 (SlA 3 1 z.wa.1 o.parts.length z.wa.2 (o.parts.flatMap gpC)), .ext 35 (SlA 3 1 z.ea.1 o.parts.length z.ea.2 (o.parts.flatMap ecC))]
abbrev WhA (o : OM.St) (z : StZ) (y : WhY) : Ass := AssL (whH o z y)
theorem whole1035 {o : OM.St} {z : StZ} (hsl : o.sagas.length ≤ 64) (hml : o.moves.length ≤ 64) (w : World) :
    FrZ Tryz.prog 35 #[.agg (denL (stateV o z)).toArray] w (AssL (stateH o z)) (fun y : WhY => .agg (denL (whV o o.done z y)).toArray) (fun y => AssL [.ext 30 (WhA o z y)]) := by
  refine enter_frZ TBok (H := stateH o z) all_foot Tryz.func35 rfl rfl Tryz.ntmps35 [.agg (stateV o z)] rfl rfl ?_
  intro S hz8 hz9
  clear hz8 hz9
  dsimp only [stateH]
  conv => whnf
  repeat' (first
 | with_reducible ((first | refine r_seq (fun KS hS => ?_) | (refine hS _ _ ?_; clear hS KS) | refine r_block ?_))
 | ((with_reducible (first | refine r_region ?_ | refine And.intro rfl ?_ | intro b)); conv => whnf))
  obtain ⟨b3, hb3⟩ : ∃ x, x = b := ⟨b, rfl⟩
  subst hb3
  obtain ⟨b2, hb2⟩ : ∃ x, x = b := ⟨b, rfl⟩
  subst hb2
  obtain ⟨b0, hb0⟩ : ∃ x, x = b := ⟨b, rfl⟩
  subst hb0
  refine Run.weakenD (E' := [(1, .loc b0 51 0), (2, .loc b2 52 0), (3, .loc b3 53 0), (20, .v (.slice z.sa.1 o.sagas.length z.sa.2)), (21, .v (.int .i64 (o.sagas.length : Nat))), (22, .v (.int .i64 0))]) (H' := [.blk 53 b3 [.v (.int .i64 o.groups), .v (.int .i64 o.done), .v (.slice none 0 0), .v (.slice none 0 0), .v (.slice z.ra.1 o.parts.length z.ra.2), .v (.slice z.wa.1 o.parts.length z.wa.2), .v (.slice z.ea.1 o.parts.length z.ea.2)] 97, .blk 52 b2 [.v (.int .i64 0), .v (.int .i64 0), .v (.slice none 0 0), .v (.slice none 0 0), .v (.slice none 0 0), .v (.slice none 0 0), .v (.slice none 0 0)] 97, .blk 51 b0 (stateV o z) 72, .ext 20 (SlA 76 11 z.sa.1 o.sagas.length z.sa.2 (o.sagas.flatMap (nmC z.A))), .ext 22 (SlA 83 6 z.ma.1 o.moves.length z.ma.2 (o.moves.flatMap mvC)), .ext 21 (StA o.sagas z.A), .ext 23 (SlA 37 2 z.ra.1 o.parts.length z.ra.2 (o.parts.flatMap rgC)), .ext 24 (SlA 3 1 z.wa.1 o.parts.length z.wa.2 (o.parts.flatMap gpC)), .ext 25 (SlA 3 1 z.ea.1 o.parts.length z.ea.2 (o.parts.flatMap ecC))]) ?_ sdG seG
  refine r_loop (α := Nat × Option Addr × Nat) (fun y => [(1, .loc b0 51 0), (2, .loc b2 52 0), (3, .loc b3 53 0), (20, .v (.slice z.sa.1 o.sagas.length z.sa.2)), (21, .v (.int .i64 (o.sagas.length : Nat))), (22, .v (.int .i64 (y.1 : Nat)))]) (fun y => [.blk 53 b3 [.v (.int .i64 o.groups), .v (.int .i64 o.done), .v (.slice y.2.1 y.1 y.2.2), .v (.slice none 0 0), .v (.slice z.ra.1 o.parts.length z.ra.2), .v (.slice z.wa.1 o.parts.length z.wa.2), .v (.slice z.ea.1 o.parts.length z.ea.2)] 97, .blk 52 b2 [.v (.int .i64 0), .v (.int .i64 0), .v (.slice none 0 0), .v (.slice none 0 0), .v (.slice none 0 0), .v (.slice none 0 0), .v (.slice none 0 0)] 97, .blk 51 b0 (stateV o z) 72, .ext 20 (SlA 76 11 z.sa.1 o.sagas.length z.sa.2 (o.sagas.flatMap (nmC z.A))), .ext 22 (SlA 83 6 z.ma.1 o.moves.length z.ma.2 (o.moves.flatMap mvC)), .ext 21 (StA o.sagas z.A), .ext 23 (SlA 37 2 z.ra.1 o.parts.length z.ra.2 (o.parts.flatMap rgC)), .ext 24 (SlA 3 1 z.wa.1 o.parts.length z.wa.2 (o.parts.flatMap gpC)), .ext 25 (SlA 3 1 z.ea.1 o.parts.length z.ea.2 (o.parts.flatMap ecC)), .ext 30 (SlA 148 11 y.2.1 y.1 y.2.2 ((o.sagas.take y.1).flatMap (nmC z.A)))]) (fun y => y.1 ≤ o.sagas.length) (fun y => o.sagas.length - y.1) (0, none, 0) (Nat.zero_le _) suG (HSub.addSlL (L' := [.blk 53 b3 [.v (.int .i64 o.groups), .v (.int .i64 o.done), .v (.slice none 0 0), .v (.slice none 0 0), .v (.slice z.ra.1 o.parts.length z.ra.2), .v (.slice z.wa.1 o.parts.length z.wa.2), .v (.slice z.ea.1 o.parts.length z.ea.2)] 97, .blk 52 b2 [.v (.int .i64 0), .v (.int .i64 0), .v (.slice none 0 0), .v (.slice none 0 0), .v (.slice none 0 0), .v (.slice none 0 0), .v (.slice none 0 0)] 97, .blk 51 b0 (stateV o z) 72, .ext 20 (SlA 76 11 z.sa.1 o.sagas.length z.sa.2 (o.sagas.flatMap (nmC z.A))), .ext 22 (SlA 83 6 z.ma.1 o.moves.length z.ma.2 (o.moves.flatMap mvC)), .ext 21 (StA o.sagas z.A), .ext 23 (SlA 37 2 z.ra.1 o.parts.length z.ra.2 (o.parts.flatMap rgC)), .ext 24 (SlA 3 1 z.wa.1 o.parts.length z.wa.2 (o.parts.flatMap gpC)), .ext 25 (SlA 3 1 z.ea.1 o.parts.length z.ea.2 (o.parts.flatMap ecC))]) seG) ?_
  rintro ⟨i, a, cap⟩ hi KL hL2
  dsimp only at hi ⊢
  by_cases hlt : i < o.sagas.length
  · obtain ⟨x, hx⟩ : ∃ x, o.sagas[i]? = some x := ⟨_, List.getElem?_eq_getElem hlt⟩
    have hsn := flat_snoc (g := nmC z.A) hx
    repeat' (first
 | with_reducible refine r_stopE 5 ?_
 | with_reducible ((first | refine r_seq (fun KS hS => ?_) | (refine hS _ _ ?_; clear hS KS) | (refine hA _ ?_; clear hA KA) | refine r_block ?_))
 | ((with_reducible (first | refine r_region ?_ | refine r_cond (fun KA hA KB hB => ?_) | refine r_skip ?_ | refine And.intro rfl ?_ | intro b)); conv => whnf)
 | ((with_reducible refine OpK.id ?_); (first | refine OpK.idx (k := 11) rfl rfl rfl rfl rfl rfl rfl (Sees.ext atG) (by omega) (by omega) (nm_at hx) (fun b off hp => ?_) | refine OpK.ldp rfl rfl hp (List.cons_ne_nil _ _) ?_); conv => whnf)
 | (refine if_decT (by omega) ?_; conv => whnf)
 | with_reducible apply_assumption -symm -exfalso)
    refine StopR.mk ?_
    obtain ⟨b5, hb5⟩ : ∃ x, x = b := ⟨b, rfl⟩
    subst hb5
    refine Run.weakenD (E' := [(1, .loc b0 51 0), (2, .loc b2 52 0), (3, .loc b3 53 0), (5, .loc b5 54 0), (20, .v (.slice z.sa.1 o.sagas.length z.sa.2)), (21, .v (.int .i64 (o.sagas.length : Nat))), (22, .v (.int .i64 (i : Nat)))]) (H' := [.blk 54 b5 (nmS z.A x) 76, .blk 53 b3 [.v (.int .i64 o.groups), .v (.int .i64 o.done), .v (.slice a i cap), .v (.slice none 0 0), .v (.slice z.ra.1 o.parts.length z.ra.2), .v (.slice z.wa.1 o.parts.length z.wa.2), .v (.slice z.ea.1 o.parts.length z.ea.2)] 97, .blk 52 b2 [.v (.int .i64 0), .v (.int .i64 0), .v (.slice none 0 0), .v (.slice none 0 0), .v (.slice none 0 0), .v (.slice none 0 0), .v (.slice none 0 0)] 97, .blk 51 b0 (stateV o z) 72, .ext 20 (SlA 76 11 z.sa.1 o.sagas.length z.sa.2 (o.sagas.flatMap (nmC z.A))), .ext 22 (SlA 83 6 z.ma.1 o.moves.length z.ma.2 (o.moves.flatMap mvC)), .ext 21 (StA o.sagas z.A), .ext 23 (SlA 37 2 z.ra.1 o.parts.length z.ra.2 (o.parts.flatMap rgC)), .ext 24 (SlA 3 1 z.wa.1 o.parts.length z.wa.2 (o.parts.flatMap gpC)), .ext 25 (SlA 3 1 z.ea.1 o.parts.length z.ea.2 (o.parts.flatMap ecC)), .ext 30 (SlA 148 11 a i cap ((o.sagas.take i).flatMap (nmC z.A)))]) ?_ sdG seG
    refine r_par (β := Option Addr × Nat) (id := 5) [nq 0 [] (.loc b3 53 2), nq 1 [0] (.v (.slice a i cap)), nq 2 [] (.loc b5 54 0), nq 3 [2] (.v (.int .i64 x.1)), nq 4 [] (.loc b5 54 1), nq 5 [4] (.agg (sgc x.2 (z.A x.1).1 (z.A x.1).2)), nq 6 [5] (.agg (sgc x.2 (z.A x.1).1 (z.A x.1).2)), nq 7 [3, 6] (.agg (nmS z.A x)), ⟨8, [7], some 100, fun _ q2 => .slc q2.2 208 0 1 1, fun _ q2 => [.ext 30 (SlA 148 11 a i cap ((o.sagas.take i).flatMap (nmC z.A))), .blk 208 q2.2 (nmS z.A x) 148]⟩, ⟨9, [1, 8, 6], some 8, fun _ q2 => .v (.slice q2.1 (i + 1) q2.2), fun _ q2 => [.ext 30 (SlA 148 11 q2.1 (i + 1) q2.2 ((o.sagas.take i).flatMap (nmC z.A) ++ denL (nmS z.A x)))]⟩] [⟨100, [], none, fun _ _ => .v undef, fun _ _ => [.ext 30 (SlA 148 11 a i cap ((o.sagas.take i).flatMap (nmC z.A)))]⟩] 2 [.blk 54 b5 (nmS z.A x) 76, .blk 53 b3 [.v (.int .i64 o.groups), .v (.int .i64 o.done), .v (.slice a i cap), .v (.slice none 0 0), .v (.slice z.ra.1 o.parts.length z.ra.2), .v (.slice z.wa.1 o.parts.length z.wa.2), .v (.slice z.ea.1 o.parts.length z.ea.2)] 97, .blk 52 b2 [.v (.int .i64 0), .v (.int .i64 0), .v (.slice none 0 0), .v (.slice none 0 0), .v (.slice none 0 0), .v (.slice none 0 0), .v (.slice none 0 0)] 97, .blk 51 b0 (stateV o z) 72, .ext 20 (SlA 76 11 z.sa.1 o.sagas.length z.sa.2 (o.sagas.flatMap (nmC z.A))), .ext 22 (SlA 83 6 z.ma.1 o.moves.length z.ma.2 (o.moves.flatMap mvC)), .ext 21 (StA o.sagas z.A), .ext 23 (SlA 37 2 z.ra.1 o.parts.length z.ra.2 (o.parts.flatMap rgC)), .ext 24 (SlA 3 1 z.wa.1 o.parts.length z.wa.2 (o.parts.flatMap gpC)), .ext 25 (SlA 3 1 z.ea.1 o.parts.length z.ea.2 (o.parts.flatMap ecC))] mixed (by kernel_rfl) (by kernel_rfl) (by show HSub [.ext 30 (SlA 148 11 a i cap ((o.sagas.take i).flatMap (nmC z.A))), .blk 54 b5 (nmS z.A x) 76, .blk 53 b3 [.v (.int .i64 o.groups), .v (.int .i64 o.done), .v (.slice a i cap), .v (.slice none 0 0), .v (.slice z.ra.1 o.parts.length z.ra.2), .v (.slice z.wa.1 o.parts.length z.wa.2), .v (.slice z.ea.1 o.parts.length z.ea.2)] 97, .blk 52 b2 [.v (.int .i64 0), .v (.int .i64 0), .v (.slice none 0 0), .v (.slice none 0 0), .v (.slice none 0 0), .v (.slice none 0 0), .v (.slice none 0 0)] 97, .blk 51 b0 (stateV o z) 72, .ext 20 (SlA 76 11 z.sa.1 o.sagas.length z.sa.2 (o.sagas.flatMap (nmC z.A))), .ext 22 (SlA 83 6 z.ma.1 o.moves.length z.ma.2 (o.moves.flatMap mvC)), .ext 21 (StA o.sagas z.A), .ext 23 (SlA 37 2 z.ra.1 o.parts.length z.ra.2 (o.parts.flatMap rgC)), .ext 24 (SlA 3 1 z.wa.1 o.parts.length z.wa.2 (o.parts.flatMap gpC)), .ext 25 (SlA 3 1 z.ea.1 o.parts.length z.ea.2 (o.parts.flatMap ecC))] _; exact seG) ?_ ?_
    · conv => whnf
      repeat' (first | ((with_reducible refine And.intro ?_ ?_); all_goals (conv => whnf)) | ((with_reducible intro zz2 AA KP hP); conv => whnf))
      repeat' (first
 | ((with_reducible intro b); conv => whnf)
 | ((with_reducible refine CallK.at 75 ?_); refine CallK.pu (fun w => turned1075 (s := x.2) w) ?_; conv => whnf)
 | ((with_reducible refine OpK.id ?_); refine OpK.app (k := 11) rfl rfl rfl rfl rfl rfl rfl rfl atG (SrcK.slc rfl rfl lmG (Nat.le_refl _) rfl) (big_ok (by omega) (by decide)) (fun a' cap' => ?_); conv => whnf)
 | ((with_reducible refine hP (a', cap') _ _ ?_ ?_); all_goals (first | ((repeat' (first | exact SubD.nil | (refine SubD.cons rfl rfl ?_) | (refine SubD.cons rfl (by simp [den]) ?_))); done) | exact seZ))
 | ((with_reducible refine hP (none, b) _ _ ?_ ?_); all_goals (first | ((repeat' (first | exact SubD.nil | (refine SubD.cons rfl rfl ?_) | (refine SubD.cons rfl (by simp [den]) ?_))); done) | exact seZ)))
    conv => whnf
    intro zz
    conv => whnf
    try dsimp only
    have hn : (o.sagas.take i).flatMap (nmC z.A) ++ denL (nmS z.A x) = (o.sagas.take (i + 1)).flatMap (nmC z.A) := hsn
    rw [hn]
    repeat' (first
 | with_reducible (refine hS _ _ ?_; clear hS KS)
 | ((with_reducible (first | refine r_region ?_ | refine And.intro rfl ?_)); conv => whnf)
 | ((with_reducible refine WrapK.i64 ?_ ?_); (focus omega); conv => whnf)
 | (refine hL2 (i + 1, zz 9) _ _ (by show i + 1 ≤ _; omega) (by show _ - (i + 1) < _ - i; omega) suG seG)
 | ((with_reducible ((first | refine InAt.mk (fun K' hK => ?_) | refine AnyAt.mk (fun K' hK => ?_) | (refine hK _ ?_; clear hK K') | (refine hK _ _ ?_; clear hK K')))); conv => whnf))
  · obtain rfl : i = o.sagas.length := by omega
    clear hL2
    rw [List.take_length]
    repeat' (first
 | with_reducible ((first | refine r_seq (fun KS hS => ?_) | (refine hS _ _ ?_; clear hS KS) | (refine hB _ ?_; clear hB KB) | refine r_block ?_))
 | ((with_reducible (first | refine r_region ?_ | refine r_cond (fun KA hA KB hB => ?_) | refine r_exit ?_ | refine And.intro rfl ?_)); conv => whnf)
 | (refine if_decF (by omega) ?_; conv => whnf)
 | with_reducible apply_assumption -symm -exfalso)
    refine r_loop (α := Nat × Option Addr × Nat) (fun y => [(2, .loc b2 52 0), (3, .loc b3 53 0), (39, .v (.slice z.ma.1 o.moves.length z.ma.2)), (40, .v (.int .i64 (o.moves.length : Nat))), (41, .v (.int .i64 (y.1 : Nat)))]) (fun y => [.blk 53 b3 [.v (.int .i64 o.groups), .v (.int .i64 o.done), .v (.slice a o.sagas.length cap), .v (.slice y.2.1 y.1 y.2.2), .v (.slice z.ra.1 o.parts.length z.ra.2), .v (.slice z.wa.1 o.parts.length z.wa.2), .v (.slice z.ea.1 o.parts.length z.ea.2)] 97, .blk 52 b2 [.v (.int .i64 0), .v (.int .i64 0), .v (.slice none 0 0), .v (.slice none 0 0), .v (.slice none 0 0), .v (.slice none 0 0), .v (.slice none 0 0)] 97, .blk 51 b0 (stateV o z) 72, .ext 30 (SlA 148 11 a o.sagas.length cap (o.sagas.flatMap (nmC z.A))), .ext 22 (SlA 83 6 z.ma.1 o.moves.length z.ma.2 (o.moves.flatMap mvC)), .ext 21 (StA o.sagas z.A), .ext 23 (SlA 37 2 z.ra.1 o.parts.length z.ra.2 (o.parts.flatMap rgC)), .ext 24 (SlA 3 1 z.wa.1 o.parts.length z.wa.2 (o.parts.flatMap gpC)), .ext 25 (SlA 3 1 z.ea.1 o.parts.length z.ea.2 (o.parts.flatMap ecC)), .ext 32 (SlA 149 6 y.2.1 y.1 y.2.2 ((o.moves.take y.1).flatMap mvC))]) (fun y => y.1 ≤ o.moves.length) (fun y => o.moves.length - y.1) (0, none, 0) (Nat.zero_le _) suG (HSub.addSlL (L' := [.blk 53 b3 [.v (.int .i64 o.groups), .v (.int .i64 o.done), .v (.slice a o.sagas.length cap), .v (.slice none 0 0), .v (.slice z.ra.1 o.parts.length z.ra.2), .v (.slice z.wa.1 o.parts.length z.wa.2), .v (.slice z.ea.1 o.parts.length z.ea.2)] 97, .blk 52 b2 [.v (.int .i64 0), .v (.int .i64 0), .v (.slice none 0 0), .v (.slice none 0 0), .v (.slice none 0 0), .v (.slice none 0 0), .v (.slice none 0 0)] 97, .blk 51 b0 (stateV o z) 72, .ext 30 (SlA 148 11 a o.sagas.length cap (o.sagas.flatMap (nmC z.A))), .ext 22 (SlA 83 6 z.ma.1 o.moves.length z.ma.2 (o.moves.flatMap mvC)), .ext 21 (StA o.sagas z.A), .ext 23 (SlA 37 2 z.ra.1 o.parts.length z.ra.2 (o.parts.flatMap rgC)), .ext 24 (SlA 3 1 z.wa.1 o.parts.length z.wa.2 (o.parts.flatMap gpC)), .ext 25 (SlA 3 1 z.ea.1 o.parts.length z.ea.2 (o.parts.flatMap ecC))]) seG) ?_
    rintro ⟨i, a2, cap2⟩ hi KL hL2
    dsimp only at hi ⊢
    by_cases hlt : i < o.moves.length
    · obtain ⟨m, hx⟩ : ∃ m, o.moves[i]? = some m := ⟨_, List.getElem?_eq_getElem hlt⟩
      have hsn := flat_snoc (g := mvC) hx
      repeat' (first
 | with_reducible ((first | refine r_seq (fun KS hS => ?_) | (refine hS _ _ ?_; clear hS KS) | (refine hA _ ?_; clear hA KA) | refine r_block ?_))
 | ((with_reducible (first | refine r_region ?_ | refine r_cond (fun KA hA KB hB => ?_) | refine r_skip ?_ | refine And.intro rfl ?_ | intro b)); conv => whnf)
 | ((with_reducible refine WrapK.i64 ?_ ?_); (focus omega); conv => whnf)
 | ((with_reducible refine OpK.id ?_); (first | refine OpK.idx (k := 6) rfl rfl rfl rfl rfl rfl rfl (Sees.ext atG) (by omega) (by omega) (mv_at hx) (fun b off hp => ?_) | refine OpK.ldp rfl rfl hp (List.cons_ne_nil _ _) ?_ | refine OpK.app (k := 6) rfl rfl rfl rfl rfl rfl rfl rfl atG (SrcK.slc rfl rfl lmG (Nat.le_refl _) rfl) (big_ok (by omega) (by decide)) (fun a' cap' => ?_)); conv => whnf)
 | (refine hL2 (i + 1, a', cap') _ _ (by show i + 1 ≤ _; omega) (by show _ - (i + 1) < _ - i; omega) suG (by dsimp only; rw [← hsn]; exact seG))
 | (refine if_decT (by omega) ?_; conv => whnf)
 | with_reducible apply_assumption -symm -exfalso)
    · obtain rfl : i = o.moves.length := by omega
      clear hL2
      rw [List.take_length]
      repeat' (first
 | with_reducible ((first | refine r_seq (fun KS hS => ?_) | (refine hS _ _ ?_; clear hS KS) | (refine hB _ ?_; clear hB KB)))
 | ((with_reducible (first | refine r_region ?_ | refine r_cond (fun KA hA KB hB => ?_) | refine r_ret ?_ | refine r_exit ?_ | refine And.intro rfl ?_)); conv => whnf)
 | (refine if_decF (by omega) ?_; conv => whnf)
 | with_reducible apply_assumption -symm -exfalso)
      exact FinK.frZL ((a, cap), a2, cap2) rfl (HSub.trans HSub.join (by dsimp only [whH]; exact seG))
structure RdW (w : World) (o : OM.St) (z : StZ) (y : WhY) : Prop where
  sg : RdS w 148 11 y.1.1 o.sagas.length y.1.2 (o.sagas.flatMap (nmC z.A))
  st : ∀ x ∈ o.sagas, RdS w 80 2 (z.A x.1).1 x.2.d.steps.length (z.A x.1).2 (stepCells x.2.d.steps)
  mv : RdS w 149 6 y.2.1 o.moves.length y.2.2 (o.moves.flatMap mvC)
  rg : RdS w 37 2 z.ra.1 o.parts.length z.ra.2 (o.parts.flatMap rgC)
  gp : RdS w 3 1 z.wa.1 o.parts.length z.wa.2 (o.parts.flatMap gpC)
  ep : RdS w 3 1 z.ea.1 o.parts.length z.ea.2 (o.parts.flatMap ecC)
theorem WhA.rd {c : Cx} {H : List Blk} {i : Nat} {o : OM.St} {z : StZ} {y : WhY} {f : Blk → List Blk} (hu : At H (.ext i (WhA o z y)) f) {ms : List Nat} {w : World} (hk : Kn c.W c.S ms H w) : RdW w o z y := by
  have hk2 : Kn c.W c.S ms (whH o z y) w := hk.hsub (HSub.trans HSub.unjoin (HSub.pick hu))
  unfold whH at hk2
  exact ⟨Sees.rd (c := c) (Sees.ext atG) hk2, fun x hx => Sees.rd (c := c) (StA.sees (L := o.sagas) (A := z.A) atG (show (x.1, x.2) ∈ o.sagas from hx)) hk2, Sees.rd (c := c) (Sees.ext atG) hk2, Sees.rd (c := c) (Sees.ext atG) hk2, Sees.rd (c := c) (Sees.ext atG) hk2, Sees.rd (c := c) (Sees.ext atG) hk2⟩
theorem alike1037 {o : OM.St} {n m : Int} {z z' : StZ} {y y' : WhY} {w : World} (h : RdW w o z y) (h' : RdW w o z' y') (hI : OM.Inv o) :
    Pu Tryz.prog 37 #[.agg (denL (whV o n z y)).toArray, .agg (denL (whV o m z' y')).toArray] w (.bool true) := by
  have hsl := hI.slen
  have hml := hI.mlen
  have hpl : o.parts.length ≤ 64 := by have := hI.room; omega
  have hs1 := fun n' r H => Sees.old (c := ⟨Tryz.prog, TB, n', w, noS, r, TBok⟩) (H := H) h.sg.old
  have hs2 := fun n' r H => Sees.old (c := ⟨Tryz.prog, TB, n', w, noS, r, TBok⟩) (H := H) h'.sg.old
  have hm1 := fun n' r H => Sees.old (c := ⟨Tryz.prog, TB, n', w, noS, r, TBok⟩) (H := H) h.mv.old
  have hm2 := fun n' r H => Sees.old (c := ⟨Tryz.prog, TB, n', w, noS, r, TBok⟩) (H := H) h'.mv.old
  have hr1 := fun n' r H => Sees.old (c := ⟨Tryz.prog, TB, n', w, noS, r, TBok⟩) (H := H) h.rg.old
  have hr2 := fun n' r H => Sees.old (c := ⟨Tryz.prog, TB, n', w, noS, r, TBok⟩) (H := H) h'.rg.old
  have hg1 := fun n' r H => Sees.old (c := ⟨Tryz.prog, TB, n', w, noS, r, TBok⟩) (H := H) h.gp.old
  have hg2 := fun n' r H => Sees.old (c := ⟨Tryz.prog, TB, n', w, noS, r, TBok⟩) (H := H) h'.gp.old
  have he1 := fun n' r H => Sees.old (c := ⟨Tryz.prog, TB, n', w, noS, r, TBok⟩) (H := H) h.ep.old
  have he2 := fun n' r H => Sees.old (c := ⟨Tryz.prog, TB, n', w, noS, r, TBok⟩) (H := H) h'.ep.old
  have ht1 := fun n' r H x hx => Sees.old (c := ⟨Tryz.prog, TB, n', w, noS, r, TBok⟩) (H := H) (h.st x hx).old
  have ht2 := fun n' r H x hx => Sees.old (c := ⟨Tryz.prog, TB, n', w, noS, r, TBok⟩) (H := H) (h'.st x hx).old
  have hstl : ∀ x ∈ o.sagas, x.2.d.steps.length ≤ 1000 := fun x hx => by
    have hh := OM.Dfn.steps_pos (hI.sok x hx).2.2.d
    omega
  refine enter_sound TBok Tryz.func37 rfl rfl Tryz.ntmps37 [.agg (whV o n z y), .agg (whV o m z' y')] (Kn.start w noS) rfl rfl ?_
  conv => whnf
  repeat' (first
 | with_reducible ((first | refine r_seq (fun KS hS => ?_) | (refine hS _ _ ?_; clear hS KS)))
 | ((with_reducible (first | refine r_region ?_ | refine r_ret ?_ | refine And.intro rfl ?_ | intro b)); conv => whnf)
 | ((with_reducible refine CallK.at 76 ?_); refine CallK.puW (fun ms w hk => eqSagas1076 (P0 := z.A) (P1 := z'.A) (Sees.rd (hs1 _ _ _) hk) (Sees.rd (hs2 _ _ _) hk) (by omega) (fun x hx => Sees.rd (ht1 _ _ _ x hx) hk) (fun x hx => Sees.rd (ht2 _ _ _ x hx) hk) hstl) ?_; conv => whnf)
 | ((with_reducible refine CallK.at 79 ?_); refine CallK.puW (fun ms w hk => eqMv1079 (Sees.rd (hm1 _ _ _) hk) (Sees.rd (hm2 _ _ _) hk) (by omega)) ?_; conv => whnf)
 | ((with_reducible refine CallK.at 80 ?_); refine CallK.puW (fun ms w hk => eqRg1080 (Sees.rd (hr1 _ _ _) hk) (Sees.rd (hr2 _ _ _) hk) (by omega)) ?_; conv => whnf)
 | ((with_reducible refine CallK.at 81 ?_); (first | refine CallK.puW (fun ms w hk => eqGp1081 (Sees.rd (hg1 _ _ _) hk) (Sees.rd (hg2 _ _ _) hk) (by omega)) ?_ | refine CallK.puW (fun ms w hk => eqEc1081 (Sees.rd (he1 _ _ _) hk) (Sees.rd (he2 _ _ _) hk) (by omega)) ?_); conv => whnf)
 | (((refine if_t ?_ ?_); (focus (simp only [eq_self, decide_true, Bool.and_true, Bool.and_self, Bool.not_true, beq_self_eq_true] <;> fail)); conv => whnf)))
  all_goals exact FinK.pu rfl
end Go.Proofs.YtjkmpaggfbghiaaGreatDoor
