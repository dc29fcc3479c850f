/- Contracts and lemmas for the claim (part 15); no condition of its own. -/
import Derived.Test.YtjkmpaggfbghiaaGreatDoorYQC1014
import Derived.Test.YtjkmpaggfbghiaaGreatDoorYQC1006
import Derived.Test.YtjkmpaggfbghiaaGreatDoorYQC1005
set_option linter.all false
set_option maxRecDepth 100000
set_option maxHeartbeats 0
set_option linter.unusedVariables false
set_option linter.unusedSimpArgs false
set_option linter.unnecessarySimpa false
namespace Go.Proofs.YtjkmpaggfbghiaaGreatDoor
open Go Go.X
abbrev nmC (A : Pl) (x : Int × OM.Sg) : List Value := .int .i64 x.1 :: denL (sgc x.2 (A x.1).1 (A x.1).2)
theorem asc_ne {L : SL} (hs : AscS L) {i : Nat} {x : Int × OM.Sg} (hx : L[i]? = some x) : ∀ y ∈ L.take i, y.1 ≠ x.1 := by
  intro y hy
  obtain ⟨j, hj⟩ := List.mem_iff_getElem?.1 hy
  rw [List.getElem?_take] at hj
  split at hj
  · rename_i hji
    obtain ⟨h1, h2⟩ := List.getElem?_eq_some_iff.1 hj
    obtain ⟨h3, h4⟩ := List.getElem?_eq_some_iff.1 hx
    have := List.pairwise_iff_getElem.1 hs j i h1 h3 hji
    rw [h2, h4] at this
    omega
  · cases hj
theorem nm_snoc {L : SL} (hs : AscS L) {A : Pl} {z : Option Addr × Nat} {i : Nat} {x : Int × OM.Sg} (hx : L[i]? = some x) :
    (L.take i).flatMap (nmC A) ++ (.int .i64 x.1 :: denL (sgc x.2 z.1 z.2)) = (L.take (i + 1)).flatMap (nmC (setA A x.1 z)) := by
  have h1 : (L.take i).flatMap (nmC (setA A x.1 z)) = (L.take i).flatMap (nmC A) := fl_congr fun y hy => by
    unfold nmC setA
    rw [if_neg (asc_ne hs hx y hy)]
  rw [← flat_snoc (g := nmC (setA A x.1 z)) hx, h1]
  congr 1
  unfold nmC setA
  rw [if_pos rfl]
theorem StA_snoc {L : SL} (hs : AscS L) {A : Pl} {z : Option Addr × Nat} {i : Nat} {x : Int × OM.Sg} (hx : L[i]? = some x) {p q r : Nat} :
    HSub [.ext p (StA (L.take (i + 1)) (setA A x.1 z))] [.ext q (StA (L.take i) A), .ext r (stA x.2 z)] := by
  refine HSub.trans HSub.join (HSub.trans ?_ (HSub.app2 (A := [.ext q (StA (L.take i) A)]) HSub.unjoin (HSub.ext (i := 0) (fun _ _ h => h) HSub.nil)))
  have e0 : stB (setA A x.1 z) x = .ext 0 (stA x.2 z) := by unfold stB setA; rw [if_pos rfl]
  have : (L.take (i + 1)).map (stB (setA A x.1 z)) = (L.take i).map (stB A) ++ [.ext 0 (stA x.2 z)] := by
    rw [← take_snoc hx, List.map_append, stB_set (asc_ne hs hx), List.map_cons, List.map_nil, e0]
  rw [this]
  exact HSub.refl _
theorem _root_.Go.X.HSub.addStL {i : Nat} {A : Pl} {L' L : List Blk} (h : HSub L' L) : HSub (L' ++ [.ext i (StA [] A)]) L :=
  HSub.trans (HSub.perm List.perm_append_comm) (fun w S hS =>
    let ⟨S', h1, h2⟩ := h w S hS
    ⟨fun k => False ∨ S' k, .cons (x := .ext i (StA [] A)) (S := fun _ => False) (Holds.nil (w := w)) (fun _ h => h.elim) h1 (fun _ h => h.elim), fun k hk => hk.elim False.elim (h2 k)⟩)
theorem mlen1064 {t : Nat} {l : List OM.Mv} (hl : l.length ≤ 64) (w : World) :
    Fr Tryz.prog 64 #[pv t] w (AssL [.ext 0 (MvsA t l)]) (.int .i64 (l.length : Nat)) (AssL [.ext 0 (MvsA t l)]) := by
  refine enter_fr TBok (H := [.ext 0 (MvsA t l)]) all_foot Tryz.func64 rfl rfl Tryz.ntmps64 [.loc t 0 0] rfl rfl ?_
  intro S
  conv => whnf
  refine Run.ex (A := mvsH t l) (i := 0) rmG ?_
  rintro ⟨a, cap⟩
  dsimp only [mvsH, layF]
  repeat' (first
 | with_reducible ((first | refine r_seq (fun KS hS => ?_) | (refine hS _ _ ?_; clear hS KS) | (refine hB _ ?_; clear hB KB)))
 | ((with_reducible (first | refine r_region ?_ | refine r_cond (fun KA hA KB hB => ?_) | refine r_ret ?_ | refine r_skip ?_ | refine And.intro rfl ?_)); conv => whnf)
 | (apply in1125; rfl; rfl; rfl; intro A; conv => whnf)
 | ((with_reducible apply OpK.more); (focus refine sok); (conv => whnf); fail_if_success guard_target =ₛ False)
 | with_reducible apply_assumption -symm -exfalso)
  all_goals exact FinK.frL rfl (HSub.trans (mvs_id (i := 0) (j := 1) (a := a) (cap := cap) rfl) seG)
structure StZ where
  sa : Option Addr × Nat
  A : Pl
  ma : Option Addr × Nat
  ra : Option Addr × Nat
  wa : Option Addr × Nat
  ea : Option Addr × Nat
abbrev stateV (o : OM.St) (z : StZ) : List SV := [.v (.int .i64 o.groups), .v (.int .i64 o.done), .v (.slice z.sa.1 o.sagas.length z.sa.2), .v (.slice z.ma.1 o.moves.length z.ma.2), .v (.slice z.ra.1 o.parts.length z.ra.2), .v (.slice z.wa.1 o.parts.length z.wa.2), .v (.slice z.ea.1 o.parts.length z.ea.2)]
abbrev stateH (o : OM.St) (z : StZ) : List Blk := [.ext 20 (SlA 76 11 z.sa.1 o.sagas.length z.sa.2 (o.sagas.flatMap (nmC z.A))), .ext 21 (StA o.sagas z.A), .ext 22 (SlA 83 6 z.ma.1 o.moves.length z.ma.2 (o.moves.flatMap mvC)), .ext 23 (SlA 37 2 z.ra.1 o.parts.length z.ra.2 (o.parts.flatMap rgC)), .ext 24 (SlA 3 1 z.wa.1 o.parts.length z.wa.2 (o.parts.flatMap gpC)), .ext 25 (SlA 3 1 z.ea.1 o.parts.length z.ea.2 (o.parts.flatMap ecC))]
theorem state1024 {d : Nat} {o : OM.St} (hI : OM.Inv o) (w : World) :
    FrZ Tryz.prog 24 #[pv d] w (AssL [.ext 12 (OrchA d o)]) (fun z : StZ => .agg (denL (stateV o z)).toArray) (fun z => AssL (.ext 12 (OrchA d o) :: stateH o z)) := by
  have hL := LOk.ofInv hI
  have hml := hI.mlen
  have hll := hI.slen
  have hp0 : 0 < o.parts.length := List.length_pos_iff.2 hI.cov.2
  have hpl : o.parts.length ≤ 64 := by have := hI.room; omega
  refine enter_frZ TBok (H := [.ext 12 (OrchA d o)]) all_foot Tryz.func24 rfl rfl Tryz.ntmps24 [.loc d 0 0] rfl rfl ?_
  intro S hz8 hz9
  clear hz8 hz9
  conv => whnf
  repeat' (first
 | with_reducible refine r_stop 3 ?_
 | with_reducible ((first | refine r_seq (fun KS hS => ?_) | (refine hS _ _ ?_; clear hS KS) | (refine hB _ ?_; clear hB KB)))
 | ((with_reducible (first | refine r_region ?_ | refine r_cond (fun KA hA KB hB => ?_) | refine r_skip ?_ | intro b)); conv => whnf)
 | ((with_reducible refine CallK.id ?_); refine CallK.s1V rmG (fun ms w hk => made1041 (by have := hI.gr; omega) w) ?_; conv => whnf)
 | with_reducible apply_assumption -symm -exfalso)
  refine StopR.mk ?_
  obtain ⟨b2, hb2⟩ : ∃ x, x = b := ⟨b, rfl⟩
  subst hb2
  refine Run.ex (A := orH d o) (i := 12) rmG ?_
  rintro ⟨t1, t2, t3⟩
  dsimp only [orH, layF]
  refine r_seq (fun KS2 hS2 => ?_)
  refine r_par (β := Option Addr × Nat) (id := 3) [nq 0 [] (.loc d 0 0), nq 1 [0] (.loc d 0 0), nq 2 [1] (.loc d 0 0), nq 3 [2] (.v (.int .i64 o.groups)), nq 4 [] (.loc d 0 0), nq 5 [4] (.loc d 0 0), nq 6 [5] (.loc d 0 1), nq 7 [6] (.v (.int .i64 o.done)), nq 8 [] (.loc d 0 0), nq 9 [8] (.loc d 0 0), nq 10 [9] (.loc d 0 4), nq 11 [10] (.loc t3 22 0), ⟨12, [11], some 100, fun _ q2 => .v (.slice q2.1 o.parts.length q2.2), fun _ q2 => [.ext 3 (PtsA t3 o.parts), .ext 23 (SlA 37 2 q2.1 o.parts.length q2.2 (o.parts.flatMap rgC))]⟩, nq 13 [] (.loc d 0 0), nq 14 [13] (.loc d 0 0), nq 15 [14] (.loc d 0 4), nq 16 [15] (.loc t3 22 0), ⟨17, [16, 12], some 12, fun _ q2 => .v (.slice q2.1 o.parts.length q2.2), fun l q2 => match l with | [_, z12] => [.ext 3 (PtsA t3 o.parts), .ext 23 (SlA 37 2 z12.1 o.parts.length z12.2 (o.parts.flatMap rgC)), .ext 24 (SlA 3 1 q2.1 o.parts.length q2.2 (o.parts.flatMap gpC))] | _ => []⟩, nq 18 [] (.loc d 0 0), nq 19 [18] (.loc d 0 0), nq 20 [19] (.loc d 0 4), nq 21 [20] (.loc t3 22 0), ⟨22, [21, 17, 12], some 17, fun _ q2 => .v (.slice q2.1 o.parts.length q2.2), fun l q2 => match l with | [_, z17, z12] => [.ext 3 (PtsA t3 o.parts), .ext 23 (SlA 37 2 z12.1 o.parts.length z12.2 (o.parts.flatMap rgC)), .ext 24 (SlA 3 1 z17.1 o.parts.length z17.2 (o.parts.flatMap gpC)), .ext 25 (SlA 3 1 q2.1 o.parts.length q2.2 (o.parts.flatMap ecC))] | _ => []⟩, ⟨23, [3, 7, 12, 17, 22], none, fun l _ => match l with | [_, _, z12, z17, z22] => .agg [.v (.int .i64 o.groups), .v (.int .i64 o.done), .v (.slice none 0 0), .v (.slice none 0 0), .v (.slice z12.1 o.parts.length z12.2), .v (.slice z17.1 o.parts.length z17.2), .v (.slice z22.1 o.parts.length z22.2)] | _ => .v undef, fun _ _ => []⟩, ⟨24, [], none, fun _ q2 => .loc q2.2 90 0, fun _ q2 => [.blk 90 q2.2 [.v (.int .i64 0), .v (.int .i64 0), .v (.slice none 0 0), .v (.slice none 0 0), .v (.slice none 0 0), .v (.slice none 0 0), .v (.slice none 0 0)] 72]⟩] [⟨100, [], none, fun _ _ => .v undef, fun _ _ => [.ext 3 (PtsA t3 o.parts)]⟩] 1 [.blk 13 b2 [.v (.int .i64 0), .v (.int .i64 0), .v (.slice none 0 0), .v (.slice none 0 0), .v (.slice none 0 0), .v (.slice none 0 0), .v (.slice none 0 0)] 72, .blk 0 d [.v (.int .i64 o.groups), .v (.int .i64 o.done), .loc t1 20 0, .loc t2 21 0, .loc t3 22 0] 121, .ext 1 (TabA t1 o.sagas), .ext 2 (MvsA t2 o.moves)] mixed (by kernel_rfl) (by kernel_rfl) (by show HSub [.ext 3 (PtsA t3 o.parts), .blk 13 b2 [.v (.int .i64 0), .v (.int .i64 0), .v (.slice none 0 0), .v (.slice none 0 0), .v (.slice none 0 0), .v (.slice none 0 0), .v (.slice none 0 0)] 72, .blk 0 d [.v (.int .i64 o.groups), .v (.int .i64 o.done), .loc t1 20 0, .loc t2 21 0, .loc t3 22 0] 121, .ext 1 (TabA t1 o.sagas), .ext 2 (MvsA t2 o.moves)] _; exact seG) ?_ ?_
  · conv => whnf
    repeat' (first | ((with_reducible refine And.intro ?_ ?_); all_goals (conv => whnf)) | ((with_reducible intro zz2 AA KP hP); conv => whnf))
    repeat' (first
 | ((with_reducible intro b); conv => whnf)
 | ((with_reducible refine CallK.id ?_); (first | refine CallK.s1 rmG (fun ms w hk => ranges1060 hp0 (by omega) w) ?_ | refine CallK.s1 rmG (fun ms w hk => groups1061 hp0 (by omega) w) ?_ | refine CallK.s1 rmG (fun ms w hk => epochs1062 hp0 (by omega) w) ?_); conv => whnf)
 | ((with_reducible refine hP (none, b) _ _ ?_ ?_); all_goals (first | exact default | ((repeat' (first | exact SubD.nil | (refine SubD.cons rfl rfl ?_))); done) | exact seZ))
 | ((with_reducible apply hP); all_goals (first | exact default | ((repeat' (first | exact SubD.nil | (refine SubD.cons rfl rfl ?_))); done) | exact seZ)))
  conv => whnf
  intro zz
  conv => whnf
  try dsimp only
  repeat' (first
 | with_reducible ((first | refine r_seq (fun KS hS => ?_) | (refine hS _ _ ?_; clear hS KS) | refine r_block ?_))
 | ((with_reducible (first | refine r_region ?_ | refine And.intro rfl ?_ | intro b)); conv => whnf)
 | ((with_reducible refine CallK.id ?_); refine CallK.s1 rmG (fun ms w hk => ids1063 hL.srt hL.len w) ?_; conv => whnf)
 | ((with_reducible ((first | refine AnyAt.mk (fun K' hK => ?_) | (refine hK _ _ ?_; clear hK K')))); conv => whnf)
 | with_reducible apply_assumption -symm -exfalso)
  rcases b with ⟨ia, icap⟩
  dsimp only
  generalize zz 12 = ra
  generalize zz 17 = wa
  generalize zz 22 = ea
  generalize (zz 24).2 = b3
  clear zz
  refine r_loop (α := Nat × Pl × Option Addr × Nat) (fun z => [(0, .loc d 0 0), (2, .loc b2 13 0), (3, .loc b3 90 0), (43, .v (.slice ia o.sagas.length icap)), (44, .v (.int .i64 (o.sagas.length : Nat))), (45, .v (.int .i64 (z.1 : Nat)))]) (fun z => [.blk 90 b3 [.v (.int .i64 o.groups), .v (.int .i64 o.done), .v (.slice z.2.2.1 z.1 z.2.2.2), .v (.slice none 0 0), .v (.slice ra.1 o.parts.length ra.2), .v (.slice wa.1 o.parts.length wa.2), .v (.slice ea.1 o.parts.length ea.2)] 72, .blk 13 b2 [.v (.int .i64 0), .v (.int .i64 0), .v (.slice none 0 0), .v (.slice none 0 0), .v (.slice none 0 0), .v (.slice none 0 0), .v (.slice none 0 0)] 72, .blk 0 d [.v (.int .i64 o.groups), .v (.int .i64 o.done), .loc t1 20 0, .loc t2 21 0, .loc t3 22 0] 121, .ext 1 (TabA t1 o.sagas), .ext 2 (MvsA t2 o.moves), .ext 3 (PtsA t3 o.parts), .ext 23 (SlA 37 2 ra.1 o.parts.length ra.2 (o.parts.flatMap rgC)), .ext 24 (SlA 3 1 wa.1 o.parts.length wa.2 (o.parts.flatMap gpC)), .ext 25 (SlA 3 1 ea.1 o.parts.length ea.2 (o.parts.flatMap ecC)), .ext 4 (SlA 3 1 ia o.sagas.length icap (idC o.sagas))] ++ [.ext 20 (SlA 76 11 z.2.2.1 z.1 z.2.2.2 ((o.sagas.take z.1).flatMap (nmC z.2.1))), .ext 21 (StA (o.sagas.take z.1) z.2.1)]) (fun z => z.1 ≤ o.sagas.length) (fun z => o.sagas.length - z.1) (0, (fun _ => (none, 0)), none, 0) (Nat.zero_le _) suG (HSub.addStL (L' := [.blk 90 b3 [.v (.int .i64 o.groups), .v (.int .i64 o.done), .v (.slice none 0 0), .v (.slice none 0 0), .v (.slice ra.1 o.parts.length ra.2), .v (.slice wa.1 o.parts.length wa.2), .v (.slice ea.1 o.parts.length ea.2)] 72, .blk 13 b2 [.v (.int .i64 0), .v (.int .i64 0), .v (.slice none 0 0), .v (.slice none 0 0), .v (.slice none 0 0), .v (.slice none 0 0), .v (.slice none 0 0)] 72, .blk 0 d [.v (.int .i64 o.groups), .v (.int .i64 o.done), .loc t1 20 0, .loc t2 21 0, .loc t3 22 0] 121, .ext 1 (TabA t1 o.sagas), .ext 2 (MvsA t2 o.moves), .ext 3 (PtsA t3 o.parts), .ext 23 (SlA 37 2 ra.1 o.parts.length ra.2 (o.parts.flatMap rgC)), .ext 24 (SlA 3 1 wa.1 o.parts.length wa.2 (o.parts.flatMap gpC)), .ext 25 (SlA 3 1 ea.1 o.parts.length ea.2 (o.parts.flatMap ecC)), .ext 4 (SlA 3 1 ia o.sagas.length icap (idC o.sagas))] ++ [.ext 20 (SlA 76 11 none 0 0 [])]) (HSub.addSlL (L' := [.blk 90 b3 [.v (.int .i64 o.groups), .v (.int .i64 o.done), .v (.slice none 0 0), .v (.slice none 0 0), .v (.slice ra.1 o.parts.length ra.2), .v (.slice wa.1 o.parts.length wa.2), .v (.slice ea.1 o.parts.length ea.2)] 72, .blk 13 b2 [.v (.int .i64 0), .v (.int .i64 0), .v (.slice none 0 0), .v (.slice none 0 0), .v (.slice none 0 0), .v (.slice none 0 0), .v (.slice none 0 0)] 72, .blk 0 d [.v (.int .i64 o.groups), .v (.int .i64 o.done), .loc t1 20 0, .loc t2 21 0, .loc t3 22 0] 121, .ext 1 (TabA t1 o.sagas), .ext 2 (MvsA t2 o.moves), .ext 3 (PtsA t3 o.parts), .ext 23 (SlA 37 2 ra.1 o.parts.length ra.2 (o.parts.flatMap rgC)), .ext 24 (SlA 3 1 wa.1 o.parts.length wa.2 (o.parts.flatMap gpC)), .ext 25 (SlA 3 1 ea.1 o.parts.length ea.2 (o.parts.flatMap ecC)), .ext 4 (SlA 3 1 ia o.sagas.length icap (idC o.sagas))]) seG)) ?_
  rintro ⟨i, A, a, cap⟩ hi KL hL2
  dsimp only [List.cons_append, List.nil_append] at hi ⊢
  by_cases hlt : i < o.sagas.length
  · obtain ⟨x, hx⟩ : ∃ x, o.sagas[i]? = some x := ⟨_, List.getElem?_eq_getElem hlt⟩
    have hmem := List.mem_of_getElem? hx
    have hg := getL_of_mem hL.srt hmem
    have hok := hL.ok x hmem
    have hid := hL.id x hmem
    repeat' (first
 | with_reducible ((first | refine r_seq (fun KS hS => ?_) | (refine hS _ _ ?_; clear hS KS) | (refine hA _ ?_; clear hA KA) | refine r_block ?_))
 | ((with_reducible (first | refine r_region ?_ | refine r_cond (fun KA hA KB hB => ?_) | refine r_skip ?_ | refine And.intro rfl ?_ | intro b)); conv => whnf)
 | ((with_reducible refine WrapK.i64 ?_ ?_); (focus omega); conv => whnf)
 | ((with_reducible refine OpK.id ?_); (first | refine OpK.idx (k := 1) rfl rfl rfl rfl rfl rfl rfl (Sees.ext atG) (by omega) (by omega) (id_at hx) (fun b off hp => ?_) | refine OpK.ldp rfl rfl hp (List.cons_ne_nil _ _) ?_); conv => whnf)
 | ((with_reducible refine CallK.id ?_); refine CallK.s1 rmG (fun ms w hk => get1056 hg hok (zok_id hid) w) ?_; conv => whnf)
 | ((with_reducible refine OpK.id ?_); refine OpK.app (k := 11) rfl rfl rfl rfl rfl rfl rfl rfl atG (SrcK.slc rfl rfl lmG (Nat.le_refl _) rfl) (big_ok (by omega) (by decide)) (fun a' cap' => ?_); conv => whnf)
 | (refine hL2 (i + 1, setA A x.1 ‹Option Addr × Nat›, a', cap') _ _ (by show i + 1 ≤ _; omega) (by show _ - (i + 1) < _ - i; omega) suG (by refine HSub.trans (HSub.app2 (A := [.blk 90 b3 [.v (.int .i64 o.groups), .v (.int .i64 o.done), .v (.slice a' (i + 1) cap'), .v (.slice none 0 0), .v (.slice ra.1 o.parts.length ra.2), .v (.slice wa.1 o.parts.length wa.2), .v (.slice ea.1 o.parts.length ea.2)] 72, .blk 13 b2 [.v (.int .i64 0), .v (.int .i64 0), .v (.slice none 0 0), .v (.slice none 0 0), .v (.slice none 0 0), .v (.slice none 0 0), .v (.slice none 0 0)] 72, .blk 0 d [.v (.int .i64 o.groups), .v (.int .i64 o.done), .loc t1 20 0, .loc t2 21 0, .loc t3 22 0] 121, .ext 1 (TabA t1 o.sagas), .ext 2 (MvsA t2 o.moves), .ext 3 (PtsA t3 o.parts), .ext 23 (SlA 37 2 ra.1 o.parts.length ra.2 (o.parts.flatMap rgC)), .ext 24 (SlA 3 1 wa.1 o.parts.length wa.2 (o.parts.flatMap gpC)), .ext 25 (SlA 3 1 ea.1 o.parts.length ea.2 (o.parts.flatMap ecC)), .ext 4 (SlA 3 1 ia o.sagas.length icap (idC o.sagas))]) (HSub.refl _) (HSub.ext (i := 20) (j := 20) (fun w S h => by rw [← nm_snoc hL.srt hx]; exact h) (StA_snoc (q := 21) (r := 1) hL.srt hx))) ?_; dsimp only [List.cons_append, List.nil_append]; exact seG))
 | (refine if_decT (by omega) ?_; conv => whnf)
 | with_reducible apply_assumption -symm -exfalso)
  · obtain rfl : i = o.sagas.length := by omega
    clear hL2
    rw [List.take_length]
    repeat' (first
 | with_reducible ((first | refine r_seq (fun KS hS => ?_) | (refine hS _ _ ?_; clear hS KS) | (refine hB _ ?_; clear hB KB) | refine r_block ?_))
 | ((with_reducible (first | refine r_region ?_ | refine r_cond (fun KA hA KB hB => ?_) | refine r_exit ?_ | refine And.intro rfl ?_)); conv => whnf)
 | ((with_reducible refine CallK.id ?_); refine CallK.s1V rmG (fun ms w hk => mlen1064 hml w) ?_; conv => whnf)
 | (refine if_decF (by omega) ?_; conv => whnf)
 | with_reducible apply_assumption -symm -exfalso)
    refine r_loop (α := Nat × Option Addr × Nat) (fun z => [(0, .loc d 0 0), (2, .loc b2 13 0), (3, .loc b3 90 0), (71, .v (.int .i64 (o.moves.length : Nat))), (72, .v (.int .i64 (z.1 : Nat)))]) (fun z => [.blk 90 b3 [.v (.int .i64 o.groups), .v (.int .i64 o.done), .v (.slice a o.sagas.length cap), .v (.slice z.2.1 z.1 z.2.2), .v (.slice ra.1 o.parts.length ra.2), .v (.slice wa.1 o.parts.length wa.2), .v (.slice ea.1 o.parts.length ea.2)] 72, .blk 13 b2 [.v (.int .i64 0), .v (.int .i64 0), .v (.slice none 0 0), .v (.slice none 0 0), .v (.slice none 0 0), .v (.slice none 0 0), .v (.slice none 0 0)] 72, .blk 0 d [.v (.int .i64 o.groups), .v (.int .i64 o.done), .loc t1 20 0, .loc t2 21 0, .loc t3 22 0] 121, .ext 1 (TabA t1 o.sagas), .ext 2 (MvsA t2 o.moves), .ext 3 (PtsA t3 o.parts), .ext 23 (SlA 37 2 ra.1 o.parts.length ra.2 (o.parts.flatMap rgC)), .ext 24 (SlA 3 1 wa.1 o.parts.length wa.2 (o.parts.flatMap gpC)), .ext 25 (SlA 3 1 ea.1 o.parts.length ea.2 (o.parts.flatMap ecC)), .ext 20 (SlA 76 11 a o.sagas.length cap (o.sagas.flatMap (nmC A))), .ext 21 (StA o.sagas A)] ++ [.ext 22 (SlA 83 6 z.2.1 z.1 z.2.2 ((o.moves.take z.1).flatMap mvC))]) (fun z => z.1 ≤ o.moves.length) (fun z => o.moves.length - z.1) (0, none, 0) (Nat.zero_le _) suG (HSub.addSlL (L' := [.blk 90 b3 [.v (.int .i64 o.groups), .v (.int .i64 o.done), .v (.slice a o.sagas.length cap), .v (.slice none 0 0), .v (.slice ra.1 o.parts.length ra.2), .v (.slice wa.1 o.parts.length wa.2), .v (.slice ea.1 o.parts.length ea.2)] 72, .blk 13 b2 [.v (.int .i64 0), .v (.int .i64 0), .v (.slice none 0 0), .v (.slice none 0 0), .v (.slice none 0 0), .v (.slice none 0 0), .v (.slice none 0 0)] 72, .blk 0 d [.v (.int .i64 o.groups), .v (.int .i64 o.done), .loc t1 20 0, .loc t2 21 0, .loc t3 22 0] 121, .ext 1 (TabA t1 o.sagas), .ext 2 (MvsA t2 o.moves), .ext 3 (PtsA t3 o.parts), .ext 23 (SlA 37 2 ra.1 o.parts.length ra.2 (o.parts.flatMap rgC)), .ext 24 (SlA 3 1 wa.1 o.parts.length wa.2 (o.parts.flatMap gpC)), .ext 25 (SlA 3 1 ea.1 o.parts.length ea.2 (o.parts.flatMap ecC)), .ext 20 (SlA 76 11 a o.sagas.length cap (o.sagas.flatMap (nmC A))), .ext 21 (StA o.sagas A)]) seG) ?_
    rintro ⟨i, a2, cap2⟩ hi KL hL2
    dsimp only [List.cons_append, List.nil_append] at hi ⊢
    by_cases hlt : i < o.moves.length
    · obtain ⟨m, hx⟩ : ∃ m, o.moves[i]? = some m := ⟨_, List.getElem?_eq_getElem hlt⟩
      have hsn := flat_snoc (g := mvC) hx
      repeat' (first
 | with_reducible ((first | refine r_seq (fun KS hS => ?_) | (refine hS _ _ ?_; clear hS KS) | (refine hA _ ?_; clear hA KA) | refine r_block ?_))
 | ((with_reducible (first | refine r_region ?_ | refine r_cond (fun KA hA KB hB => ?_) | refine r_skip ?_ | refine And.intro rfl ?_ | intro b)); conv => whnf)
 | ((with_reducible refine WrapK.i64 ?_ ?_); (focus omega); conv => whnf)
 | ((with_reducible refine CallK.id ?_); refine CallK.s1V rmG (fun ms w hk => mget1065 hx hml w) ?_; conv => whnf)
 | ((with_reducible refine OpK.id ?_); refine OpK.app (k := 6) rfl rfl rfl rfl rfl rfl rfl rfl atG (SrcK.slc rfl rfl lmG (Nat.le_refl _) rfl) (big_ok (by omega) (by decide)) (fun a' cap' => ?_); conv => whnf)
 | (refine hL2 (i + 1, a', cap') _ _ (by show i + 1 ≤ _; omega) (by show _ - (i + 1) < _ - i; omega) suG (by refine HSub.trans (HSub.app2 (A := [.blk 90 b3 [.v (.int .i64 o.groups), .v (.int .i64 o.done), .v (.slice a o.sagas.length cap), .v (.slice a' (i + 1) cap'), .v (.slice ra.1 o.parts.length ra.2), .v (.slice wa.1 o.parts.length wa.2), .v (.slice ea.1 o.parts.length ea.2)] 72, .blk 13 b2 [.v (.int .i64 0), .v (.int .i64 0), .v (.slice none 0 0), .v (.slice none 0 0), .v (.slice none 0 0), .v (.slice none 0 0), .v (.slice none 0 0)] 72, .blk 0 d [.v (.int .i64 o.groups), .v (.int .i64 o.done), .loc t1 20 0, .loc t2 21 0, .loc t3 22 0] 121, .ext 1 (TabA t1 o.sagas), .ext 2 (MvsA t2 o.moves), .ext 3 (PtsA t3 o.parts), .ext 23 (SlA 37 2 ra.1 o.parts.length ra.2 (o.parts.flatMap rgC)), .ext 24 (SlA 3 1 wa.1 o.parts.length wa.2 (o.parts.flatMap gpC)), .ext 25 (SlA 3 1 ea.1 o.parts.length ea.2 (o.parts.flatMap ecC)), .ext 20 (SlA 76 11 a o.sagas.length cap (o.sagas.flatMap (nmC A))), .ext 21 (StA o.sagas A)]) (HSub.refl _) (HSub.ext (i := 22) (j := 22) (fun w S h => by rw [← hsn]; exact h) HSub.nil)) ?_; dsimp only [List.cons_append, List.nil_append]; exact seG))
 | (refine if_decT (by omega) ?_; conv => whnf)
 | with_reducible apply_assumption -symm -exfalso)
    · obtain rfl : i = o.moves.length := by omega
      clear hL2
      rw [List.take_length]
      repeat' (first
 | with_reducible ((first | refine r_seq (fun KS hS => ?_) | (refine hS _ _ ?_; clear hS KS) | (refine hB _ ?_; clear hB KB)))
 | ((with_reducible (first | refine r_region ?_ | refine r_cond (fun KA hA KB hB => ?_) | refine r_ret ?_ | refine r_exit ?_ | refine And.intro rfl ?_)); conv => whnf)
 | (refine if_decF (by omega) ?_; conv => whnf)
 | with_reducible apply_assumption -symm -exfalso)
      refine FinK.frZL ⟨(a, cap), A, (a2, cap2), ra, wa, ea⟩ rfl (HSub.trans (HSub.app2 (A' := [.ext 12 (OrchA d o)]) (or_id (d := d) (s := o) (t1 := t1) (t2 := t2) (t3 := t3) (i := 0) (j := 1) (k := 2) (l := 3)) (HSub.refl (stateH o ⟨(a, cap), A, (a2, cap2), ra, wa, ea⟩))) ?_)
      dsimp only [stateH, List.cons_append, List.nil_append]
      exact seG
theorem nm_at {A : Pl} {l : List (Int × OM.Sg)} {i : Nat} {x : Int × OM.Sg} (h : l[i]? = some x) : ((l.flatMap (nmC A)).drop ((i : Int).toNat * 11)).take 11 = denL (.v (.int .i64 x.1) :: sgc x.2 (A x.1).1 (A x.1).2) := flat_at (k := 11) (g := nmC A) (fun _ => rfl) h
theorem AssL.re3 {A B C : Ass} {i q j p k r : Nat} {M : List Blk} {w : World} {S : Nat → Prop} (h : (AssL (.ext i A :: .ext j B :: .ext k C :: M)).holds w S) : (AssL (.ext q A :: .ext p B :: .ext r C :: M)).holds w S := by
  have h : Holds w (.ext i A :: .ext j B :: .ext k C :: M) S := h
  cases h with
  | @cons _ _ S1 T1 hx hb hH hd => exact Holds.cons (x := .ext q A) hx hb (AssL.re2 (i := j) (j := k) hH) hd
abbrev inX (j : Nat) : OM.Item := ⟨OM.zEff, ((j + 1 : Nat) : Int), true, 2⟩
theorem tput1085 {t : Nat} {L L0 : SL} {P0 : Pl} {id : Int} {s : OM.Sg} (hs : AscS L) (hl : L.length < 64) (hg : getL L id = none) (hz : 1 ≤ id ∧ id ≤ 9999) (hso : OM.SOk s) (hm : (id, s) ∈ L0) (w : World) :
    Fr Tryz.prog 85 #[pv t, .int .i64 id, .agg (denL (sgc s (P0 id).1 (P0 id).2)).toArray] w (AssL [.ext 0 (TabA t L), .ext 21 (StA L0 P0)]) (.int .i64 0) (AssL [.ext 0 (TabA t (OM.putS id s L)), .ext 21 (StA L0 P0)]) := by
  have hd' := OM.Dfn.steps_pos hso.d
  refine enter_fr TBok (H := [.ext 0 (TabA t L), .ext 21 (StA L0 P0)]) all_foot Tryz.func85 rfl rfl Tryz.ntmps85 [.loc t 0 0, .v (.int .i64 id), .agg (sgc s (P0 id).1 (P0 id).2)] rfl rfl ?_
  intro S
  conv => whnf
  refine Run.ex (A := tabH t L) (i := 0) .head ?_
  rintro ⟨m, P1⟩
  dsimp only [tabH, layF]
  repeat' (first
 | with_reducible ((first | refine r_seq (fun KS hS => ?_) | (refine hS _ _ ?_; clear hS KS) | (refine hB _ ?_; clear hB KB) | refine r_block ?_))
 | ((with_reducible (first | refine r_region ?_ | refine r_cond (fun KA hA KB hB => ?_) | refine r_ret ?_ | refine r_skip ?_ | refine And.intro rfl ?_ | intro b)); conv => whnf)
 | ((with_reducible refine CallK.id ?_); (first | apply in1122 | apply in1137 | apply in1138 | apply in1130); rfl; rfl; rfl; intro A; conv => whnf)
 | ((with_reducible refine CallK.at 66 ?_); refine CallK.puW (fun ms w hk => saga1066 hso (Sees.rd (StA.sees (L := L0) (A := P0) atG hm) hk)) ?_; conv => whnf)
 | ((with_reducible refine CallK.id ?_); refine CallK.fresh (fun ms w' hk => scopy1113 (s := s) (Sees.rd (StA.sees (L := L0) (A := P0) atG hm) hk) (by omega)) ?_; conv => whnf)
 | ((with_reducible refine OpK.id ?_); (first | refine OpK.lkN rfl rfl rfl rfl rfl rfl rfl rfl atG (sgF_none hg) ?_ | (refine OpK.lenM rfl rfl rfl rfl atG (keys_sgF hs (by omega)) ?_; rw [List.length_map]) | refine OpK.upK rfl rfl rfl rfl rfl rfl rfl rfl atG (zok_id hz) ?_); conv => whnf)
 | (apply r_any (id := 6); refine mixed; kernel_rfl; kernel_rfl; conv => whnf)
 | ((with_reducible apply OpK.more); (focus refine sok); (conv => whnf); fail_if_success guard_target =ₛ False)
 | ((with_reducible ((first | refine InAt.mk (fun K' hK => ?_) | refine AnyAt.mk (fun K' hK => ?_) | (refine hK _ ?_; clear hK K') | (refine hK _ _ ?_; clear hK K')))); conv => whnf)
 | (refine And.intro ?_ ?_; all_goals (conv => whnf))
 | (refine if_decF (by omega) ?_; conv => whnf)
 | with_reducible apply_assumption -symm -exfalso)
  all_goals exact FinK.frL rfl (HSub.trans (HSub.app2 (A' := [.ext 0 (TabA t (OM.putS id s L))]) (B' := [.ext 21 (StA L0 P0)]) (tab_put (s := s) (i := 0) (j := 1) (k := 2) (l := 3) (m := m) (A := P1) (a := b) hs) (HSub.refl _)) seG)
def mxG (l : List OM.Pt) (i : Nat) : Int := (l.take i).foldl (fun a p => max a p.group) (match l with | p :: _ => p.group | [] => 0)
theorem mxG_one {p : OM.Pt} {l : List OM.Pt} : mxG (p :: l) 1 = p.group := by unfold mxG; simp
theorem mxG_succ {l : List OM.Pt} {i : Nat} {p : OM.Pt} (h : l[i]? = some p) : mxG l (i + 1) = max (mxG l i) p.group := by
  unfold mxG
  rw [List.take_succ, h, List.foldl_append]
  rfl
theorem mxG_lt {l : List OM.Pt} {g : Int} (h0 : l ≠ []) (hg : ∀ p ∈ l, p.group < g) (i : Nat) : mxG l i < g := by
  unfold mxG
  have key : ∀ (k : List OM.Pt) (a : Int), a < g → (∀ p ∈ k, p.group < g) → k.foldl (fun a p => max a p.group) a < g := by
    intro k
    induction k with
    | nil => intro a ha _; exact ha
    | cons x k ih =>
      intro a ha hk
      refine ih _ ?_ (fun p hp => hk p (.tail _ hp))
      have := hk x (.head _)
      show max a x.group < g
      omega
  refine key _ _ ?_ (fun p hp => hg p (List.mem_of_mem_take hp))
  cases l with
  | nil => exact absurd rfl h0
  | cons p l => exact hg p (.head _)
theorem gpt_at {l : List OM.Pt} {i : Nat} {p : OM.Pt} (h : l[i]? = some p) : ((l.flatMap gpC).drop ((i : Int).toNat * 1)).take 1 = denL [.v (.int .i64 p.group)] := flat_at (k := 1) (g := gpC) (fun _ => rfl) h
theorem max1139 {l : List OM.Pt} {a : Option Addr} {cap : Nat} {w : World} (hr : RdS w 3 1 a l.length cap (l.flatMap gpC)) (h0 : 0 < l.length) (hl : l.length ≤ 1000) :
    Pu Tryz.prog 139 #[.slice a l.length cap] w (.int .i64 (mxG l l.length)) := by
  have sa := fun n' r H => Sees.old (c := ⟨Tryz.prog, TB, n', w, noS, r, TBok⟩) (H := H) hr.old
  obtain ⟨p0, hp0⟩ : ∃ p, l[0]? = some p := ⟨_, List.getElem?_eq_getElem h0⟩
  have hone : mxG l 1 = p0.group := by
    cases l with
    | nil => cases hp0
    | cons q l => simp at hp0; subst hp0; exact mxG_one
  refine enter_sound TBok Tryz.func139 rfl rfl Tryz.ntmps139 [.v (.slice a l.length cap)] (Kn.start w noS) rfl rfl ?_
  conv => whnf
  repeat' (first
 | with_reducible ((first | refine r_seq (fun KS hS => ?_) | (refine hS _ _ ?_; clear hS KS) | (refine hB _ ?_; clear hB KB) | refine r_block ?_))
 | ((with_reducible (first | refine r_region ?_ | refine r_cond (fun KA hA KB hB => ?_) | refine r_skip ?_)); conv => whnf)
 | ((with_reducible refine OpK.id ?_); (first | refine OpK.idx (k := 1) rfl rfl rfl rfl rfl rfl rfl (sa _ _ _) (by decide) (by omega) (gpt_at hp0) (fun b off hp => ?_) | refine OpK.ldp rfl rfl hp (List.cons_ne_nil _ _) ?_); conv => whnf)
 | (refine if_decF (by omega) ?_; conv => whnf)
 | with_reducible apply_assumption -symm -exfalso)
  refine r_loop (α := Nat) (fun i => [(0, .v (.slice a l.length cap)), (3, .v (.int .i64 (mxG l i))), (4, .v (.int .i64 (i : Nat)))]) (fun _ => []) (fun i => 1 ≤ i ∧ i ≤ l.length) (fun i => l.length - i) 1 ⟨Nat.le_refl _, h0⟩ (by (try dsimp only); rw [hone]; exact suG) (HSub.none _) ?_
  rintro i ⟨hi1, hi⟩ KL hL
  by_cases hlt : i < l.length
  · obtain ⟨x, hx⟩ : ∃ x, l[i]? = some x := ⟨_, List.getElem?_eq_getElem hlt⟩
    repeat' (first
 | with_reducible ((first | refine r_seq (fun KS hS => ?_) | (refine hS _ _ ?_; clear hS KS) | (refine hA _ ?_; clear hA KA) | refine r_block ?_))
 | ((with_reducible (first | refine r_region ?_ | refine r_cond (fun KA hA KB hB => ?_) | refine r_skip ?_)); conv => whnf)
 | ((with_reducible refine WrapK.i64 ?_ ?_); (focus omega); conv => whnf)
 | ((with_reducible refine OpK.id ?_); (first | refine OpK.idx (k := 1) rfl rfl rfl rfl rfl rfl rfl (sa _ _ _) (by omega) (by omega) (gpt_at hx) (fun b off hp => ?_) | refine OpK.ldp rfl rfl hp (List.cons_ne_nil _ _) ?_ | refine OpK.maxI rfl rfl rfl ?_); conv => whnf)
 | (refine hL (i + 1) _ _ ⟨by omega, by omega⟩ (by show l.length - (i + 1) < l.length - i; omega) (by (try dsimp only); rw [mxG_succ hx]; exact suG) (HSub.none _))
 | (refine if_decT (by omega) ?_; conv => whnf)
 | with_reducible apply_assumption -symm -exfalso)
  · obtain rfl : i = l.length := by omega
    repeat' (first
 | with_reducible ((first | refine r_seq (fun KS hS => ?_) | (refine hS _ _ ?_; clear hS KS) | (refine hB _ ?_; clear hB KB)))
 | ((with_reducible (first | refine r_region ?_ | refine r_cond (fun KA hA KB hB => ?_) | refine r_ret ?_ | refine r_exit ?_)); conv => whnf)
 | (refine if_decF (by omega) ?_; conv => whnf)
 | with_reducible apply_assumption -symm -exfalso)
    exact FinK.pu rfl
theorem mod_last {l : List OM.Mv} {m : OM.Mv} {f : OM.Mv → OM.Mv} : (l ++ [m]).modify l.length f = l ++ [f m] := by
  induction l with
  | nil => rfl
  | cons x l ih => simp only [List.cons_append, List.length_cons, List.modify_succ_cons, ih]
theorem last_at {l : List OM.Mv} {m : OM.Mv} : (l ++ [m])[l.length]? = some m := by simp
theorem carry1_1087 {d : Nat} {o : OM.St} {r : OM.Rg} {fr to : Int}  (hml : o.moves.length < 64) (hr : r.ok = true) (h1 : 1 ≤ fr ∧ fr < o.groups) (h2 : 1 ≤ to ∧ to < o.groups) (hg : o.groups ≤ 8) (h3 : fr ≠ to) (hok : ∀ x ∈ o.moves, x.r.ok = true) (hno : ∀ x ∈ o.moves, x.st ≠ 3 → OM.meets x.r r = false) (w : World) :
    Fr Tryz.prog 87 #[pv d, .agg (denL (mvc ⟨r, fr, to, 1, OM.eps⟩)).toArray] w (AssL [.ext 12 (OrchA d o)]) (.bool true) (AssL [.ext 12 (OrchA d { o with moves := o.moves ++ [⟨r, fr, to, 1, OM.eps⟩] })]) := by
  have hst1104 := fun t w => mstart1104 (t := t) hml hr (by omega) (by omega) h3 hok hno w
  have hl2 : (o.moves ++ [(⟨r, fr, to, 1, OM.eps⟩ : OM.Mv)]).length ≤ 64 := by rw [List.length_append]; show o.moves.length + 1 ≤ 64; omega
  have hgi1106 := fun t w (d : ByteArray) (hd : d.size ≤ 65536) => given1106 (t := t) (i := o.moves.length) (d := d) (last_at (l := o.moves) (m := ⟨r, fr, to, 1, OM.eps⟩)) rfl hd hl2 w
  simp only [mod_last] at hgi1106
  have hl3 : ∀ d : ByteArray, (o.moves ++ [(⟨r, fr, to, 2, d⟩ : OM.Mv)]).length ≤ 64 := fun d => by rw [List.length_append]; show o.moves.length + 1 ≤ 64; omega
  have hta1107 := fun t w (d : ByteArray) => taken1107 (t := t) (i := o.moves.length) (last_at (l := o.moves) (m := ⟨r, fr, to, 2, d⟩)) rfl (hl3 d) w
  simp only [mod_last] at hta1107
  refine enter_fr TBok (H := [.ext 12 (OrchA d o)]) all_foot Tryz.func87 rfl rfl Tryz.ntmps87 [.loc d 0 0, .agg (mvc ⟨r, fr, to, 1, OM.eps⟩)] rfl rfl ?_
  intro S
  conv => whnf
  refine Run.ex (A := orH d o) (i := 12) rmG ?_
  rintro ⟨t1, t2, t3⟩
  dsimp only [orH, layF]
  repeat' (first
 | with_reducible refine r_stop 1 ?_
 | with_reducible ((first | refine r_seq (fun KS hS => ?_) | (refine hS _ _ ?_; clear hS KS)))
 | ((with_reducible (first | refine r_region ?_ | intro b)); conv => whnf))
  refine StopR.mk ?_
  obtain ⟨b3, hb3⟩ : ∃ x, x = b := ⟨b, rfl⟩
  subst hb3
  refine Run.weakenD (E' := [(0, .loc d 0 0), (3, .loc b3 51 0)]) (H' := [.blk 51 b3 [.v (.string r.lo), .v (.string r.hi), .v (.int .i64 fr), .v (.int .i64 to), .v (.int .i64 1), .v (.string OM.eps)] 83, .blk 0 d [.v (.int .i64 o.groups), .v (.int .i64 o.done), .loc t1 20 0, .loc t2 21 0, .loc t3 22 0] 121, .ext 1 (TabA t1 o.sagas), .ext 2 (MvsA t2 o.moves), .ext 3 (PtsA t3 o.parts)]) ?_ sdG seG
  refine r_seq (fun KS2 hS2 => ?_)
  refine r_par (β := Nat) (id := 1) [nq 0 [] (.loc b3 51 2), nq 1 [0] (.v (.int .i64 fr)), nq 2 [] (.loc b3 51 3), nq 3 [2] (.v (.int .i64 to)), nq 4 [1, 3] (.v (.int .i64 (max fr to))), nq 5 [] (.loc d 0 0), nq 6 [5] (.loc d 0 0), nq 7 [6] (.loc d 0 0), nq 8 [7] (.v (.int .i64 o.groups)), nq 9 [4, 8] (.v (.bool (decide (max fr to ≥ o.groups)))), nq 10 [9] (.v (.bool (decide (max fr to ≥ o.groups)))), nq 11 [10] (.loc b3 51 4), nq 12 [11, 10] (.v (.int .i64 1)), nq 13 [12, 10] (.v (.bool false)), nq 14 [10, 13] (.v (.bool false)), nq 15 [14, 10] (.v (.bool false)), nq 16 [15] (.loc b3 51 4), nq 17 [16, 15] (.v (.int .i64 1)), nq 18 [17, 15] (.v (.bool false)), nq 19 [15, 18] (.v (.bool false)), nq 20 [19, 15] (.v (.bool false))] [] 9 [.blk 51 b3 [.v (.string r.lo), .v (.string r.hi), .v (.int .i64 fr), .v (.int .i64 to), .v (.int .i64 1), .v (.string OM.eps)] 83, .blk 0 d [.v (.int .i64 o.groups), .v (.int .i64 o.done), .loc t1 20 0, .loc t2 21 0, .loc t3 22 0] 121, .ext 1 (TabA t1 o.sagas), .ext 2 (MvsA t2 o.moves), .ext 3 (PtsA t3 o.parts)] mixed (by kernel_rfl) (by kernel_rfl) (HSub.refl _) ?_ ?_
  · conv => whnf
    repeat' (first | ((with_reducible refine And.intro ?_ ?_); all_goals (conv => whnf)) | ((with_reducible intro zz2 AA KP hP); conv => whnf))
    repeat' (first
 | ((with_reducible refine And.intro rfl ?_); conv => whnf)
 | ((with_reducible refine OpK.id ?_); refine OpK.maxI rfl rfl rfl ?_; conv => whnf)
 | ((with_reducible apply hP); all_goals (first | exact default | ((repeat' (first | exact SubD.nil | (refine SubD.cons rfl rfl ?_) | (refine SubD.cons rfl (by simp [den]) ?_))); done) | exact seZ))
 | (refine if_decF (by omega) ?_; conv => whnf))
  conv => whnf
  intro zz
  conv => whnf
  try dsimp only
  repeat' (first
 | with_reducible refine r_stop 3 ?_
 | with_reducible (refine hB _ ?_; clear hB KB)
 | ((with_reducible (first | refine r_cond (fun KA hA KB hB => ?_) | refine r_skip ?_ | refine And.intro rfl ?_)); conv => whnf)
 | ((with_reducible ((first | refine InAt.mk (fun K' hK => ?_) | refine AnyAt.mk (fun K' hK => ?_) | (refine hK _ ?_; clear hK K') | (refine hK _ _ ?_; clear hK K')))); conv => whnf)
 | with_reducible apply_assumption -symm -exfalso)
  refine StopR.mk ?_
  refine r_seq (fun KS3 hS3 => ?_)
  refine r_par (β := Nat) (id := 3) [nq 0 [] (.loc d 0 0), nq 1 [0] (.loc d 0 0), nq 2 [1] (.loc d 0 3), nq 3 [2] (.loc t2 21 0), nq 4 [] (.loc b3 51 0), nq 5 [4] (.agg [.v (.string r.lo), .v (.string r.hi)]), nq 6 [] (.loc b3 51 2), nq 7 [6] (.v (.int .i64 fr)), nq 8 [] (.loc b3 51 3), nq 9 [8] (.v (.int .i64 to)), ⟨10, [3, 5, 7, 9], some 100, fun _ _ => .v (.tuple #[.int .i64 ((o.moves.length : Int) + 1), .int .i64 0]), fun _ _ => [.ext 2 (MvsA t2 (o.moves ++ [⟨r, fr, to, 1, OM.eps⟩]))]⟩, nq 11 [10] (.tup [.v (.int .i64 ((o.moves.length : Int) + 1)), .v (.int .i64 0)])] [⟨100, [], none, fun _ _ => .v undef, fun _ _ => [.ext 2 (MvsA t2 o.moves)]⟩] 4 [.blk 51 b3 [.v (.string r.lo), .v (.string r.hi), .v (.int .i64 fr), .v (.int .i64 to), .v (.int .i64 1), .v (.string OM.eps)] 83, .blk 0 d [.v (.int .i64 o.groups), .v (.int .i64 o.done), .loc t1 20 0, .loc t2 21 0, .loc t3 22 0] 121, .ext 1 (TabA t1 o.sagas), .ext 3 (PtsA t3 o.parts)] mixed (by kernel_rfl) (by kernel_rfl) (by show X.HSub [.ext 2 (MvsA t2 o.moves), .blk 51 b3 [.v (.string r.lo), .v (.string r.hi), .v (.int .i64 fr), .v (.int .i64 to), .v (.int .i64 1), .v (.string OM.eps)] 83, .blk 0 d [.v (.int .i64 o.groups), .v (.int .i64 o.done), .loc t1 20 0, .loc t2 21 0, .loc t3 22 0] 121, .ext 1 (TabA t1 o.sagas), .ext 3 (PtsA t3 o.parts)] _; exact seG) ?_ ?_
  · conv => whnf
    repeat' (first | ((with_reducible refine And.intro ?_ ?_); all_goals (conv => whnf)) | ((with_reducible intro zz2 AA KP hP); conv => whnf))
    repeat' (first
 | ((with_reducible refine CallK.id ?_); refine CallK.s1V rmG (fun ms w hk => hst1104 _ w) ?_; conv => whnf)
 | ((with_reducible apply hP); all_goals (first | exact default | ((repeat' (first | exact SubD.nil | (refine SubD.cons rfl rfl ?_) | (refine SubD.cons rfl (by simp [den]) ?_))); done) | exact seZ)))
  conv => whnf
  intro zz3
  conv => whnf
  try dsimp only
  repeat' (first
 | with_reducible ((first | refine r_seq (fun KS hS => ?_) | (refine hS _ _ ?_; clear hS KS) | (refine hB _ ?_; clear hB KB)))
 | ((with_reducible (first | refine r_region ?_ | refine r_cond (fun KA hA KB hB => ?_) | refine r_ret ?_ | refine r_skip ?_ | refine And.intro rfl ?_)); conv => whnf)
 | ((with_reducible ((first | refine InAt.mk (fun K' hK => ?_) | (refine hK _ ?_; clear hK K')))); conv => whnf)
 | with_reducible apply_assumption -symm -exfalso)
  all_goals exact FinK.frL rfl (HSub.trans (or_id (q := 12) (i := 0) (j := 1) (k := 2) (l := 3) (d := d) (s := { o with moves := o.moves ++ [⟨r, fr, to, 1, OM.eps⟩] }) (t1 := t1) (t2 := t2) (t3 := t3)) seG)
theorem carry2_1087 {d : Nat} {o : OM.St} {r : OM.Rg} {fr to : Int} {dt : ByteArray} (hdl : dt.size ≤ 65536) (hml : o.moves.length < 64) (hr : r.ok = true) (h1 : 1 ≤ fr ∧ fr < o.groups) (h2 : 1 ≤ to ∧ to < o.groups) (hg : o.groups ≤ 8) (h3 : fr ≠ to) (hok : ∀ x ∈ o.moves, x.r.ok = true) (hno : ∀ x ∈ o.moves, x.st ≠ 3 → OM.meets x.r r = false) (w : World) :
    Fr Tryz.prog 87 #[pv d, .agg (denL (mvc ⟨r, fr, to, 2, dt⟩)).toArray] w (AssL [.ext 12 (OrchA d o)]) (.bool true) (AssL [.ext 12 (OrchA d { o with moves := o.moves ++ [⟨r, fr, to, 2, dt⟩] })]) := by
  have hst1104 := fun t w => mstart1104 (t := t) hml hr (by omega) (by omega) h3 hok hno w
  have hl2 : (o.moves ++ [(⟨r, fr, to, 1, OM.eps⟩ : OM.Mv)]).length ≤ 64 := by rw [List.length_append]; show o.moves.length + 1 ≤ 64; omega
  have hgi1106 := fun t w (d : ByteArray) (hd : d.size ≤ 65536) => given1106 (t := t) (i := o.moves.length) (d := d) (last_at (l := o.moves) (m := ⟨r, fr, to, 1, OM.eps⟩)) rfl hd hl2 w
  simp only [mod_last] at hgi1106
  have hl3 : ∀ d : ByteArray, (o.moves ++ [(⟨r, fr, to, 2, d⟩ : OM.Mv)]).length ≤ 64 := fun d => by rw [List.length_append]; show o.moves.length + 1 ≤ 64; omega
  have hta1107 := fun t w (d : ByteArray) => taken1107 (t := t) (i := o.moves.length) (last_at (l := o.moves) (m := ⟨r, fr, to, 2, d⟩)) rfl (hl3 d) w
  simp only [mod_last] at hta1107
  refine enter_fr TBok (H := [.ext 12 (OrchA d o)]) all_foot Tryz.func87 rfl rfl Tryz.ntmps87 [.loc d 0 0, .agg (mvc ⟨r, fr, to, 2, dt⟩)] rfl rfl ?_
  intro S
  conv => whnf
  refine Run.ex (A := orH d o) (i := 12) rmG ?_
  rintro ⟨t1, t2, t3⟩
  dsimp only [orH, layF]
  repeat' (first
 | with_reducible refine r_stop 1 ?_
 | with_reducible ((first | refine r_seq (fun KS hS => ?_) | (refine hS _ _ ?_; clear hS KS)))
 | ((with_reducible (first | refine r_region ?_ | intro b)); conv => whnf))
  refine StopR.mk ?_
  obtain ⟨b3, hb3⟩ : ∃ x, x = b := ⟨b, rfl⟩
  subst hb3
  refine Run.weakenD (E' := [(0, .loc d 0 0), (3, .loc b3 51 0)]) (H' := [.blk 51 b3 [.v (.string r.lo), .v (.string r.hi), .v (.int .i64 fr), .v (.int .i64 to), .v (.int .i64 2), .v (.string dt)] 83, .blk 0 d [.v (.int .i64 o.groups), .v (.int .i64 o.done), .loc t1 20 0, .loc t2 21 0, .loc t3 22 0] 121, .ext 1 (TabA t1 o.sagas), .ext 2 (MvsA t2 o.moves), .ext 3 (PtsA t3 o.parts)]) ?_ sdG seG
  refine r_seq (fun KS2 hS2 => ?_)
  refine r_par (β := Nat) (id := 1) [nq 0 [] (.loc b3 51 2), nq 1 [0] (.v (.int .i64 fr)), nq 2 [] (.loc b3 51 3), nq 3 [2] (.v (.int .i64 to)), nq 4 [1, 3] (.v (.int .i64 (max fr to))), nq 5 [] (.loc d 0 0), nq 6 [5] (.loc d 0 0), nq 7 [6] (.loc d 0 0), nq 8 [7] (.v (.int .i64 o.groups)), nq 9 [4, 8] (.v (.bool (decide (max fr to ≥ o.groups)))), nq 10 [9] (.v (.bool (decide (max fr to ≥ o.groups)))), nq 11 [10] (.loc b3 51 4), nq 12 [11, 10] (.v (.int .i64 2)), nq 13 [12, 10] (.v (.bool false)), nq 14 [10, 13] (.v (.bool false)), nq 15 [14, 10] (.v (.bool false)), nq 16 [15] (.loc b3 51 4), nq 17 [16, 15] (.v (.int .i64 2)), nq 18 [17, 15] (.v (.bool false)), nq 19 [15, 18] (.v (.bool false)), nq 20 [19, 15] (.v (.bool false))] [] 9 [.blk 51 b3 [.v (.string r.lo), .v (.string r.hi), .v (.int .i64 fr), .v (.int .i64 to), .v (.int .i64 2), .v (.string dt)] 83, .blk 0 d [.v (.int .i64 o.groups), .v (.int .i64 o.done), .loc t1 20 0, .loc t2 21 0, .loc t3 22 0] 121, .ext 1 (TabA t1 o.sagas), .ext 2 (MvsA t2 o.moves), .ext 3 (PtsA t3 o.parts)] mixed (by kernel_rfl) (by kernel_rfl) (HSub.refl _) ?_ ?_
  · conv => whnf
    repeat' (first | ((with_reducible refine And.intro ?_ ?_); all_goals (conv => whnf)) | ((with_reducible intro zz2 AA KP hP); conv => whnf))
    repeat' (first
 | ((with_reducible refine And.intro rfl ?_); conv => whnf)
 | ((with_reducible refine OpK.id ?_); refine OpK.maxI rfl rfl rfl ?_; conv => whnf)
 | ((with_reducible apply hP); all_goals (first | exact default | ((repeat' (first | exact SubD.nil | (refine SubD.cons rfl rfl ?_) | (refine SubD.cons rfl (by simp [den]) ?_))); done) | exact seZ))
 | (refine if_decF (by omega) ?_; conv => whnf))
  conv => whnf
  intro zz
  conv => whnf
  try dsimp only
  repeat' (first
 | with_reducible refine r_stop 3 ?_
 | with_reducible (refine hB _ ?_; clear hB KB)
 | ((with_reducible (first | refine r_cond (fun KA hA KB hB => ?_) | refine r_skip ?_ | refine And.intro rfl ?_)); conv => whnf)
 | ((with_reducible ((first | refine InAt.mk (fun K' hK => ?_) | refine AnyAt.mk (fun K' hK => ?_) | (refine hK _ ?_; clear hK K') | (refine hK _ _ ?_; clear hK K')))); conv => whnf)
 | with_reducible apply_assumption -symm -exfalso)
  refine StopR.mk ?_
  refine r_seq (fun KS3 hS3 => ?_)
  refine r_par (β := Nat) (id := 3) [nq 0 [] (.loc d 0 0), nq 1 [0] (.loc d 0 0), nq 2 [1] (.loc d 0 3), nq 3 [2] (.loc t2 21 0), nq 4 [] (.loc b3 51 0), nq 5 [4] (.agg [.v (.string r.lo), .v (.string r.hi)]), nq 6 [] (.loc b3 51 2), nq 7 [6] (.v (.int .i64 fr)), nq 8 [] (.loc b3 51 3), nq 9 [8] (.v (.int .i64 to)), ⟨10, [3, 5, 7, 9], some 100, fun _ _ => .v (.tuple #[.int .i64 ((o.moves.length : Int) + 1), .int .i64 0]), fun _ _ => [.ext 2 (MvsA t2 (o.moves ++ [⟨r, fr, to, 1, OM.eps⟩]))]⟩, nq 11 [10] (.tup [.v (.int .i64 ((o.moves.length : Int) + 1)), .v (.int .i64 0)])] [⟨100, [], none, fun _ _ => .v undef, fun _ _ => [.ext 2 (MvsA t2 o.moves)]⟩] 4 [.blk 51 b3 [.v (.string r.lo), .v (.string r.hi), .v (.int .i64 fr), .v (.int .i64 to), .v (.int .i64 2), .v (.string dt)] 83, .blk 0 d [.v (.int .i64 o.groups), .v (.int .i64 o.done), .loc t1 20 0, .loc t2 21 0, .loc t3 22 0] 121, .ext 1 (TabA t1 o.sagas), .ext 3 (PtsA t3 o.parts)] mixed (by kernel_rfl) (by kernel_rfl) (by show X.HSub [.ext 2 (MvsA t2 o.moves), .blk 51 b3 [.v (.string r.lo), .v (.string r.hi), .v (.int .i64 fr), .v (.int .i64 to), .v (.int .i64 2), .v (.string dt)] 83, .blk 0 d [.v (.int .i64 o.groups), .v (.int .i64 o.done), .loc t1 20 0, .loc t2 21 0, .loc t3 22 0] 121, .ext 1 (TabA t1 o.sagas), .ext 3 (PtsA t3 o.parts)] _; exact seG) ?_ ?_
  · conv => whnf
    repeat' (first | ((with_reducible refine And.intro ?_ ?_); all_goals (conv => whnf)) | ((with_reducible intro zz2 AA KP hP); conv => whnf))
    repeat' (first
 | ((with_reducible refine CallK.id ?_); refine CallK.s1V rmG (fun ms w hk => hst1104 _ w) ?_; conv => whnf)
 | ((with_reducible apply hP); all_goals (first | exact default | ((repeat' (first | exact SubD.nil | (refine SubD.cons rfl rfl ?_) | (refine SubD.cons rfl (by simp [den]) ?_))); done) | exact seZ)))
  conv => whnf
  intro zz3
  conv => whnf
  try dsimp only
  repeat' (first
 | with_reducible ((first | refine r_seq (fun KS hS => ?_) | (refine hS _ _ ?_; clear hS KS) | (refine hA _ ?_; clear hA KA) | (refine hB _ ?_; clear hB KB)))
 | ((with_reducible (first | refine r_region ?_ | refine r_cond (fun KA hA KB hB => ?_) | refine r_ret ?_ | refine r_skip ?_ | refine And.intro rfl ?_)); conv => whnf)
 | (apply r_split 7 (id := 5); refine mixed; kernel_rfl; kernel_rfl; kernel_rfl; intro K' hK; conv => whnf)
 | ((with_reducible refine CallK.id ?_); refine CallK.s1V rmG (fun ms w hk => hgi1106 _ w _ hdl) ?_; conv => whnf)
 | ((with_reducible ((first | refine InAt.mk (fun K' hK => ?_) | refine AnyAt.mk (fun K' hK => ?_) | (refine hK _ ?_; clear hK K') | (refine hK _ _ ?_; clear hK K')))); conv => whnf)
 | with_reducible apply_assumption -symm -exfalso)
  all_goals exact FinK.frL rfl (HSub.trans (or_id (q := 12) (i := 0) (j := 1) (k := 2) (l := 3) (d := d) (s := { o with moves := o.moves ++ [⟨r, fr, to, 2, dt⟩] }) (t1 := t1) (t2 := t2) (t3 := t3)) seG)
theorem carry3_1087 {d : Nat} {o : OM.St} {r : OM.Rg} {fr to : Int}  (hml : o.moves.length < 64) (hr : r.ok = true) (h1 : 1 ≤ fr ∧ fr < o.groups) (h2 : 1 ≤ to ∧ to < o.groups) (hg : o.groups ≤ 8) (h3 : fr ≠ to) (hok : ∀ x ∈ o.moves, x.r.ok = true) (hno : ∀ x ∈ o.moves, x.st ≠ 3 → OM.meets x.r r = false) (w : World) :
    Fr Tryz.prog 87 #[pv d, .agg (denL (mvc ⟨r, fr, to, 3, OM.eps⟩)).toArray] w (AssL [.ext 12 (OrchA d o)]) (.bool true) (AssL [.ext 12 (OrchA d { o with moves := o.moves ++ [⟨r, fr, to, 3, OM.eps⟩] })]) := by
  have hst1104 := fun t w => mstart1104 (t := t) hml hr (by omega) (by omega) h3 hok hno w
  have hl2 : (o.moves ++ [(⟨r, fr, to, 1, OM.eps⟩ : OM.Mv)]).length ≤ 64 := by rw [List.length_append]; show o.moves.length + 1 ≤ 64; omega
  have hgi1106 := fun t w (d : ByteArray) (hd : d.size ≤ 65536) => given1106 (t := t) (i := o.moves.length) (d := d) (last_at (l := o.moves) (m := ⟨r, fr, to, 1, OM.eps⟩)) rfl hd hl2 w
  simp only [mod_last] at hgi1106
  have hl3 : ∀ d : ByteArray, (o.moves ++ [(⟨r, fr, to, 2, d⟩ : OM.Mv)]).length ≤ 64 := fun d => by rw [List.length_append]; show o.moves.length + 1 ≤ 64; omega
  have hta1107 := fun t w (d : ByteArray) => taken1107 (t := t) (i := o.moves.length) (last_at (l := o.moves) (m := ⟨r, fr, to, 2, d⟩)) rfl (hl3 d) w
  simp only [mod_last] at hta1107
  refine enter_fr TBok (H := [.ext 12 (OrchA d o)]) all_foot Tryz.func87 rfl rfl Tryz.ntmps87 [.loc d 0 0, .agg (mvc ⟨r, fr, to, 3, OM.eps⟩)] rfl rfl ?_
  intro S
  conv => whnf
  refine Run.ex (A := orH d o) (i := 12) rmG ?_
  rintro ⟨t1, t2, t3⟩
  dsimp only [orH, layF]
  repeat' (first
 | with_reducible refine r_stop 1 ?_
 | with_reducible ((first | refine r_seq (fun KS hS => ?_) | (refine hS _ _ ?_; clear hS KS)))
 | ((with_reducible (first | refine r_region ?_ | intro b)); conv => whnf))
  refine StopR.mk ?_
  obtain ⟨b3, hb3⟩ : ∃ x, x = b := ⟨b, rfl⟩
  subst hb3
  refine Run.weakenD (E' := [(0, .loc d 0 0), (3, .loc b3 51 0)]) (H' := [.blk 51 b3 [.v (.string r.lo), .v (.string r.hi), .v (.int .i64 fr), .v (.int .i64 to), .v (.int .i64 3), .v (.string OM.eps)] 83, .blk 0 d [.v (.int .i64 o.groups), .v (.int .i64 o.done), .loc t1 20 0, .loc t2 21 0, .loc t3 22 0] 121, .ext 1 (TabA t1 o.sagas), .ext 2 (MvsA t2 o.moves), .ext 3 (PtsA t3 o.parts)]) ?_ sdG seG
  refine r_seq (fun KS2 hS2 => ?_)
  refine r_par (β := Nat) (id := 1) [nq 0 [] (.loc b3 51 2), nq 1 [0] (.v (.int .i64 fr)), nq 2 [] (.loc b3 51 3), nq 3 [2] (.v (.int .i64 to)), nq 4 [1, 3] (.v (.int .i64 (max fr to))), nq 5 [] (.loc d 0 0), nq 6 [5] (.loc d 0 0), nq 7 [6] (.loc d 0 0), nq 8 [7] (.v (.int .i64 o.groups)), nq 9 [4, 8] (.v (.bool (decide (max fr to ≥ o.groups)))), nq 10 [9] (.v (.bool (decide (max fr to ≥ o.groups)))), nq 11 [10] (.loc b3 51 4), nq 12 [11, 10] (.v (.int .i64 3)), nq 13 [12, 10] (.v (.bool false)), nq 14 [10, 13] (.v (.bool false)), nq 15 [14, 10] (.v (.bool false)), nq 16 [15] (.loc b3 51 4), nq 17 [16, 15] (.v (.int .i64 3)), nq 18 [17, 15] (.v (.bool false)), nq 19 [15, 18] (.v (.bool false)), nq 20 [19, 15] (.v (.bool false))] [] 9 [.blk 51 b3 [.v (.string r.lo), .v (.string r.hi), .v (.int .i64 fr), .v (.int .i64 to), .v (.int .i64 3), .v (.string OM.eps)] 83, .blk 0 d [.v (.int .i64 o.groups), .v (.int .i64 o.done), .loc t1 20 0, .loc t2 21 0, .loc t3 22 0] 121, .ext 1 (TabA t1 o.sagas), .ext 2 (MvsA t2 o.moves), .ext 3 (PtsA t3 o.parts)] mixed (by kernel_rfl) (by kernel_rfl) (HSub.refl _) ?_ ?_
  · conv => whnf
    repeat' (first | ((with_reducible refine And.intro ?_ ?_); all_goals (conv => whnf)) | ((with_reducible intro zz2 AA KP hP); conv => whnf))
    repeat' (first
 | ((with_reducible refine And.intro rfl ?_); conv => whnf)
 | ((with_reducible refine OpK.id ?_); refine OpK.maxI rfl rfl rfl ?_; conv => whnf)
 | ((with_reducible apply hP); all_goals (first | exact default | ((repeat' (first | exact SubD.nil | (refine SubD.cons rfl rfl ?_) | (refine SubD.cons rfl (by simp [den]) ?_))); done) | exact seZ))
 | (refine if_decF (by omega) ?_; conv => whnf))
  conv => whnf
  intro zz
  conv => whnf
  try dsimp only
  repeat' (first
 | with_reducible refine r_stop 3 ?_
 | with_reducible (refine hB _ ?_; clear hB KB)
 | ((with_reducible (first | refine r_cond (fun KA hA KB hB => ?_) | refine r_skip ?_ | refine And.intro rfl ?_)); conv => whnf)
 | ((with_reducible ((first | refine InAt.mk (fun K' hK => ?_) | refine AnyAt.mk (fun K' hK => ?_) | (refine hK _ ?_; clear hK K') | (refine hK _ _ ?_; clear hK K')))); conv => whnf)
 | with_reducible apply_assumption -symm -exfalso)
  refine StopR.mk ?_
  refine r_seq (fun KS3 hS3 => ?_)
  refine r_par (β := Nat) (id := 3) [nq 0 [] (.loc d 0 0), nq 1 [0] (.loc d 0 0), nq 2 [1] (.loc d 0 3), nq 3 [2] (.loc t2 21 0), nq 4 [] (.loc b3 51 0), nq 5 [4] (.agg [.v (.string r.lo), .v (.string r.hi)]), nq 6 [] (.loc b3 51 2), nq 7 [6] (.v (.int .i64 fr)), nq 8 [] (.loc b3 51 3), nq 9 [8] (.v (.int .i64 to)), ⟨10, [3, 5, 7, 9], some 100, fun _ _ => .v (.tuple #[.int .i64 ((o.moves.length : Int) + 1), .int .i64 0]), fun _ _ => [.ext 2 (MvsA t2 (o.moves ++ [⟨r, fr, to, 1, OM.eps⟩]))]⟩, nq 11 [10] (.tup [.v (.int .i64 ((o.moves.length : Int) + 1)), .v (.int .i64 0)])] [⟨100, [], none, fun _ _ => .v undef, fun _ _ => [.ext 2 (MvsA t2 o.moves)]⟩] 4 [.blk 51 b3 [.v (.string r.lo), .v (.string r.hi), .v (.int .i64 fr), .v (.int .i64 to), .v (.int .i64 3), .v (.string OM.eps)] 83, .blk 0 d [.v (.int .i64 o.groups), .v (.int .i64 o.done), .loc t1 20 0, .loc t2 21 0, .loc t3 22 0] 121, .ext 1 (TabA t1 o.sagas), .ext 3 (PtsA t3 o.parts)] mixed (by kernel_rfl) (by kernel_rfl) (by show X.HSub [.ext 2 (MvsA t2 o.moves), .blk 51 b3 [.v (.string r.lo), .v (.string r.hi), .v (.int .i64 fr), .v (.int .i64 to), .v (.int .i64 3), .v (.string OM.eps)] 83, .blk 0 d [.v (.int .i64 o.groups), .v (.int .i64 o.done), .loc t1 20 0, .loc t2 21 0, .loc t3 22 0] 121, .ext 1 (TabA t1 o.sagas), .ext 3 (PtsA t3 o.parts)] _; exact seG) ?_ ?_
  · conv => whnf
    repeat' (first | ((with_reducible refine And.intro ?_ ?_); all_goals (conv => whnf)) | ((with_reducible intro zz2 AA KP hP); conv => whnf))
    repeat' (first
 | ((with_reducible refine CallK.id ?_); refine CallK.s1V rmG (fun ms w hk => hst1104 _ w) ?_; conv => whnf)
 | ((with_reducible apply hP); all_goals (first | exact default | ((repeat' (first | exact SubD.nil | (refine SubD.cons rfl rfl ?_) | (refine SubD.cons rfl (by simp [den]) ?_))); done) | exact seZ)))
  conv => whnf
  intro zz3
  conv => whnf
  try dsimp only
  repeat' (first
 | with_reducible ((first | refine r_seq (fun KS hS => ?_) | (refine hS _ _ ?_; clear hS KS) | (refine hA _ ?_; clear hA KA)))
 | ((with_reducible (first | refine r_region ?_ | refine r_cond (fun KA hA KB hB => ?_) | refine r_ret ?_ | refine And.intro rfl ?_)); conv => whnf)
 | (apply r_split 7 (id := 5); refine mixed; kernel_rfl; kernel_rfl; kernel_rfl; intro K' hK; conv => whnf)
 | ((with_reducible refine CallK.id ?_); (first | refine CallK.s1V rmG (fun ms w hk => hgi1106 _ w _ (by decide)) ?_ | refine CallK.s1V rmG (fun ms w hk => hta1107 _ w _) ?_); conv => whnf)
 | ((with_reducible ((first | refine InAt.mk (fun K' hK => ?_) | refine AnyAt.mk (fun K' hK => ?_) | (refine hK _ ?_; clear hK K') | (refine hK _ _ ?_; clear hK K')))); conv => whnf)
 | with_reducible apply_assumption -symm -exfalso)
  all_goals exact FinK.frL rfl (HSub.trans (or_id (q := 12) (i := 0) (j := 1) (k := 2) (l := 3) (d := d) (s := { o with moves := o.moves ++ [⟨r, fr, to, 3, OM.eps⟩] }) (t1 := t1) (t2 := t2) (t3 := t3)) seG)
structure Car (g : Int) (l : List OM.Mv) (m : OM.Mv) : Prop where
  len : l.length < 64
  r : m.r.ok = true
  fr : 1 ≤ m.fr ∧ m.fr < g
  to : 1 ≤ m.to ∧ m.to < g
  ne : m.fr ≠ m.to
  st : 1 ≤ m.st ∧ m.st ≤ 3
  dat : m.st ≠ 2 → m.data = OM.eps
  siz : m.data.size ≤ 65536
  ok : ∀ x ∈ l, x.r.ok = true
  no : ∀ x ∈ l, x.st ≠ 3 → OM.meets x.r m.r = false
theorem carry1087 {d : Nat} {o : OM.St} {m : OM.Mv} (hg : o.groups ≤ 8) (h : Car o.groups o.moves m) (w : World) :
    Fr Tryz.prog 87 #[pv d, .agg (denL (mvc m)).toArray] w (AssL [.ext 12 (OrchA d o)]) (.bool true) (AssL [.ext 12 (OrchA d { o with moves := o.moves ++ [m] })]) := by
  obtain ⟨r, fr, to, st, dt⟩ := m
  obtain ⟨h1, h2, h3, h4, h5, h6, h7, h8, h9, h10⟩ := h
  dsimp only at *
  have hc : st = 1 ∨ st = 2 ∨ st = 3 := by omega
  rcases hc with rfl | rfl | rfl
  · obtain rfl := h7 (by decide)
    exact carry1_1087 h1 h2 h3 h4 hg h5 h9 h10 w
  · exact carry2_1087 h8 h1 h2 h3 h4 hg h5 h9 h10 w
  · obtain rfl := h7 (by decide)
    exact carry3_1087 h1 h2 h3 h4 hg h5 h9 h10 w
theorem car1086 {bo d : Nat} {o : OM.St} {m : OM.Mv} (hg : o.groups ≤ 8) (h : Car o.groups o.moves m) (w : World) :
    Fr Tryz.prog 86 #[.agg (denL (mvc m)).toArray, pv bo] w (AssL [.blk 16 bo [.v (pv d)] 23, .ext 12 (OrchA d o)]) (.bool false) (AssL [.blk 16 bo [.v (pv d)] 23, .ext 12 (OrchA d { o with moves := o.moves ++ [m] })]) := by
  have hca1087 := fun w => carry1087 (d := d) hg h w
  refine enter_fr TBok (H := [.blk 16 bo [.v (pv d)] 23, .ext 12 (OrchA d o)]) all_foot Tryz.func86 rfl rfl Tryz.ntmps86 [.agg (mvc m), .loc bo 16 0] rfl rfl ?_
  intro S
  conv => whnf
  repeat' (first
 | with_reducible ((first | refine r_seq (fun KS hS => ?_) | (refine hS _ _ ?_; clear hS KS)))
 | ((with_reducible (first | refine r_region ?_ | refine r_ret ?_ | refine And.intro rfl ?_ | intro b)); conv => whnf)
 | ((with_reducible refine CallK.id ?_); refine CallK.s1V rmG (fun ms w hk => hca1087 w) ?_; conv => whnf))
  all_goals exact FinK.frL rfl seG
abbrev moB (bo d : Nat) (o : OM.St) (L : List OM.Mv) (a : Option Addr) (cap : Nat) : List Blk := [.ext 22 (SlA 83 6 a L.length cap (L.flatMap mvC)), .blk 16 bo [.v (pv d)] 23, .ext 12 (OrchA d o)]
theorem carIx1068 {bo d : Nat} {o : OM.St} {L : List OM.Mv} {a : Option Addr} {cap : Nat} (hg : o.groups ≤ 8) (hml : L.length ≤ 64) (h0 : o.moves = []) (hc : ∀ i m, L[i]? = some m → Car o.groups (L.take i) m) (w : World) :
    Fr Tryz.prog 68 #[.slice a L.length cap, .func (.func 86) #[] #[pv bo]] w (AssL (moB bo d o L a cap)) (.int .i64 (-1)) (AssL (moB bo d { o with moves := L } L a cap)) := by
  refine enter_fr TBok (H := moB bo d o L a cap) all_foot Tryz.func68 rfl rfl Tryz.ntmps68 [.v (.slice a L.length cap), .fn 86 [.loc bo 16 0]] rfl rfl ?_
  intro S
  conv => whnf
  repeat' (first
 | with_reducible ((first | refine r_seq (fun KS hS => ?_) | (refine hS _ _ ?_; clear hS KS) | refine r_block ?_))
 | ((with_reducible refine r_region ?_); conv => whnf))
  refine r_loop (α := Nat) (fun i => [(0, .v (.slice a L.length cap)), (1, .fn 86 [.loc bo 16 0]), (7, .v (.int .i64 (L.length : Nat))), (8, .v (.int .i64 (i : Nat)))]) (fun i => moB bo d { o with moves := L.take i } L a cap) (fun i => i ≤ L.length) (fun i => L.length - i) 0 (Nat.zero_le _) suG (by
    have e : ({ o with moves := L.take 0 } : OM.St) = o := by obtain ⟨g, dn, sg, mv, pt⟩ := o; dsimp only at h0; subst h0; rfl
    (try dsimp only); rw [e]; exact seG) ?_
  intro i hi KL hL
  by_cases hlt : i < L.length
  · obtain ⟨x, hx⟩ : ∃ x, L[i]? = some x := ⟨_, List.getElem?_eq_getElem hlt⟩
    have hcar := hc i x hx
    have hcl1086 := fun w => car1086 (bo := bo) (d := d) (o := { o with moves := L.take i }) (m := x) hg hcar w
    have ht : L.take i ++ [x] = L.take (i + 1) := by rw [List.take_succ, hx]; rfl
    simp only [ht] at hcl1086
    repeat' (first
 | with_reducible ((first | refine r_seq (fun KS hS => ?_) | (refine hS _ _ ?_; clear hS KS) | (refine hA _ ?_; clear hA KA) | (refine hB _ ?_; clear hB KB) | refine r_block ?_))
 | ((with_reducible (first | refine r_region ?_ | refine r_cond (fun KA hA KB hB => ?_) | refine r_skip ?_)); conv => whnf)
 | ((with_reducible refine WrapK.i64 ?_ ?_); (focus omega); conv => whnf)
 | ((with_reducible refine OpK.id ?_); (first | refine OpK.idx (k := 6) rfl rfl rfl rfl rfl rfl rfl (Sees.ext atG) (by omega) (by omega) (mv_at hx) (fun b off hp => ?_) | refine OpK.ldp rfl rfl hp (List.cons_ne_nil _ _) ?_); conv => whnf)
 | ((with_reducible refine CallK.id ?_); refine CallK.selV (by apply Sel.cons; (case h => exact rmG); apply Sel.cons; (case h => exact rmG); exact Sel.nil) (fun ms w hk => hcl1086 w) ?_; dsimp only [layF]; conv => whnf)
 | (refine hL (i + 1) _ _ (by show i + 1 ≤ _; omega) (by show L.length - (i + 1) < L.length - i; omega) suG seG)
 | (refine if_decT (by omega) ?_; conv => whnf)
 | with_reducible apply_assumption -symm -exfalso)
  · obtain rfl : i = L.length := by omega
    rw [List.take_length]
    repeat' (first
 | with_reducible ((first | refine r_seq (fun KS hS => ?_) | (refine hS _ _ ?_; clear hS KS) | (refine hB _ ?_; clear hB KB)))
 | ((with_reducible (first | refine r_region ?_ | refine r_cond (fun KA hA KB hB => ?_) | refine r_ret ?_ | refine r_exit ?_)); conv => whnf)
 | (refine if_decF (by omega) ?_; conv => whnf)
 | with_reducible apply_assumption -symm -exfalso)
    all_goals exact FinK.frL rfl seG
theorem carAll1026 {bo d : Nat} {o : OM.St} {L : List OM.Mv} {a : Option Addr} {cap : Nat} (hg : o.groups ≤ 8) (hml : L.length ≤ 64) (h0 : o.moves = []) (hc : ∀ i m, L[i]? = some m → Car o.groups (L.take i) m) (w : World) :
    Fr Tryz.prog 26 #[.slice a L.length cap, .func (.func 86) #[] #[pv bo]] w (AssL (moB bo d o L a cap)) (.bool false) (AssL (moB bo d { o with moves := L } L a cap)) := by
  refine enter_fr TBok (H := moB bo d o L a cap) all_foot Tryz.func26 rfl rfl Tryz.ntmps26 [.v (.slice a L.length cap), .fn 86 [.loc bo 16 0]] rfl rfl ?_
  intro S
  conv => whnf
  repeat' (first
 | with_reducible ((first | refine r_seq (fun KS hS => ?_) | (refine hS _ _ ?_; clear hS KS)))
 | ((with_reducible (first | refine r_region ?_ | refine r_ret ?_)); conv => whnf)
 | ((with_reducible refine CallK.id ?_); refine CallK.selV (by apply Sel.cons; (case h => exact rmG); apply Sel.cons; (case h => exact rmG); apply Sel.cons; (case h => exact rmG); exact Sel.nil) (fun ms w hk => carIx1068 hg hml h0 hc w) ?_; dsimp only [layF]; conv => whnf))
  all_goals exact FinK.frL rfl seG
theorem sok3 : SOk Tryz.prog [29, 31, 33, 34, 37, 80, 143, 149] := sokB_spec (by kernel_rfl)
theorem prg_at {l : List OM.Pt} {i : Nat} {p : OM.Pt} (h : l[i]? = some p) : ((l.flatMap rgC).drop ((i : Int).toNat * 2)).take 2 = denL [.v (.string p.r.lo), .v (.string p.r.hi)] := flat_at (k := 2) (g := rgC) (fun _ => rfl) h
theorem gp_at {l : List OM.Pt} {i : Nat} {p : OM.Pt} (h : l[i]? = some p) : ((l.flatMap gpC).drop ((i : Int).toNat * 1)).take 1 = denL [.v (.int .i64 p.group)] := flat_at (k := 1) (g := gpC) (fun _ => rfl) h
theorem ec_at {l : List OM.Pt} {i : Nat} {p : OM.Pt} (h : l[i]? = some p) : ((l.flatMap ecC).drop ((i : Int).toNat * 1)).take 1 = denL [.v (.int .i64 p.epoch)] := flat_at (k := 1) (g := ecC) (fun _ => rfl) h
theorem eqMv1079 {L : List OM.Mv} {a a' : Option Addr} {cap cap' : Nat} {w : World} (hr : RdS w 149 6 a L.length cap (L.flatMap mvC)) (hr' : RdS w 149 6 a' L.length cap' (L.flatMap mvC)) (hl : L.length ≤ 1000) :
    Pu Tryz.prog 79 #[.slice a L.length cap, .slice a' L.length cap'] w (.bool true) := by
  have sa := fun n' r H => Sees.old (c := ⟨Tryz.prog, TB, n', w, noS, r, TBok⟩) (H := H) hr.old
  have sb := fun n' r H => Sees.old (c := ⟨Tryz.prog, TB, n', w, noS, r, TBok⟩) (H := H) hr'.old
  refine enter_sound TBok Tryz.func79 rfl rfl Tryz.ntmps79 [.v (.slice a L.length cap), .v (.slice a' L.length cap')] (Kn.start w noS) rfl rfl ?_
  conv => whnf
  repeat' (first
 | with_reducible ((first | refine r_seq (fun KS hS => ?_) | (refine hS _ _ ?_; clear hS KS) | (refine hB _ ?_; clear hB KB) | refine r_block ?_))
 | ((with_reducible (first | refine r_region ?_ | refine r_cond (fun KA hA KB hB => ?_) | refine r_skip ?_)); conv => whnf)
 | (refine if_ndecF (by omega) ?_; conv => whnf)
 | with_reducible apply_assumption -symm -exfalso)
  refine r_loop (α := Nat) (fun i => [(13, .v (.int .i64 (i : Nat))), (12, .v (.int .i64 L.length)), (0, .v (.slice a L.length cap)), (1, .v (.slice a' L.length cap'))]) (fun _ => []) (fun i => i ≤ L.length) (fun i => L.length - i) 0 (Nat.zero_le _) suG (HSub.none _) ?_
  intro i hi KL hL
  by_cases hlt : i < L.length
  · obtain ⟨y, hy⟩ : ∃ y, L[i]? = some y := ⟨_, List.getElem?_eq_getElem hlt⟩
    repeat' (first
 | with_reducible ((first | refine r_seq (fun KS hS => ?_) | (refine hS _ _ ?_; clear hS KS) | (refine hA _ ?_; clear hA KA) | (refine hB _ ?_; clear hB KB) | refine r_block ?_))
 | ((with_reducible (first | refine r_region ?_ | refine r_cond (fun KA hA KB hB => ?_) | refine r_skip ?_)); conv => whnf)
 | ((with_reducible refine WrapK.i64 ?_ ?_); (focus omega); conv => whnf)
 | ((with_reducible refine QK.id ?_); (first | refine QK.idx (k := 6) rfl rfl rfl rfl rfl rfl rfl (sa _ _ _) (by omega) (by omega) (mv_at hy) (fun b off hp => ?_) | refine QK.idx (k := 6) rfl rfl rfl rfl rfl rfl rfl (sb _ _ _) (by omega) (by omega) (mv_at hy) (fun b off hp => ?_) | refine QK.ldp rfl rfl hp (List.cons_ne_nil _ _) ?_); conv => whnf)
 | ((with_reducible refine IK.id ?_); refine IK.neqV sok3 rfl rfl rfl ?_; conv => whnf)
 | (((refine if_f ?_ ?_); (focus (simp only [eq_self, decide_true, Bool.and_true, Bool.and_self, Bool.not_true, beq_self_eq_true] <;> fail)); conv => whnf))
 | (refine hL (i + 1) _ _ (by show i + 1 ≤ _; omega) (by show L.length - (i + 1) < L.length - i; omega) suG (HSub.none _))
 | (apply r_quiet; refine mixed; kernel_rfl; kernel_rfl; kernel_rfl; conv => whnf)
 | (refine if_decT (by omega) ?_; conv => whnf)
 | with_reducible apply_assumption -symm -exfalso)
  · obtain rfl : i = L.length := by omega
    repeat' (first
 | with_reducible ((first | refine r_seq (fun KS hS => ?_) | (refine hS _ _ ?_; clear hS KS) | (refine hB _ ?_; clear hB KB)))
 | ((with_reducible (first | refine r_region ?_ | refine r_cond (fun KA hA KB hB => ?_) | refine r_ret ?_ | refine r_exit ?_)); conv => whnf)
 | (refine if_decF (by omega) ?_; conv => whnf)
 | with_reducible apply_assumption -symm -exfalso)
    exact FinK.pu rfl
theorem eqRg1080 {L : List OM.Pt} {a a' : Option Addr} {cap cap' : Nat} {w : World} (hr : RdS w 37 2 a L.length cap (L.flatMap rgC)) (hr' : RdS w 37 2 a' L.length cap' (L.flatMap rgC)) (hl : L.length ≤ 1000) :
    Pu Tryz.prog 80 #[.slice a L.length cap, .slice a' L.length cap'] w (.bool true) := by
  have sa := fun n' r H => Sees.old (c := ⟨Tryz.prog, TB, n', w, noS, r, TBok⟩) (H := H) hr.old
  have sb := fun n' r H => Sees.old (c := ⟨Tryz.prog, TB, n', w, noS, r, TBok⟩) (H := H) hr'.old
  refine enter_sound TBok Tryz.func80 rfl rfl Tryz.ntmps80 [.v (.slice a L.length cap), .v (.slice a' L.length cap')] (Kn.start w noS) rfl rfl ?_
  conv => whnf
  repeat' (first
 | with_reducible ((first | refine r_seq (fun KS hS => ?_) | (refine hS _ _ ?_; clear hS KS) | (refine hB _ ?_; clear hB KB) | refine r_block ?_))
 | ((with_reducible (first | refine r_region ?_ | refine r_cond (fun KA hA KB hB => ?_) | refine r_skip ?_)); conv => whnf)
 | (refine if_ndecF (by omega) ?_; conv => whnf)
 | with_reducible apply_assumption -symm -exfalso)
  refine r_loop (α := Nat) (fun i => [(13, .v (.int .i64 (i : Nat))), (12, .v (.int .i64 L.length)), (0, .v (.slice a L.length cap)), (1, .v (.slice a' L.length cap'))]) (fun _ => []) (fun i => i ≤ L.length) (fun i => L.length - i) 0 (Nat.zero_le _) suG (HSub.none _) ?_
  intro i hi KL hL
  by_cases hlt : i < L.length
  · obtain ⟨y, hy⟩ : ∃ y, L[i]? = some y := ⟨_, List.getElem?_eq_getElem hlt⟩
    repeat' (first
 | with_reducible ((first | refine r_seq (fun KS hS => ?_) | (refine hS _ _ ?_; clear hS KS) | (refine hA _ ?_; clear hA KA) | (refine hB _ ?_; clear hB KB) | refine r_block ?_))
 | ((with_reducible (first | refine r_region ?_ | refine r_cond (fun KA hA KB hB => ?_) | refine r_skip ?_)); conv => whnf)
 | ((with_reducible refine WrapK.i64 ?_ ?_); (focus omega); conv => whnf)
 | ((with_reducible refine QK.id ?_); (first | refine QK.idx (k := 2) rfl rfl rfl rfl rfl rfl rfl (sa _ _ _) (by omega) (by omega) (prg_at hy) (fun b off hp => ?_) | refine QK.idx (k := 2) rfl rfl rfl rfl rfl rfl rfl (sb _ _ _) (by omega) (by omega) (prg_at hy) (fun b off hp => ?_) | refine QK.ldp rfl rfl hp (List.cons_ne_nil _ _) ?_); conv => whnf)
 | ((with_reducible refine IK.id ?_); refine IK.neqV sok3 rfl rfl rfl ?_; conv => whnf)
 | (((refine if_f ?_ ?_); (focus (simp only [eq_self, decide_true, Bool.and_true, Bool.and_self, Bool.not_true, beq_self_eq_true] <;> fail)); conv => whnf))
 | (refine hL (i + 1) _ _ (by show i + 1 ≤ _; omega) (by show L.length - (i + 1) < L.length - i; omega) suG (HSub.none _))
 | (apply r_quiet; refine mixed; kernel_rfl; kernel_rfl; kernel_rfl; conv => whnf)
 | (refine if_decT (by omega) ?_; conv => whnf)
 | with_reducible apply_assumption -symm -exfalso)
  · obtain rfl : i = L.length := by omega
    repeat' (first
 | with_reducible ((first | refine r_seq (fun KS hS => ?_) | (refine hS _ _ ?_; clear hS KS) | (refine hB _ ?_; clear hB KB)))
 | ((with_reducible (first | refine r_region ?_ | refine r_cond (fun KA hA KB hB => ?_) | refine r_ret ?_ | refine r_exit ?_)); conv => whnf)
 | (refine if_decF (by omega) ?_; conv => whnf)
 | with_reducible apply_assumption -symm -exfalso)
    exact FinK.pu rfl
theorem eqGp1081 {L : List OM.Pt} {a a' : Option Addr} {cap cap' : Nat} {w : World} (hr : RdS w 3 1 a L.length cap (L.flatMap gpC)) (hr' : RdS w 3 1 a' L.length cap' (L.flatMap gpC)) (hl : L.length ≤ 1000) :
    Pu Tryz.prog 81 #[.slice a L.length cap, .slice a' L.length cap'] w (.bool true) := by
  have sa := fun n' r H => Sees.old (c := ⟨Tryz.prog, TB, n', w, noS, r, TBok⟩) (H := H) hr.old
  have sb := fun n' r H => Sees.old (c := ⟨Tryz.prog, TB, n', w, noS, r, TBok⟩) (H := H) hr'.old
  refine enter_sound TBok Tryz.func81 rfl rfl Tryz.ntmps81 [.v (.slice a L.length cap), .v (.slice a' L.length cap')] (Kn.start w noS) rfl rfl ?_
  conv => whnf
  repeat' (first
 | with_reducible ((first | refine r_seq (fun KS hS => ?_) | (refine hS _ _ ?_; clear hS KS) | (refine hB _ ?_; clear hB KB) | refine r_block ?_))
 | ((with_reducible (first | refine r_region ?_ | refine r_cond (fun KA hA KB hB => ?_) | refine r_skip ?_)); conv => whnf)
 | (refine if_ndecF (by omega) ?_; conv => whnf)
 | with_reducible apply_assumption -symm -exfalso)
  refine r_loop (α := Nat) (fun i => [(13, .v (.int .i64 (i : Nat))), (12, .v (.int .i64 L.length)), (0, .v (.slice a L.length cap)), (1, .v (.slice a' L.length cap'))]) (fun _ => []) (fun i => i ≤ L.length) (fun i => L.length - i) 0 (Nat.zero_le _) suG (HSub.none _) ?_
  intro i hi KL hL
  by_cases hlt : i < L.length
  · obtain ⟨y, hy⟩ : ∃ y, L[i]? = some y := ⟨_, List.getElem?_eq_getElem hlt⟩
    repeat' (first
 | with_reducible ((first | refine r_seq (fun KS hS => ?_) | (refine hS _ _ ?_; clear hS KS) | (refine hA _ ?_; clear hA KA) | (refine hB _ ?_; clear hB KB) | refine r_block ?_))
 | ((with_reducible (first | refine r_region ?_ | refine r_cond (fun KA hA KB hB => ?_) | refine r_skip ?_)); conv => whnf)
 | ((with_reducible refine WrapK.i64 ?_ ?_); (focus omega); conv => whnf)
 | ((with_reducible refine QK.id ?_); (first | refine QK.idx (k := 1) rfl rfl rfl rfl rfl rfl rfl (sa _ _ _) (by omega) (by omega) (gp_at hy) (fun b off hp => ?_) | refine QK.idx (k := 1) rfl rfl rfl rfl rfl rfl rfl (sb _ _ _) (by omega) (by omega) (gp_at hy) (fun b off hp => ?_) | refine QK.ldp rfl rfl hp (List.cons_ne_nil _ _) ?_); conv => whnf)
 | (((refine if_f ?_ ?_); (focus (simp only [eq_self, decide_true, Bool.and_true, Bool.and_self, Bool.not_true, beq_self_eq_true] <;> fail)); conv => whnf))
 | (refine hL (i + 1) _ _ (by show i + 1 ≤ _; omega) (by show L.length - (i + 1) < L.length - i; omega) suG (HSub.none _))
 | (apply r_quiet; refine mixed; kernel_rfl; kernel_rfl; kernel_rfl; conv => whnf)
 | (refine if_decT (by omega) ?_; conv => whnf)
 | with_reducible apply_assumption -symm -exfalso)
  · obtain rfl : i = L.length := by omega
    repeat' (first
 | with_reducible ((first | refine r_seq (fun KS hS => ?_) | (refine hS _ _ ?_; clear hS KS) | (refine hB _ ?_; clear hB KB)))
 | ((with_reducible (first | refine r_region ?_ | refine r_cond (fun KA hA KB hB => ?_) | refine r_ret ?_ | refine r_exit ?_)); conv => whnf)
 | (refine if_decF (by omega) ?_; conv => whnf)
 | with_reducible apply_assumption -symm -exfalso)
    exact FinK.pu rfl
theorem eqEc1081 {L : List OM.Pt} {a a' : Option Addr} {cap cap' : Nat} {w : World} (hr : RdS w 3 1 a L.length cap (L.flatMap ecC)) (hr' : RdS w 3 1 a' L.length cap' (L.flatMap ecC)) (hl : L.length ≤ 1000) :
    Pu Tryz.prog 81 #[.slice a L.length cap, .slice a' L.length cap'] w (.bool true) := by
  have sa := fun n' r H => Sees.old (c := ⟨Tryz.prog, TB, n', w, noS, r, TBok⟩) (H := H) hr.old
  have sb := fun n' r H => Sees.old (c := ⟨Tryz.prog, TB, n', w, noS, r, TBok⟩) (H := H) hr'.old
  refine enter_sound TBok Tryz.func81 rfl rfl Tryz.ntmps81 [.v (.slice a L.length cap), .v (.slice a' L.length cap')] (Kn.start w noS) rfl rfl ?_
  conv => whnf
  repeat' (first
 | with_reducible ((first | refine r_seq (fun KS hS => ?_) | (refine hS _ _ ?_; clear hS KS) | (refine hB _ ?_; clear hB KB) | refine r_block ?_))
 | ((with_reducible (first | refine r_region ?_ | refine r_cond (fun KA hA KB hB => ?_) | refine r_skip ?_)); conv => whnf)
 | (refine if_ndecF (by omega) ?_; conv => whnf)
 | with_reducible apply_assumption -symm -exfalso)
  refine r_loop (α := Nat) (fun i => [(13, .v (.int .i64 (i : Nat))), (12, .v (.int .i64 L.length)), (0, .v (.slice a L.length cap)), (1, .v (.slice a' L.length cap'))]) (fun _ => []) (fun i => i ≤ L.length) (fun i => L.length - i) 0 (Nat.zero_le _) suG (HSub.none _) ?_
  intro i hi KL hL
  by_cases hlt : i < L.length
  · obtain ⟨y, hy⟩ : ∃ y, L[i]? = some y := ⟨_, List.getElem?_eq_getElem hlt⟩
    repeat' (first
 | with_reducible ((first | refine r_seq (fun KS hS => ?_) | (refine hS _ _ ?_; clear hS KS) | (refine hA _ ?_; clear hA KA) | (refine hB _ ?_; clear hB KB) | refine r_block ?_))
 | ((with_reducible (first | refine r_region ?_ | refine r_cond (fun KA hA KB hB => ?_) | refine r_skip ?_)); conv => whnf)
 | ((with_reducible refine WrapK.i64 ?_ ?_); (focus omega); conv => whnf)
 | ((with_reducible refine QK.id ?_); (first | refine QK.idx (k := 1) rfl rfl rfl rfl rfl rfl rfl (sa _ _ _) (by omega) (by omega) (ec_at hy) (fun b off hp => ?_) | refine QK.idx (k := 1) rfl rfl rfl rfl rfl rfl rfl (sb _ _ _) (by omega) (by omega) (ec_at hy) (fun b off hp => ?_) | refine QK.ldp rfl rfl hp (List.cons_ne_nil _ _) ?_); conv => whnf)
 | (((refine if_f ?_ ?_); (focus (simp only [eq_self, decide_true, Bool.and_true, Bool.and_self, Bool.not_true, beq_self_eq_true] <;> fail)); conv => whnf))
 | (refine hL (i + 1) _ _ (by show i + 1 ≤ _; omega) (by show L.length - (i + 1) < L.length - i; omega) suG (HSub.none _))
 | (apply r_quiet; refine mixed; kernel_rfl; kernel_rfl; kernel_rfl; conv => whnf)
 | (refine if_decT (by omega) ?_; conv => whnf)
 | with_reducible apply_assumption -symm -exfalso)
  · obtain rfl : i = L.length := by omega
    repeat' (first
 | with_reducible ((first | refine r_seq (fun KS hS => ?_) | (refine hS _ _ ?_; clear hS KS) | (refine hB _ ?_; clear hB KB)))
 | ((with_reducible (first | refine r_region ?_ | refine r_cond (fun KA hA KB hB => ?_) | refine r_ret ?_ | refine r_exit ?_)); conv => whnf)
 | (refine if_decF (by omega) ?_; conv => whnf)
 | with_reducible apply_assumption -symm -exfalso)
    exact FinK.pu rfl
end Go.Proofs.YtjkmpaggfbghiaaGreatDoor
