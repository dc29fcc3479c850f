/- Contracts and lemmas for the claim (part 15); no condition of its own. -/
import Derived.Test.YtjkmpaggfbghiaaGreatDoorYQC714
import Derived.Test.YtjkmpaggfbghiaaGreatDoorYQC706
import Derived.Test.YtjkmpaggfbghiaaGreatDoorYQC705
set_option linter.all false
set_option linter.unusedVariables false
set_option linter.unusedSimpArgs false
set_option linter.unnecessarySimpa false
set_option linter.all false
namespace Go.Proofs.YtjkmpaggfbghiaaGreatDoor
open Go Go.X
set_option maxRecDepth 100000
set_option maxHeartbeats 0
/-- cells of a numbered saga -/
abbrev nmC (A : Pl) (x : Int × OM.Sg) : List Value := .int .i64 x.1 :: denL (sgc x.2 (A x.1).1 (A x.1).2)
theorem asc_ne {L : SL} (hs : AscS L) {i : Nat} {x : Int × OM.Sg} (hx : L[i]? = some x) : ∀ y ∈ L.take i, y.1 ≠ x.1 := by
  intro y hy
  obtain ⟨j, hj⟩ := List.mem_iff_getElem?.1 hy
  rw [List.getElem?_take] at hj
  split at hj
  · rename_i hji
    obtain ⟨h1, h2⟩ := List.getElem?_eq_some_iff.1 hj
    obtain ⟨h3, h4⟩ := List.getElem?_eq_some_iff.1 hx
    have := List.pairwise_iff_getElem.1 hs j i h1 h3 hji
    rw [h2, h4] at this
    omega
  · cases hj
theorem nm_snoc {L : SL} (hs : AscS L) {A : Pl} {z : Option Addr × Nat} {i : Nat} {x : Int × OM.Sg} (hx : L[i]? = some x) :
    (L.take i).flatMap (nmC A) ++ (.int .i64 x.1 :: denL (sgc x.2 z.1 z.2)) = (L.take (i + 1)).flatMap (nmC (setA A x.1 z)) := by
  have h1 : (L.take i).flatMap (nmC (setA A x.1 z)) = (L.take i).flatMap (nmC A) := fl_congr fun y hy => by
    unfold nmC setA
    rw [if_neg (asc_ne hs hx y hy)]
  rw [← flat_snoc (g := nmC (setA A x.1 z)) hx, h1]
  congr 1
  unfold nmC setA
  rw [if_pos rfl]
theorem StA_snoc {L : SL} (hs : AscS L) {A : Pl} {z : Option Addr × Nat} {i : Nat} {x : Int × OM.Sg} (hx : L[i]? = some x) {p q r : Nat} :
    HSub [.ext p (StA (L.take (i + 1)) (setA A x.1 z))] [.ext q (StA (L.take i) A), .ext r (stA x.2 z)] := by
  refine HSub.trans HSub.join (HSub.trans ?_ (HSub.app2 (A := [.ext q (StA (L.take i) A)]) HSub.unjoin (HSub.ext (i := 0) (fun _ _ h => h) HSub.nil)))
  have e0 : stB (setA A x.1 z) x = .ext 0 (stA x.2 z) := by unfold stB setA; rw [if_pos rfl]
  have : (L.take (i + 1)).map (stB (setA A x.1 z)) = (L.take i).map (stB A) ++ [.ext 0 (stA x.2 z)] := by
    rw [← take_snoc hx, List.map_append, stB_set (asc_ne hs hx), List.map_cons, List.map_nil, e0]
  rw [this]
  exact HSub.refl _
theorem _root_.Go.X.HSub.addStL {i : Nat} {A : Pl} {L' L : List Blk} (h : HSub L' L) : HSub (L' ++ [.ext i (StA [] A)]) L :=
  HSub.trans (HSub.perm List.perm_append_comm) (fun w S hS =>
    let ⟨S', h1, h2⟩ := h w S hS
    ⟨fun k => False ∨ S' k, .cons (x := .ext i (StA [] A)) (S := fun _ => False) (Holds.nil (w := w)) (fun _ h => h.elim) h1 (fun _ h => h.elim), fun k hk => hk.elim False.elim (h2 k)⟩)
theorem mlen1064 {t : Nat} {l : List OM.Mv} (hl : l.length ≤ 64) (w : World) :
    Fr Tryz.prog 64 #[pv t] w (AssL [.ext 0 (MvsA t l)]) (.int .i64 (l.length : Nat)) (AssL [.ext 0 (MvsA t l)]) := by
  refine enter_fr TBok (H := [.ext 0 (MvsA t l)]) all_foot Tryz.func64 rfl rfl Tryz.ntmps64 [.loc t 0 0] rfl rfl ?_
  intro S
  conv => whnf
  refine Run.ex (A := mvsH t l) (i := 0) (by repeat (first | with_reducible apply Rm.head | apply Rm.tail)) ?_
  rintro ⟨a, cap⟩
  dsimp only [mvsH, layF]
  repeat' (first
 | with_reducible (first | refine r_seq (fun KS hS => ?_) | (refine hS _ _ ?_; clear hS KS) | (refine hA _ ?_; clear hA KA) | (refine hB _ ?_; clear hB KB) | refine r_block ?_)
 | ((with_reducible (first | refine r_region ?_ | refine r_cond (fun KA hA KB hB => ?_) | refine r_ret ?_ | refine r_skip ?_ | refine r_exit ?_ | refine And.intro rfl ?_ | intro b)); conv => whnf)
 | ((with_reducible refine WrapK.i64 ?_ ?_); (focus omega); conv => whnf)
 | (apply in1125; rfl; rfl; rfl; intro A; conv => whnf)
 | ((with_reducible apply OpK.more); (focus refine sok); (conv => whnf); fail_if_success guard_target =ₛ False)
 | with_reducible (first | refine Rounds.step (fun KL hL => ?_) | (refine hL _ _ ?_; clear hL KL) | refine r_rounds 100 ?_)
 | ((with_reducible (first | refine InAt.mk (fun K' hK => ?_) | refine AnyAt.mk (fun K' hK => ?_) | (refine hK _ ?_; clear hK K') | (refine hK _ _ ?_; clear hK K'))); conv => whnf)
 | ((refine And.intro ?_ ?_); all_goals (conv => whnf))
 | (apply r_quiet; refine mixed; kernel_rfl; kernel_rfl; kernel_rfl; conv => whnf)
 | ((first | refine if_t (by decide) ?_ | refine if_f (by decide) ?_ | refine if_decT (by omega) ?_ | refine if_decF (by omega) ?_ | refine if_ndecT (by omega) ?_ | refine if_ndecF (by omega) ?_); conv => whnf)
 | ((first | refine if_dec (fun h => ?_) (fun h => ?_) | refine if_ndec (fun h => ?_) (fun h => ?_) | refine if_cond (fun h => ?_) (fun h => ?_)); all_goals (conv => whnf))
 | with_reducible apply_assumption -symm -exfalso)
  all_goals exact FinK.frL rfl (HSub.trans (mvs_id (i := 0) (j := 1) (a := a) (cap := cap) rfl) (by (try dsimp only [List.cons_append, List.nil_append, den, denL]); refine SelI.spec ?_; (repeat (first | refine SelI.blk (by repeat (first | with_reducible apply Rm.head | apply Rm.tail)) ?_ | refine SelI.ext (by repeat (first | with_reducible apply Rm.head | apply Rm.tail)) ?_ | (refine SelI.blk' (by repeat (first | with_reducible apply Rm.head | apply Rm.tail)) ?_ ?_; focus rfl) | (refine SelI.ext' (by repeat (first | with_reducible apply Rm.head | apply Rm.tail)) ?_ ?_; focus rfl))); exact SelI.nil))
structure StZ where
  sa : Option Addr × Nat
  A : Pl
  ma : Option Addr × Nat
  ra : Option Addr × Nat
  wa : Option Addr × Nat
  ea : Option Addr × Nat
abbrev stateV (o : OM.St) (z : StZ) : List SV := [.v (.int .i64 o.groups), .v (.int .i64 o.done), .v (.slice z.sa.1 o.sagas.length z.sa.2), .v (.slice z.ma.1 o.moves.length z.ma.2), .v (.slice z.ra.1 o.parts.length z.ra.2), .v (.slice z.wa.1 o.parts.length z.wa.2), .v (.slice z.ea.1 o.parts.length z.ea.2)]
abbrev stateH (o : OM.St) (z : StZ) : List Blk := [.ext 20 (SlA 76 11 z.sa.1 o.sagas.length z.sa.2 (o.sagas.flatMap (nmC z.A))), .ext 21 (StA o.sagas z.A), .ext 22 (SlA 83 6 z.ma.1 o.moves.length z.ma.2 (o.moves.flatMap mvC)), .ext 23 (SlA 37 2 z.ra.1 o.parts.length z.ra.2 (o.parts.flatMap rgC)), .ext 24 (SlA 3 1 z.wa.1 o.parts.length z.wa.2 (o.parts.flatMap gpC)), .ext 25 (SlA 3 1 z.ea.1 o.parts.length z.ea.2 (o.parts.flatMap ecC))]
theorem state1024 {d : Nat} {o : OM.St} (hI : OM.Inv o) (w : World) :
    FrZ Tryz.prog 24 #[pv d] w (AssL [.ext 12 (OrchA d o)]) (fun z : StZ => .agg (denL (stateV o z)).toArray) (fun z => AssL (.ext 12 (OrchA d o) :: stateH o z)) := by
  have hL := LOk.ofInv hI
  have hml := hI.mlen
  have hll := hI.slen
  have hp0 : 0 < o.parts.length := List.length_pos_iff.2 hI.cov.2
  have hpl : o.parts.length ≤ 64 := by have := hI.room; omega
  refine enter_frZ TBok (H := [.ext 12 (OrchA d o)]) all_foot Tryz.func24 rfl rfl Tryz.ntmps24 [.loc d 0 0] rfl rfl ?_
  intro S hz8 hz9
  clear hz8 hz9
  conv => whnf
  repeat' (first
 | (with_reducible refine r_stop 3 ?_)
 | with_reducible (first | refine r_seq (fun KS hS => ?_) | (refine hS _ _ ?_; clear hS KS) | (refine hA _ ?_; clear hA KA) | (refine hB _ ?_; clear hB KB) | refine r_block ?_)
 | ((with_reducible (first | refine r_region ?_ | refine r_cond (fun KA hA KB hB => ?_) | refine r_ret ?_ | refine r_skip ?_ | refine r_exit ?_ | refine And.intro rfl ?_ | intro b)); conv => whnf)
 | ((with_reducible refine WrapK.i64 ?_ ?_); (focus omega); conv => whnf)
 | ((with_reducible refine CallK.id ?_); refine CallK.s1V (by repeat (first | with_reducible apply Rm.head | apply Rm.tail)) (fun ms w hk => made1041 (by have := hI.gr; omega) w) ?_; conv => whnf)
 | ((with_reducible apply OpK.more); (focus refine sok); (conv => whnf); fail_if_success guard_target =ₛ False)
 | ((with_reducible (first | refine InAt.mk (fun K' hK => ?_) | refine AnyAt.mk (fun K' hK => ?_) | (refine hK _ ?_; clear hK K') | (refine hK _ _ ?_; clear hK K'))); conv => whnf)
 | ((refine And.intro ?_ ?_); all_goals (conv => whnf))
 | (apply r_quiet; refine mixed; kernel_rfl; kernel_rfl; kernel_rfl; conv => whnf)
 | ((first | refine if_t (by decide) ?_ | refine if_f (by decide) ?_ | refine if_decT (by omega) ?_ | refine if_decF (by omega) ?_ | refine if_ndecT (by omega) ?_ | refine if_ndecF (by omega) ?_); conv => whnf)
 | ((first | refine if_dec (fun h => ?_) (fun h => ?_) | refine if_ndec (fun h => ?_) (fun h => ?_) | refine if_cond (fun h => ?_) (fun h => ?_)); all_goals (conv => whnf))
 | with_reducible apply_assumption -symm -exfalso)
  refine StopR.mk ?_
  obtain ⟨b2, hb2⟩ : ∃ x, x = b := ⟨b, rfl⟩
  subst hb2
  refine Run.ex (A := orH d o) (i := 12) (by repeat (first | with_reducible apply Rm.head | apply Rm.tail)) ?_
  rintro ⟨t1, t2, t3⟩
  dsimp only [orH, layF]
  refine r_seq (fun KS2 hS2 => ?_)
  refine r_par (β := Option Addr × Nat) (id := 3) [⟨0, [], none, fun _ _ => .loc d 0 0, fun _ _ => []⟩, ⟨1, [0], none, fun _ _ => .loc d 0 0, fun _ _ => []⟩, ⟨2, [1], none, fun _ _ => .loc d 0 0, fun _ _ => []⟩, ⟨3, [2], none, fun _ _ => .v (.int .i64 o.groups), fun _ _ => []⟩, ⟨4, [], none, fun _ _ => .loc d 0 0, fun _ _ => []⟩, ⟨5, [4], none, fun _ _ => .loc d 0 0, fun _ _ => []⟩, ⟨6, [5], none, fun _ _ => .loc d 0 1, fun _ _ => []⟩, ⟨7, [6], none, fun _ _ => .v (.int .i64 o.done), fun _ _ => []⟩, ⟨8, [], none, fun _ _ => .loc d 0 0, fun _ _ => []⟩, ⟨9, [8], none, fun _ _ => .loc d 0 0, fun _ _ => []⟩, ⟨10, [9], none, fun _ _ => .loc d 0 4, fun _ _ => []⟩, ⟨11, [10], none, fun _ _ => .loc t3 22 0, fun _ _ => []⟩, ⟨12, [11], some 100, fun _ q2 => .v (.slice q2.1 o.parts.length q2.2), fun _ q2 => [.ext 3 (PtsA t3 o.parts), .ext 23 (SlA 37 2 q2.1 o.parts.length q2.2 (o.parts.flatMap rgC))]⟩, ⟨13, [], none, fun _ _ => .loc d 0 0, fun _ _ => []⟩, ⟨14, [13], none, fun _ _ => .loc d 0 0, fun _ _ => []⟩, ⟨15, [14], none, fun _ _ => .loc d 0 4, fun _ _ => []⟩, ⟨16, [15], none, fun _ _ => .loc t3 22 0, fun _ _ => []⟩, ⟨17, [16, 12], some 12, fun _ q2 => .v (.slice q2.1 o.parts.length q2.2), fun l q2 => match l with | [_, z12] => [.ext 3 (PtsA t3 o.parts), .ext 23 (SlA 37 2 z12.1 o.parts.length z12.2 (o.parts.flatMap rgC)), .ext 24 (SlA 3 1 q2.1 o.parts.length q2.2 (o.parts.flatMap gpC))] | _ => []⟩, ⟨18, [], none, fun _ _ => .loc d 0 0, fun _ _ => []⟩, ⟨19, [18], none, fun _ _ => .loc d 0 0, fun _ _ => []⟩, ⟨20, [19], none, fun _ _ => .loc d 0 4, fun _ _ => []⟩, ⟨21, [20], none, fun _ _ => .loc t3 22 0, fun _ _ => []⟩, ⟨22, [21, 17, 12], some 17, fun _ q2 => .v (.slice q2.1 o.parts.length q2.2), fun l q2 => match l with | [_, z17, z12] => [.ext 3 (PtsA t3 o.parts), .ext 23 (SlA 37 2 z12.1 o.parts.length z12.2 (o.parts.flatMap rgC)), .ext 24 (SlA 3 1 z17.1 o.parts.length z17.2 (o.parts.flatMap gpC)), .ext 25 (SlA 3 1 q2.1 o.parts.length q2.2 (o.parts.flatMap ecC))] | _ => []⟩, ⟨23, [3, 7, 12, 17, 22], none, fun l _ => match l with | [_, _, z12, z17, z22] => .agg [.v (.int .i64 o.groups), .v (.int .i64 o.done), .v (.slice none 0 0), .v (.slice none 0 0), .v (.slice z12.1 o.parts.length z12.2), .v (.slice z17.1 o.parts.length z17.2), .v (.slice z22.1 o.parts.length z22.2)] | _ => .v undef, fun _ _ => []⟩, ⟨24, [], none, fun _ q2 => .loc q2.2 90 0, fun _ q2 => [.blk 90 q2.2 [.v (.int .i64 0), .v (.int .i64 0), .v (.slice none 0 0), .v (.slice none 0 0), .v (.slice none 0 0), .v (.slice none 0 0), .v (.slice none 0 0)] 72]⟩] [⟨100, [], none, fun _ _ => .v undef, fun _ _ => [.ext 3 (PtsA t3 o.parts)]⟩] 1 [.blk 13 b2 [.v (.int .i64 0), .v (.int .i64 0), .v (.slice none 0 0), .v (.slice none 0 0), .v (.slice none 0 0), .v (.slice none 0 0), .v (.slice none 0 0)] 72, .blk 0 d [.v (.int .i64 o.groups), .v (.int .i64 o.done), .loc t1 20 0, .loc t2 21 0, .loc t3 22 0] 121, .ext 1 (TabA t1 o.sagas), .ext 2 (MvsA t2 o.moves)] mixed (by kernel_rfl) (by kernel_rfl) (by show HSub [.ext 3 (PtsA t3 o.parts), .blk 13 b2 [.v (.int .i64 0), .v (.int .i64 0), .v (.slice none 0 0), .v (.slice none 0 0), .v (.slice none 0 0), .v (.slice none 0 0), .v (.slice none 0 0)] 72, .blk 0 d [.v (.int .i64 o.groups), .v (.int .i64 o.done), .loc t1 20 0, .loc t2 21 0, .loc t3 22 0] 121, .ext 1 (TabA t1 o.sagas), .ext 2 (MvsA t2 o.moves)] _; exact (by (try dsimp only [List.cons_append, List.nil_append, den, denL]); refine SelI.spec ?_; (repeat (first | refine SelI.blk (by repeat (first | with_reducible apply Rm.head | apply Rm.tail)) ?_ | refine SelI.ext (by repeat (first | with_reducible apply Rm.head | apply Rm.tail)) ?_ | (refine SelI.blk' (by repeat (first | with_reducible apply Rm.head | apply Rm.tail)) ?_ ?_; focus rfl) | (refine SelI.ext' (by repeat (first | with_reducible apply Rm.head | apply Rm.tail)) ?_ ?_; focus rfl))); exact SelI.nil)) ?_ ?_
  · conv => whnf
    repeat' (first | ((with_reducible refine And.intro ?_ ?_); all_goals (conv => whnf)) | ((with_reducible intro zz2 AA KP hP); conv => whnf))
    repeat' (first
 | with_reducible (first | refine r_seq (fun KS hS => ?_) | (refine hS _ _ ?_; clear hS KS) | (refine hA _ ?_; clear hA KA) | (refine hB _ ?_; clear hB KB) | refine r_block ?_)
 | ((with_reducible (first | refine r_region ?_ | refine r_cond (fun KA hA KB hB => ?_) | refine r_ret ?_ | refine r_skip ?_ | refine r_exit ?_ | refine And.intro rfl ?_ | intro b)); conv => whnf)
 | ((with_reducible refine WrapK.i64 ?_ ?_); (focus omega); conv => whnf)
 | ((with_reducible refine CallK.id ?_); (first | refine CallK.s1 (by repeat (first | with_reducible apply Rm.head | apply Rm.tail)) (fun ms w hk => ranges1060 hp0 (by omega) w) ?_ | refine CallK.s1 (by repeat (first | with_reducible apply Rm.head | apply Rm.tail)) (fun ms w hk => groups1061 hp0 (by omega) w) ?_ | refine CallK.s1 (by repeat (first | with_reducible apply Rm.head | apply Rm.tail)) (fun ms w hk => epochs1062 hp0 (by omega) w) ?_); conv => whnf)
 | ((with_reducible refine hP (none, b) _ _ ?_ ?_); all_goals (first | exact default | ((repeat' (first | exact SubD.nil | (refine SubD.cons rfl rfl ?_))); done) | ((try dsimp only [mapZ, List.cons_append, List.nil_append, den, denL]); refine SelI.spec ?_; repeat (first | apply SelI.nil | refine SelI.blk (by repeat (first | with_reducible apply Rm.head | apply Rm.tail)) ?_ | refine SelI.ext (by repeat (first | with_reducible apply Rm.head | apply Rm.tail)) ?_ | (refine SelI.blk' (by repeat (first | with_reducible apply Rm.head | apply Rm.tail)) ?_ ?_; focus rfl) | (refine SelI.ext' (by repeat (first | with_reducible apply Rm.head | apply Rm.tail)) ?_ ?_; focus rfl)))))
 | ((with_reducible apply hP); all_goals (first | exact default | ((repeat' (first | exact SubD.nil | (refine SubD.cons rfl rfl ?_))); done) | ((try dsimp only [mapZ, List.cons_append, List.nil_append, den, denL]); refine SelI.spec ?_; repeat (first | apply SelI.nil | refine SelI.blk (by repeat (first | with_reducible apply Rm.head | apply Rm.tail)) ?_ | refine SelI.ext (by repeat (first | with_reducible apply Rm.head | apply Rm.tail)) ?_ | (refine SelI.blk' (by repeat (first | with_reducible apply Rm.head | apply Rm.tail)) ?_ ?_; focus rfl) | (refine SelI.ext' (by repeat (first | with_reducible apply Rm.head | apply Rm.tail)) ?_ ?_; focus rfl)))))
 | ((with_reducible apply OpK.more); (focus refine sok); (conv => whnf); fail_if_success guard_target =ₛ False)
 | ((with_reducible (first | refine InAt.mk (fun K' hK => ?_) | refine AnyAt.mk (fun K' hK => ?_) | (refine hK _ ?_; clear hK K') | (refine hK _ _ ?_; clear hK K'))); conv => whnf)
 | ((refine And.intro ?_ ?_); all_goals (conv => whnf))
 | (apply r_quiet; refine mixed; kernel_rfl; kernel_rfl; kernel_rfl; conv => whnf)
 | ((first | refine if_t (by decide) ?_ | refine if_f (by decide) ?_ | refine if_decT (by omega) ?_ | refine if_decF (by omega) ?_ | refine if_ndecT (by omega) ?_ | refine if_ndecF (by omega) ?_); conv => whnf)
 | ((first | refine if_dec (fun h => ?_) (fun h => ?_) | refine if_ndec (fun h => ?_) (fun h => ?_) | refine if_cond (fun h => ?_) (fun h => ?_)); all_goals (conv => whnf))
 | with_reducible apply_assumption -symm -exfalso)
  conv => whnf
  intro zz
  conv => whnf
  try dsimp only
  repeat' (first
 | with_reducible (first | refine r_seq (fun KS hS => ?_) | (refine hS _ _ ?_; clear hS KS) | (refine hA _ ?_; clear hA KA) | (refine hB _ ?_; clear hB KB) | refine r_block ?_)
 | ((with_reducible (first | refine r_region ?_ | refine r_cond (fun KA hA KB hB => ?_) | refine r_ret ?_ | refine r_skip ?_ | refine r_exit ?_ | refine And.intro rfl ?_ | intro b)); conv => whnf)
 | ((with_reducible refine WrapK.i64 ?_ ?_); (focus omega); conv => whnf)
 | ((with_reducible refine CallK.id ?_); refine CallK.s1 (by repeat (first | with_reducible apply Rm.head | apply Rm.tail)) (fun ms w hk => ids1063 hL.srt hL.len w) ?_; conv => whnf)
 | ((with_reducible apply OpK.more); (focus refine sok); (conv => whnf); fail_if_success guard_target =ₛ False)
 | ((with_reducible (first | refine InAt.mk (fun K' hK => ?_) | refine AnyAt.mk (fun K' hK => ?_) | (refine hK _ ?_; clear hK K') | (refine hK _ _ ?_; clear hK K'))); conv => whnf)
 | ((refine And.intro ?_ ?_); all_goals (conv => whnf))
 | (apply r_quiet; refine mixed; kernel_rfl; kernel_rfl; kernel_rfl; conv => whnf)
 | ((first | refine if_t (by decide) ?_ | refine if_f (by decide) ?_ | refine if_decT (by omega) ?_ | refine if_decF (by omega) ?_ | refine if_ndecT (by omega) ?_ | refine if_ndecF (by omega) ?_); conv => whnf)
 | ((first | refine if_dec (fun h => ?_) (fun h => ?_) | refine if_ndec (fun h => ?_) (fun h => ?_) | refine if_cond (fun h => ?_) (fun h => ?_)); all_goals (conv => whnf))
 | with_reducible apply_assumption -symm -exfalso)
  rcases b with ⟨ia, icap⟩
  dsimp only
  generalize zz 12 = ra
  generalize zz 17 = wa
  generalize zz 22 = ea
  generalize (zz 24).2 = b3
  clear zz
  refine r_loop (α := Nat × Pl × Option Addr × Nat) (fun z => [(0, .loc d 0 0), (2, .loc b2 13 0), (3, .loc b3 90 0), (43, .v (.slice ia o.sagas.length icap)), (44, .v (.int .i64 (o.sagas.length : Nat))), (45, .v (.int .i64 (z.1 : Nat)))]) (fun z => [.blk 90 b3 [.v (.int .i64 o.groups), .v (.int .i64 o.done), .v (.slice z.2.2.1 z.1 z.2.2.2), .v (.slice none 0 0), .v (.slice ra.1 o.parts.length ra.2), .v (.slice wa.1 o.parts.length wa.2), .v (.slice ea.1 o.parts.length ea.2)] 72, .blk 13 b2 [.v (.int .i64 0), .v (.int .i64 0), .v (.slice none 0 0), .v (.slice none 0 0), .v (.slice none 0 0), .v (.slice none 0 0), .v (.slice none 0 0)] 72, .blk 0 d [.v (.int .i64 o.groups), .v (.int .i64 o.done), .loc t1 20 0, .loc t2 21 0, .loc t3 22 0] 121, .ext 1 (TabA t1 o.sagas), .ext 2 (MvsA t2 o.moves), .ext 3 (PtsA t3 o.parts), .ext 23 (SlA 37 2 ra.1 o.parts.length ra.2 (o.parts.flatMap rgC)), .ext 24 (SlA 3 1 wa.1 o.parts.length wa.2 (o.parts.flatMap gpC)), .ext 25 (SlA 3 1 ea.1 o.parts.length ea.2 (o.parts.flatMap ecC)), .ext 4 (SlA 3 1 ia o.sagas.length icap (idC o.sagas))] ++ [.ext 20 (SlA 76 11 z.2.2.1 z.1 z.2.2.2 ((o.sagas.take z.1).flatMap (nmC z.2.1))), .ext 21 (StA (o.sagas.take z.1) z.2.1)]) (fun z => z.1 ≤ o.sagas.length) (fun z => o.sagas.length - z.1) (0, (fun _ => (none, 0)), none, 0) (Nat.zero_le _) (by repeat' (first | exact Sub.nil | (refine Sub.cons rfl rfl ?_))) (HSub.addStL (L' := [.blk 90 b3 [.v (.int .i64 o.groups), .v (.int .i64 o.done), .v (.slice none 0 0), .v (.slice none 0 0), .v (.slice ra.1 o.parts.length ra.2), .v (.slice wa.1 o.parts.length wa.2), .v (.slice ea.1 o.parts.length ea.2)] 72, .blk 13 b2 [.v (.int .i64 0), .v (.int .i64 0), .v (.slice none 0 0), .v (.slice none 0 0), .v (.slice none 0 0), .v (.slice none 0 0), .v (.slice none 0 0)] 72, .blk 0 d [.v (.int .i64 o.groups), .v (.int .i64 o.done), .loc t1 20 0, .loc t2 21 0, .loc t3 22 0] 121, .ext 1 (TabA t1 o.sagas), .ext 2 (MvsA t2 o.moves), .ext 3 (PtsA t3 o.parts), .ext 23 (SlA 37 2 ra.1 o.parts.length ra.2 (o.parts.flatMap rgC)), .ext 24 (SlA 3 1 wa.1 o.parts.length wa.2 (o.parts.flatMap gpC)), .ext 25 (SlA 3 1 ea.1 o.parts.length ea.2 (o.parts.flatMap ecC)), .ext 4 (SlA 3 1 ia o.sagas.length icap (idC o.sagas))] ++ [.ext 20 (SlA 76 11 none 0 0 [])]) (HSub.addSlL (L' := [.blk 90 b3 [.v (.int .i64 o.groups), .v (.int .i64 o.done), .v (.slice none 0 0), .v (.slice none 0 0), .v (.slice ra.1 o.parts.length ra.2), .v (.slice wa.1 o.parts.length wa.2), .v (.slice ea.1 o.parts.length ea.2)] 72, .blk 13 b2 [.v (.int .i64 0), .v (.int .i64 0), .v (.slice none 0 0), .v (.slice none 0 0), .v (.slice none 0 0), .v (.slice none 0 0), .v (.slice none 0 0)] 72, .blk 0 d [.v (.int .i64 o.groups), .v (.int .i64 o.done), .loc t1 20 0, .loc t2 21 0, .loc t3 22 0] 121, .ext 1 (TabA t1 o.sagas), .ext 2 (MvsA t2 o.moves), .ext 3 (PtsA t3 o.parts), .ext 23 (SlA 37 2 ra.1 o.parts.length ra.2 (o.parts.flatMap rgC)), .ext 24 (SlA 3 1 wa.1 o.parts.length wa.2 (o.parts.flatMap gpC)), .ext 25 (SlA 3 1 ea.1 o.parts.length ea.2 (o.parts.flatMap ecC)), .ext 4 (SlA 3 1 ia o.sagas.length icap (idC o.sagas))]) (by (try dsimp only [List.cons_append, List.nil_append, den, denL]); refine SelI.spec ?_; (repeat (first | refine SelI.blk (by repeat (first | with_reducible apply Rm.head | apply Rm.tail)) ?_ | refine SelI.ext (by repeat (first | with_reducible apply Rm.head | apply Rm.tail)) ?_ | (refine SelI.blk' (by repeat (first | with_reducible apply Rm.head | apply Rm.tail)) ?_ ?_; focus rfl) | (refine SelI.ext' (by repeat (first | with_reducible apply Rm.head | apply Rm.tail)) ?_ ?_; focus rfl))); exact SelI.nil))) ?_
  rintro ⟨i, A, a, cap⟩ hi KL hL2
  dsimp only [List.cons_append, List.nil_append] at hi ⊢
  by_cases hlt : i < o.sagas.length
  · obtain ⟨x, hx⟩ : ∃ x, o.sagas[i]? = some x := ⟨_, List.getElem?_eq_getElem hlt⟩
    have hmem := List.mem_of_getElem? hx
    have hg := getL_of_mem hL.srt hmem
    have hok := hL.ok x hmem
    have hid := hL.id x hmem
    repeat' (first
 | with_reducible (first | refine r_seq (fun KS hS => ?_) | (refine hS _ _ ?_; clear hS KS) | (refine hA _ ?_; clear hA KA) | (refine hB _ ?_; clear hB KB) | refine r_block ?_)
 | ((with_reducible (first | refine r_region ?_ | refine r_cond (fun KA hA KB hB => ?_) | refine r_ret ?_ | refine r_skip ?_ | refine r_exit ?_ | refine And.intro rfl ?_ | intro b)); conv => whnf)
 | ((with_reducible refine WrapK.i64 ?_ ?_); (focus omega); conv => whnf)
 | ((with_reducible refine OpK.id ?_); (first | refine OpK.idx (k := 1) rfl rfl rfl rfl rfl rfl rfl (Sees.ext (by repeat (first | with_reducible apply At.head | apply At.tail))) (by omega) (by omega) (id_at hx) (fun b off hp => ?_) | refine OpK.ldp rfl rfl hp (List.cons_ne_nil _ _) ?_); conv => whnf)
 | ((with_reducible refine CallK.id ?_); refine CallK.s1 (by repeat (first | with_reducible apply Rm.head | apply Rm.tail)) (fun ms w hk => get1056 hg hok (zok_id hid) w) ?_; conv => whnf)
 | ((with_reducible refine OpK.id ?_); refine OpK.app (k := 11) rfl rfl rfl rfl rfl rfl rfl rfl (by repeat (first | with_reducible apply At.head | apply At.tail)) (SrcK.slc rfl rfl (by repeat (first | constructor | apply List.Mem.tail)) (Nat.le_refl _) rfl) (big_ok (by omega) (by decide)) (fun a' cap' => ?_); conv => whnf)
 | (refine hL2 (i + 1, setA A x.1 ‹Option Addr × Nat›, a', cap') _ _ (by show i + 1 ≤ _; omega) (by show _ - (i + 1) < _ - i; omega) (by repeat' (first | exact Sub.nil | (refine Sub.cons rfl rfl ?_))) (by refine HSub.trans (HSub.app2 (A := [.blk 90 b3 [.v (.int .i64 o.groups), .v (.int .i64 o.done), .v (.slice a' (i + 1) cap'), .v (.slice none 0 0), .v (.slice ra.1 o.parts.length ra.2), .v (.slice wa.1 o.parts.length wa.2), .v (.slice ea.1 o.parts.length ea.2)] 72, .blk 13 b2 [.v (.int .i64 0), .v (.int .i64 0), .v (.slice none 0 0), .v (.slice none 0 0), .v (.slice none 0 0), .v (.slice none 0 0), .v (.slice none 0 0)] 72, .blk 0 d [.v (.int .i64 o.groups), .v (.int .i64 o.done), .loc t1 20 0, .loc t2 21 0, .loc t3 22 0] 121, .ext 1 (TabA t1 o.sagas), .ext 2 (MvsA t2 o.moves), .ext 3 (PtsA t3 o.parts), .ext 23 (SlA 37 2 ra.1 o.parts.length ra.2 (o.parts.flatMap rgC)), .ext 24 (SlA 3 1 wa.1 o.parts.length wa.2 (o.parts.flatMap gpC)), .ext 25 (SlA 3 1 ea.1 o.parts.length ea.2 (o.parts.flatMap ecC)), .ext 4 (SlA 3 1 ia o.sagas.length icap (idC o.sagas))]) (HSub.refl _) (HSub.ext (i := 20) (j := 20) (fun w S h => by rw [← nm_snoc hL.srt hx]; exact h) (StA_snoc (q := 21) (r := 1) hL.srt hx))) ?_; dsimp only [List.cons_append, List.nil_append]; exact (by (try dsimp only [List.cons_append, List.nil_append, den, denL]); refine SelI.spec ?_; (repeat (first | refine SelI.blk (by repeat (first | with_reducible apply Rm.head | apply Rm.tail)) ?_ | refine SelI.ext (by repeat (first | with_reducible apply Rm.head | apply Rm.tail)) ?_ | (refine SelI.blk' (by repeat (first | with_reducible apply Rm.head | apply Rm.tail)) ?_ ?_; focus rfl) | (refine SelI.ext' (by repeat (first | with_reducible apply Rm.head | apply Rm.tail)) ?_ ?_; focus rfl))); exact SelI.nil)))
 | ((with_reducible apply OpK.more); (focus refine sok); (conv => whnf); fail_if_success guard_target =ₛ False)
 | ((with_reducible (first | refine InAt.mk (fun K' hK => ?_) | refine AnyAt.mk (fun K' hK => ?_) | (refine hK _ ?_; clear hK K') | (refine hK _ _ ?_; clear hK K'))); conv => whnf)
 | ((refine And.intro ?_ ?_); all_goals (conv => whnf))
 | (apply r_quiet; refine mixed; kernel_rfl; kernel_rfl; kernel_rfl; conv => whnf)
 | ((first | refine if_t (by decide) ?_ | refine if_f (by decide) ?_ | refine if_decT (by omega) ?_ | refine if_decF (by omega) ?_ | refine if_ndecT (by omega) ?_ | refine if_ndecF (by omega) ?_); conv => whnf)
 | ((first | refine if_dec (fun h => ?_) (fun h => ?_) | refine if_ndec (fun h => ?_) (fun h => ?_) | refine if_cond (fun h => ?_) (fun h => ?_)); all_goals (conv => whnf))
 | with_reducible apply_assumption -symm -exfalso)
  · obtain rfl : i = o.sagas.length := by omega
    clear hL2
    rw [List.take_length]
    repeat' (first
 | with_reducible (first | refine r_seq (fun KS hS => ?_) | (refine hS _ _ ?_; clear hS KS) | (refine hA _ ?_; clear hA KA) | (refine hB _ ?_; clear hB KB) | refine r_block ?_)
 | ((with_reducible (first | refine r_region ?_ | refine r_cond (fun KA hA KB hB => ?_) | refine r_ret ?_ | refine r_skip ?_ | refine r_exit ?_ | refine And.intro rfl ?_ | intro b)); conv => whnf)
 | ((with_reducible refine WrapK.i64 ?_ ?_); (focus omega); conv => whnf)
 | ((with_reducible refine CallK.id ?_); refine CallK.s1V (by repeat (first | with_reducible apply Rm.head | apply Rm.tail)) (fun ms w hk => mlen1064 hml w) ?_; conv => whnf)
 | ((with_reducible apply OpK.more); (focus refine sok); (conv => whnf); fail_if_success guard_target =ₛ False)
 | ((with_reducible (first | refine InAt.mk (fun K' hK => ?_) | refine AnyAt.mk (fun K' hK => ?_) | (refine hK _ ?_; clear hK K') | (refine hK _ _ ?_; clear hK K'))); conv => whnf)
 | ((refine And.intro ?_ ?_); all_goals (conv => whnf))
 | (apply r_quiet; refine mixed; kernel_rfl; kernel_rfl; kernel_rfl; conv => whnf)
 | ((first | refine if_t (by decide) ?_ | refine if_f (by decide) ?_ | refine if_decT (by omega) ?_ | refine if_decF (by omega) ?_ | refine if_ndecT (by omega) ?_ | refine if_ndecF (by omega) ?_); conv => whnf)
 | ((first | refine if_dec (fun h => ?_) (fun h => ?_) | refine if_ndec (fun h => ?_) (fun h => ?_) | refine if_cond (fun h => ?_) (fun h => ?_)); all_goals (conv => whnf))
 | with_reducible apply_assumption -symm -exfalso)
    refine r_loop (α := Nat × Option Addr × Nat) (fun z => [(0, .loc d 0 0), (2, .loc b2 13 0), (3, .loc b3 90 0), (71, .v (.int .i64 (o.moves.length : Nat))), (72, .v (.int .i64 (z.1 : Nat)))]) (fun z => [.blk 90 b3 [.v (.int .i64 o.groups), .v (.int .i64 o.done), .v (.slice a o.sagas.length cap), .v (.slice z.2.1 z.1 z.2.2), .v (.slice ra.1 o.parts.length ra.2), .v (.slice wa.1 o.parts.length wa.2), .v (.slice ea.1 o.parts.length ea.2)] 72, .blk 13 b2 [.v (.int .i64 0), .v (.int .i64 0), .v (.slice none 0 0), .v (.slice none 0 0), .v (.slice none 0 0), .v (.slice none 0 0), .v (.slice none 0 0)] 72, .blk 0 d [.v (.int .i64 o.groups), .v (.int .i64 o.done), .loc t1 20 0, .loc t2 21 0, .loc t3 22 0] 121, .ext 1 (TabA t1 o.sagas), .ext 2 (MvsA t2 o.moves), .ext 3 (PtsA t3 o.parts), .ext 23 (SlA 37 2 ra.1 o.parts.length ra.2 (o.parts.flatMap rgC)), .ext 24 (SlA 3 1 wa.1 o.parts.length wa.2 (o.parts.flatMap gpC)), .ext 25 (SlA 3 1 ea.1 o.parts.length ea.2 (o.parts.flatMap ecC)), .ext 20 (SlA 76 11 a o.sagas.length cap (o.sagas.flatMap (nmC A))), .ext 21 (StA o.sagas A)] ++ [.ext 22 (SlA 83 6 z.2.1 z.1 z.2.2 ((o.moves.take z.1).flatMap mvC))]) (fun z => z.1 ≤ o.moves.length) (fun z => o.moves.length - z.1) (0, none, 0) (Nat.zero_le _) (by repeat' (first | exact Sub.nil | (refine Sub.cons rfl rfl ?_))) (HSub.addSlL (L' := [.blk 90 b3 [.v (.int .i64 o.groups), .v (.int .i64 o.done), .v (.slice a o.sagas.length cap), .v (.slice none 0 0), .v (.slice ra.1 o.parts.length ra.2), .v (.slice wa.1 o.parts.length wa.2), .v (.slice ea.1 o.parts.length ea.2)] 72, .blk 13 b2 [.v (.int .i64 0), .v (.int .i64 0), .v (.slice none 0 0), .v (.slice none 0 0), .v (.slice none 0 0), .v (.slice none 0 0), .v (.slice none 0 0)] 72, .blk 0 d [.v (.int .i64 o.groups), .v (.int .i64 o.done), .loc t1 20 0, .loc t2 21 0, .loc t3 22 0] 121, .ext 1 (TabA t1 o.sagas), .ext 2 (MvsA t2 o.moves), .ext 3 (PtsA t3 o.parts), .ext 23 (SlA 37 2 ra.1 o.parts.length ra.2 (o.parts.flatMap rgC)), .ext 24 (SlA 3 1 wa.1 o.parts.length wa.2 (o.parts.flatMap gpC)), .ext 25 (SlA 3 1 ea.1 o.parts.length ea.2 (o.parts.flatMap ecC)), .ext 20 (SlA 76 11 a o.sagas.length cap (o.sagas.flatMap (nmC A))), .ext 21 (StA o.sagas A)]) (by (try dsimp only [List.cons_append, List.nil_append, den, denL]); refine SelI.spec ?_; (repeat (first | refine SelI.blk (by repeat (first | with_reducible apply Rm.head | apply Rm.tail)) ?_ | refine SelI.ext (by repeat (first | with_reducible apply Rm.head | apply Rm.tail)) ?_ | (refine SelI.blk' (by repeat (first | with_reducible apply Rm.head | apply Rm.tail)) ?_ ?_; focus rfl) | (refine SelI.ext' (by repeat (first | with_reducible apply Rm.head | apply Rm.tail)) ?_ ?_; focus rfl))); exact SelI.nil)) ?_
    rintro ⟨i, a2, cap2⟩ hi KL hL2
    dsimp only [List.cons_append, List.nil_append] at hi ⊢
    by_cases hlt : i < o.moves.length
    · obtain ⟨m, hx⟩ : ∃ m, o.moves[i]? = some m := ⟨_, List.getElem?_eq_getElem hlt⟩
      have hsn := flat_snoc (g := mvC) hx
      repeat' (first
 | with_reducible (first | refine r_seq (fun KS hS => ?_) | (refine hS _ _ ?_; clear hS KS) | (refine hA _ ?_; clear hA KA) | (refine hB _ ?_; clear hB KB) | refine r_block ?_)
 | ((with_reducible (first | refine r_region ?_ | refine r_cond (fun KA hA KB hB => ?_) | refine r_ret ?_ | refine r_skip ?_ | refine r_exit ?_ | refine And.intro rfl ?_ | intro b)); conv => whnf)
 | ((with_reducible refine WrapK.i64 ?_ ?_); (focus omega); conv => whnf)
 | ((with_reducible refine CallK.id ?_); refine CallK.s1V (by repeat (first | with_reducible apply Rm.head | apply Rm.tail)) (fun ms w hk => mget1065 hx hml w) ?_; conv => whnf)
 | ((with_reducible refine OpK.id ?_); refine OpK.app (k := 6) rfl rfl rfl rfl rfl rfl rfl rfl (by repeat (first | with_reducible apply At.head | apply At.tail)) (SrcK.slc rfl rfl (by repeat (first | constructor | apply List.Mem.tail)) (Nat.le_refl _) rfl) (big_ok (by omega) (by decide)) (fun a' cap' => ?_); conv => whnf)
 | (refine hL2 (i + 1, a', cap') _ _ (by show i + 1 ≤ _; omega) (by show _ - (i + 1) < _ - i; omega) (by repeat' (first | exact Sub.nil | (refine Sub.cons rfl rfl ?_))) (by refine HSub.trans (HSub.app2 (A := [.blk 90 b3 [.v (.int .i64 o.groups), .v (.int .i64 o.done), .v (.slice a o.sagas.length cap), .v (.slice a' (i + 1) cap'), .v (.slice ra.1 o.parts.length ra.2), .v (.slice wa.1 o.parts.length wa.2), .v (.slice ea.1 o.parts.length ea.2)] 72, .blk 13 b2 [.v (.int .i64 0), .v (.int .i64 0), .v (.slice none 0 0), .v (.slice none 0 0), .v (.slice none 0 0), .v (.slice none 0 0), .v (.slice none 0 0)] 72, .blk 0 d [.v (.int .i64 o.groups), .v (.int .i64 o.done), .loc t1 20 0, .loc t2 21 0, .loc t3 22 0] 121, .ext 1 (TabA t1 o.sagas), .ext 2 (MvsA t2 o.moves), .ext 3 (PtsA t3 o.parts), .ext 23 (SlA 37 2 ra.1 o.parts.length ra.2 (o.parts.flatMap rgC)), .ext 24 (SlA 3 1 wa.1 o.parts.length wa.2 (o.parts.flatMap gpC)), .ext 25 (SlA 3 1 ea.1 o.parts.length ea.2 (o.parts.flatMap ecC)), .ext 20 (SlA 76 11 a o.sagas.length cap (o.sagas.flatMap (nmC A))), .ext 21 (StA o.sagas A)]) (HSub.refl _) (HSub.ext (i := 22) (j := 22) (fun w S h => by rw [← hsn]; exact h) HSub.nil)) ?_; dsimp only [List.cons_append, List.nil_append]; exact (by (try dsimp only [List.cons_append, List.nil_append, den, denL]); refine SelI.spec ?_; (repeat (first | refine SelI.blk (by repeat (first | with_reducible apply Rm.head | apply Rm.tail)) ?_ | refine SelI.ext (by repeat (first | with_reducible apply Rm.head | apply Rm.tail)) ?_ | (refine SelI.blk' (by repeat (first | with_reducible apply Rm.head | apply Rm.tail)) ?_ ?_; focus rfl) | (refine SelI.ext' (by repeat (first | with_reducible apply Rm.head | apply Rm.tail)) ?_ ?_; focus rfl))); exact SelI.nil)))
 | ((with_reducible apply OpK.more); (focus refine sok); (conv => whnf); fail_if_success guard_target =ₛ False)
 | ((with_reducible (first | refine InAt.mk (fun K' hK => ?_) | refine AnyAt.mk (fun K' hK => ?_) | (refine hK _ ?_; clear hK K') | (refine hK _ _ ?_; clear hK K'))); conv => whnf)
 | ((refine And.intro ?_ ?_); all_goals (conv => whnf))
 | (apply r_quiet; refine mixed; kernel_rfl; kernel_rfl; kernel_rfl; conv => whnf)
 | ((first | refine if_t (by decide) ?_ | refine if_f (by decide) ?_ | refine if_decT (by omega) ?_ | refine if_decF (by omega) ?_ | refine if_ndecT (by omega) ?_ | refine if_ndecF (by omega) ?_); conv => whnf)
 | ((first | refine if_dec (fun h => ?_) (fun h => ?_) | refine if_ndec (fun h => ?_) (fun h => ?_) | refine if_cond (fun h => ?_) (fun h => ?_)); all_goals (conv => whnf))
 | with_reducible apply_assumption -symm -exfalso)
    · obtain rfl : i = o.moves.length := by omega
      clear hL2
      rw [List.take_length]
      repeat' (first
 | with_reducible (first | refine r_seq (fun KS hS => ?_) | (refine hS _ _ ?_; clear hS KS) | (refine hA _ ?_; clear hA KA) | (refine hB _ ?_; clear hB KB) | refine r_block ?_)
 | ((with_reducible (first | refine r_region ?_ | refine r_cond (fun KA hA KB hB => ?_) | refine r_ret ?_ | refine r_skip ?_ | refine r_exit ?_ | refine And.intro rfl ?_ | intro b)); conv => whnf)
 | ((with_reducible refine WrapK.i64 ?_ ?_); (focus omega); conv => whnf)
 | ((with_reducible apply OpK.more); (focus refine sok); (conv => whnf); fail_if_success guard_target =ₛ False)
 | ((with_reducible (first | refine InAt.mk (fun K' hK => ?_) | refine AnyAt.mk (fun K' hK => ?_) | (refine hK _ ?_; clear hK K') | (refine hK _ _ ?_; clear hK K'))); conv => whnf)
 | ((refine And.intro ?_ ?_); all_goals (conv => whnf))
 | (apply r_quiet; refine mixed; kernel_rfl; kernel_rfl; kernel_rfl; conv => whnf)
 | ((first | refine if_t (by decide) ?_ | refine if_f (by decide) ?_ | refine if_decT (by omega) ?_ | refine if_decF (by omega) ?_ | refine if_ndecT (by omega) ?_ | refine if_ndecF (by omega) ?_); conv => whnf)
 | ((first | refine if_dec (fun h => ?_) (fun h => ?_) | refine if_ndec (fun h => ?_) (fun h => ?_) | refine if_cond (fun h => ?_) (fun h => ?_)); all_goals (conv => whnf))
 | with_reducible apply_assumption -symm -exfalso)
      refine FinK.frZL ⟨(a, cap), A, (a2, cap2), ra, wa, ea⟩ rfl (HSub.trans (HSub.app2 (A' := [.ext 12 (OrchA d o)]) (or_id (d := d) (s := o) (t1 := t1) (t2 := t2) (t3 := t3) (i := 0) (j := 1) (k := 2) (l := 3)) (HSub.refl (stateH o ⟨(a, cap), A, (a2, cap2), ra, wa, ea⟩))) ?_)
      dsimp only [stateH, List.cons_append, List.nil_append]
      exact (by (try dsimp only [List.cons_append, List.nil_append, den, denL]); refine SelI.spec ?_; (repeat (first | refine SelI.blk (by repeat (first | with_reducible apply Rm.head | apply Rm.tail)) ?_ | refine SelI.ext (by repeat (first | with_reducible apply Rm.head | apply Rm.tail)) ?_ | (refine SelI.blk' (by repeat (first | with_reducible apply Rm.head | apply Rm.tail)) ?_ ?_; focus rfl) | (refine SelI.ext' (by repeat (first | with_reducible apply Rm.head | apply Rm.tail)) ?_ ?_; focus rfl))); exact SelI.nil)
end Go.Proofs.YtjkmpaggfbghiaaGreatDoor

set_option linter.all false
namespace Go.Proofs.YtjkmpaggfbghiaaGreatDoor
open Go Go.X
set_option maxRecDepth 100000
set_option maxHeartbeats 0
theorem tm8 (x : Nat) : ((x : Nat) : Int).tmod 8 = ((x % 8 : Nat) : Int) := tmN x 8
theorem td8 (x : Nat) : ((x : Nat) : Int).tdiv 8 = ((x / 8 : Nat) : Int) := by
  rw [Int.tdiv_eq_ediv_of_nonneg (by omega)]; rfl
theorem bc2 {j k : Nat} (h : j ≤ 255) (h' : k ≤ 255) : denL [.v (.int .u8 ((j : Nat) : Int)), .v (.int .u8 ((k : Nat) : Int))] = bcells [UInt8.ofNat j, UInt8.ofNat k] := by
  have h1 : (UInt8.ofNat j).toNat = j := by rw [UInt8.toNat_ofNat']; omega
  have h2 : (UInt8.ofNat k).toNat = k := by rw [UInt8.toNat_ofNat']; omega
  simp [bcells, bcell, denL, den, h1, h2]
theorem str1032 (n : Nat) (hn : n ≤ 100) (w : World) : Pu Tryz.prog 32 #[.int .i64 (n : Nat)] w (.string (OM.strF n)) := by
  have hb := Nat.mod_lt n (show 8 > 0 by decide)
  have hd : n / 8 ≤ 100 := Nat.le_trans (Nat.div_le_self _ _) hn
  have hcs : denL [.v (.int .u8 ((97 + n / 8 : Nat) : Int)), .v (.int .u8 ((97 + n % 8 : Nat) : Int))] = bcells [UInt8.ofNat (97 + n / 8), UInt8.ofNat (97 + n % 8)] := bc2 (by omega) (by omega)
  refine enter_sound TBok Tryz.func32 rfl rfl Tryz.ntmps32 [.v (.int .i64 (n : Nat))] (Kn.start w noS) rfl rfl ?_
  conv => whnf
  repeat' (first
 | with_reducible ((first | refine r_seq (fun KS hS => ?_) | (refine hS _ _ ?_; clear hS KS)))
 | ((with_reducible (first | refine r_region ?_ | refine r_ret ?_ | intro b)); conv => whnf)
 | ((with_reducible refine RemK.id ?_); refine RemK.eq (by decide) (tm8 n) ?_; conv => whnf)
 | ((with_reducible refine QuoK.id ?_); refine QuoK.eq (by decide) (Eq.trans (IntWalk.i64_in _ (by rw [td8]; omega)) (td8 n)) ?_; conv => whnf)
 | ((with_reducible refine WrapK.id ?_); refine WrapK.eq (IntWalk.u8_in _ (by omega)) ?_; conv => whnf)
 | ((with_reducible refine OpK.id ?_); refine OpK.cvBL rfl rfl rfl rfl rfl rfl rfl rfl (by repeat (first | constructor | apply List.Mem.tail)) rfl hcs ?_; conv => whnf))
  all_goals exact FinK.pu rfl
theorem badNew1030 {g : Int} (hg : g < 2 ∨ 8 < g) (w : World) : Pu Tryz.prog 30 #[.int .i64 g] w (.tuple #[.pointer none, .int .i64 2]) := by
  refine enter_sound TBok Tryz.func30 rfl rfl Tryz.ntmps30 [.v (.int .i64 g)] (Kn.start w noS) rfl rfl ?_
  conv => whnf
  rcases hg with hg | hg
  all_goals (
    repeat' (first
 | with_reducible ((first | refine r_seq (fun KS hS => ?_) | (refine hS _ _ ?_; clear hS KS) | (refine hA _ ?_; clear hA KA)))
 | ((with_reducible (first | refine r_region ?_ | refine r_cond (fun KA hA KB hB => ?_) | refine r_ret ?_)); conv => whnf)
 | ((first | refine if_decT (by omega) ?_ | refine if_decF (by omega) ?_); conv => whnf))
    all_goals exact FinK.pu rfl
  )
theorem AssL.re3 {A B C : Ass} {i q j p k r : Nat} {M : List Blk} {w : World} {S : Nat → Prop} (h : (AssL (.ext i A :: .ext j B :: .ext k C :: M)).holds w S) : (AssL (.ext q A :: .ext p B :: .ext r C :: M)).holds w S := by
  have h : Holds w (.ext i A :: .ext j B :: .ext k C :: M) S := h
  cases h with
  | @cons _ _ S1 T1 hx hb hH hd => exact Holds.cons (x := .ext q A) hx hb (AssL.re2 (i := j) (j := k) hH) hd
theorem full_app {i : Nat} (h : i < 160) {c : OM.Cmd} {r : OM.Rep} (hc : OM.fullC i = c) (hr : OM.fullR i = r) {s s' : OM.St} (hs : s = OM.fullT i) (hs' : s' = OM.fullT (i + 1)) {d : Nat} {a : Option Addr} {cap q : Nat} {o0 o1 : Obj} (hko : KObj o0 o1) (ha : c.kind ≠ 11 → (a, cap) = (none, 0)) (w : World) :
    Fr Tryz.prog 14 #[pv d, .agg (denL (cmV c a c.d.steps.length cap)).toArray] w (AssL [.ext 12 (OrchA d s), .ext 9 (GlA o0 o1), .ext q (dfA c.d a cap)]) (rpV r) (AssL [.ext 12 (OrchA d s'), .ext 9 (GlA o0 o1), .ext q (dfA c.d a cap)]) := by
  subst hc
  subst hr
  subst hs
  subst hs'
  have := apply1014 (d := d) (a := a) (cap := cap) (c := OM.fullC i) hko (OM.full_inv i) (OM.full_at h).1 ha w
  rw [(OM.full_at h).2] at this
  intro S hS hlt
  refine (this S (AssL.re3 hS) hlt).mono ?_
  rintro e w' ⟨rfl, he, S', h1, h2⟩
  exact ⟨rfl, he, S', AssL.re3 h1, h2⟩
abbrev stC (n : Int) : OM.Cmd := { OM.zCmd with kind := 11, saga := n, d := OM.payD }
abbrev moC (i : Nat) : OM.Cmd := { OM.zCmd with kind := 14, r := ⟨OM.strF (2 * i), OM.strF (2 * i + 1)⟩, group := 2 }
abbrev ouX (j : Nat) : OM.Item := ⟨OM.zEff, ((j + 1 : Nat) : Int), false, 1⟩
abbrev inX (j : Nat) : OM.Item := ⟨OM.zEff, ((j + 1 : Nat) : Int), true, 2⟩
theorem fc_st {i : Nat} (h : i < 65) : OM.fullC i = stC (((i + 1 : Nat) : Int) * 100) := by unfold OM.fullC; rw [if_pos h]
theorem fr_st {i : Nat} (h : i < 64) : OM.fullR i = ⟨0, 0⟩ := by unfold OM.fullR; rw [if_pos h]
theorem fc_mo {i : Nat} (h : i < 32) : OM.fullC (66 + i) = moC i := by
  unfold OM.fullC
  rw [if_neg (by omega), if_neg (by omega), if_pos (by omega), show 66 + i - 66 = i by omega]
theorem fr_mo {i : Nat} (h : i < 31) : OM.fullR (66 + i) = ⟨0, (i : Int) + 1⟩ := by
  unfold OM.fullR
  rw [if_neg (by omega), if_neg (by omega), if_neg (by omega), if_pos (by omega), show 66 + i - 66 = i by omega]
  rfl
theorem fc_ou {j : Nat} (h : j < 31) : OM.fullC (98 + 2 * j) = OM.resC (ouX j) 0 OM.eps := by
  unfold OM.fullC
  rw [if_neg (by omega), if_neg (by omega), if_neg (by omega), if_pos (by omega), show (98 + 2 * j - 98) / 2 = j by omega]
theorem fc_in {j : Nat} (h : j < 31) : OM.fullC (98 + 2 * j + 1) = OM.resC (inX j) 0 OM.eps := by
  unfold OM.fullC
  rw [if_neg (by omega), if_neg (by omega), if_neg (by omega), if_neg (by omega), show (98 + 2 * j + 1 - 98) / 2 = j by omega]
theorem fr_re {k : Nat} (h : 98 ≤ k) : OM.fullR k = ⟨0, 0⟩ := by
  unfold OM.fullR
  rw [if_neg (by omega), if_neg (by omega), if_neg (by omega), if_neg (by omega), if_neg (by omega)]
theorem orchFull1007 {o0 o1 : Obj} {w : World} (hko : KObj o0 o1) :
    FrZ Tryz.prog 7 #[] w (AssL [.ext 9 (GlX o0 o1)]) (fun _ : Unit => .bool true) (fun _ => AssL [.ext 9 (GlA o0 o1)]) := by
  refine enter_frZ TBok (H := [.ext 9 (GlX o0 o1)]) all_foot Tryz.func7 rfl rfl Tryz.ntmps7 [] rfl rfl ?_
  intro S hz8 hz9
  clear hz8 hz9
  refine Run.hsub (H' := [.ext 9 (GlA o0 o1)]) glx_gl ?_
  conv => whnf
  repeat' (first
 | with_reducible refine r_stop 8 ?_
 | with_reducible ((first | refine r_seq (fun KS hS => ?_) | (refine hS _ _ ?_; clear hS KS) | (refine hA _ ?_; clear hA KA) | (refine hB _ ?_; clear hB KB) | refine r_block ?_))
 | ((with_reducible (first | refine r_region ?_ | refine r_cond (fun KA hA KB hB => ?_) | refine r_skip ?_ | refine r_exit ?_ | refine And.intro rfl ?_ | intro b)); conv => whnf)
 | ((with_reducible refine WrapK.i64 ?_ ?_); (focus omega); conv => whnf)
 | ((with_reducible refine CallK.at 30 ?_); refine CallK.pu (fun w => badNew1030 (by decide) w) ?_; conv => whnf)
 | ((with_reducible apply OpK.more); (focus refine sok); (conv => whnf); fail_if_success guard_target =ₛ False)
 | with_reducible (first | refine Rounds.step (fun KL hL => ?_) | refine r_rounds 100 ?_)
 | with_reducible apply_assumption -symm -exfalso)
  refine StopR.mk ?_
  repeat' (first
 | with_reducible ((first | refine r_seq (fun KS hS => ?_) | (refine hS _ _ ?_; clear hS KS) | (refine hB _ ?_; clear hB KB) | refine r_block ?_))
 | ((with_reducible (first | refine r_region ?_ | refine r_cond (fun KA hA KB hB => ?_) | refine r_skip ?_ | intro b)); conv => whnf)
 | ((with_reducible refine CallK.id ?_); refine CallK.fresh (fun ms w hk => new1030 (g := 8) (by decide) w) ?_; conv => whnf)
 | with_reducible apply_assumption -symm -exfalso)
  rename Nat => d
  refine r_loop (α := Nat × OM.St) (fun x => [(5, .v (pv d)), (7, .v (.int .i64 ((x.1 + 1 : Nat) : Int)))]) (fun x => [.ext 12 (OrchA d x.2), .ext 9 (GlA o0 o1)]) (fun x => x.1 ≤ 65 ∧ x.2 = OM.fullT x.1) (fun x => 65 - x.1) (0, OM.init 8) ⟨Nat.zero_le _, rfl⟩ (by repeat' (first | exact Sub.nil | (refine Sub.cons rfl rfl ?_))) (by (try dsimp only [List.cons_append, List.nil_append, den, denL]); refine SelI.spec ?_; (repeat (first | refine SelI.blk (by repeat (first | with_reducible apply Rm.head | apply Rm.tail)) ?_ | refine SelI.ext (by repeat (first | with_reducible apply Rm.head | apply Rm.tail)) ?_ | (refine SelI.blk' (by repeat (first | with_reducible apply Rm.head | apply Rm.tail)) ?_ ?_; focus rfl) | (refine SelI.ext' (by repeat (first | with_reducible apply Rm.head | apply Rm.tail)) ?_ ?_; focus rfl))); exact SelI.nil) ?_
  rintro ⟨i, s⟩ ⟨hi, hs⟩ KL hL2
  dsimp only at hi hs ⊢
  by_cases hlt : i < 65
  · obtain ⟨s', hs'⟩ : ∃ s', s' = OM.fullT (i + 1) := ⟨_, rfl⟩
    have hc := fc_st hlt
    by_cases h64 : i < 64
    · have hap1014 : ∀ (b : Nat) w, Fr Tryz.prog 14 #[pv d, .agg (denL (cmV (stC (((i + 1 : Nat) : Int) * 100)) (some ⟨b, 0, none⟩) 2 2)).toArray] w (AssL [.ext 12 (OrchA d s), .ext 9 (GlA o0 o1), .ext 200 (dfA OM.payD (some ⟨b, 0, none⟩) 2)]) (rpV ⟨0, 0⟩) (AssL [.ext 12 (OrchA d s'), .ext 9 (GlA o0 o1), .ext 200 (dfA OM.payD (some ⟨b, 0, none⟩) 2)]) := fun b w => full_app (by omega) hc (fr_st h64) hs hs' hko (fun h => absurd rfl h) w
      clear hs hc
      repeat' (first
 | with_reducible refine r_stop 17 ?_
 | with_reducible ((first | refine r_seq (fun KS hS => ?_) | (refine hS _ _ ?_; clear hS KS) | (refine hA _ ?_; clear hA KA) | (refine hB _ ?_; clear hB KB) | refine r_block ?_))
 | ((with_reducible (first | refine r_region ?_ | refine r_cond (fun KA hA KB hB => ?_) | refine r_skip ?_ | refine And.intro rfl ?_ | intro b)); conv => whnf)
 | ((first | refine if_decT (by omega) ?_ | refine if_decF (by omega) ?_); conv => whnf)
 | with_reducible apply_assumption -symm -exfalso)
      refine StopR.mk ?_
      refine r_seq (fun KS3 hS3 => ?_)
      refine r_par (β := Nat) (id := 17) [⟨0, [], none, fun _ _ => .v (pv d), fun _ _ => []⟩, ⟨1, [], none, fun _ _ => .v (.int .i64 ((i + 1 : Nat) : Int)), fun _ _ => []⟩, ⟨2, [1], none, fun _ _ => .v (.int .i64 (((i + 1 : Nat) : Int) * 100)), fun _ _ => []⟩, ⟨3, [], some 100, fun _ q2 => .v (.agg #[.string OM.payD.name, .int .i64 OM.payD.retries, .int .i64 OM.payD.deadline, .slice (some ⟨q2, 0, none⟩) OM.payD.steps.length 2]), fun _ q2 => [.ext 12 (OrchA d s), .ext 9 (GlA o0 o1), .ext 200 (dfA OM.payD (some ⟨q2, 0, none⟩) 2)]⟩, ⟨4, [2, 3], none, fun l _ => match l with | [_, z3] => .agg (cmV (stC (((i + 1 : Nat) : Int) * 100)) (some ⟨z3, 0, none⟩) 2 2) | _ => .v undef, fun _ _ => []⟩, ⟨5, [0, 4, 3], some 3, fun _ _ => .agg [.v (.int .i64 0), .v (.int .i64 0), .v (.string ⟨#[]⟩)], fun l _ => match l with | [_, _, z3] => [.ext 12 (OrchA d s'), .ext 9 (GlA o0 o1), .ext 200 (dfA OM.payD (some ⟨z3, 0, none⟩) 2)] | _ => []⟩, ⟨6, [], none, fun _ _ => .agg [.v (.int .i64 0), .v (.int .i64 0), .v (.string ⟨#[]⟩)], fun _ _ => []⟩, ⟨7, [5, 6], none, fun _ _ => .v (.bool false), fun _ _ => []⟩] [⟨100, [], none, fun _ _ => .v undef, fun _ _ => [.ext 12 (OrchA d s), .ext 9 (GlA o0 o1)]⟩] 0 [.blk 13 b [.v (.int .i64 0), .v (.int .i64 0), .v (.string ⟨#[]⟩)] 34] mixed (by kernel_rfl) (by kernel_rfl) (by show HSub [.ext 12 (OrchA d s), .ext 9 (GlA o0 o1), .blk 13 b [.v (.int .i64 0), .v (.int .i64 0), .v (.string ⟨#[]⟩)] 34] _; exact (by (try dsimp only [List.cons_append, List.nil_append, den, denL]); refine SelI.spec ?_; (repeat (first | refine SelI.blk (by repeat (first | with_reducible apply Rm.head | apply Rm.tail)) ?_ | refine SelI.ext (by repeat (first | with_reducible apply Rm.head | apply Rm.tail)) ?_ | (refine SelI.blk' (by repeat (first | with_reducible apply Rm.head | apply Rm.tail)) ?_ ?_; focus rfl) | (refine SelI.ext' (by repeat (first | with_reducible apply Rm.head | apply Rm.tail)) ?_ ?_; focus rfl))); exact SelI.nil)) ?_ ?_
      · conv => whnf
        repeat' (first | ((with_reducible refine And.intro ?_ ?_); all_goals (conv => whnf)) | ((with_reducible intro zz2 AA KP hP); conv => whnf))
        repeat' (first
 | ((with_reducible intro b); conv => whnf)
 | ((with_reducible refine WrapK.i64 ?_ ?_); (focus omega); conv => whnf)
 | ((with_reducible refine CallK.id ?_); (first | refine CallK.fresh (fun ms w hk => pay1031 w) ?_ | (refine CallK.selS (.agg [.v (.int .i64 0), .v (.int .i64 0), .v (.string ⟨#[]⟩)]) rfl (by apply Sel.cons; (case h => repeat (first | with_reducible apply Rm.head | apply Rm.tail)); apply Sel.cons; (case h => repeat (first | with_reducible apply Rm.head | apply Rm.tail)); apply Sel.cons; (case h => repeat (first | with_reducible apply Rm.head | apply Rm.tail)); exact Sel.nil) (fun ms w hk => hap1014 _ w) ?_; dsimp only [layF])); conv => whnf)
 | (((with_reducible apply OpK.more); (focus refine sok2); (conv => whnf); fail_if_success guard_target =ₛ False))
 | ((with_reducible apply hP); all_goals (first | exact default | ((repeat' (first | exact SubD.nil | (refine SubD.cons rfl rfl ?_) | (refine SubD.cons rfl (by simp [den]) ?_))); done) | ((try dsimp only [mapZ, List.cons_append, List.nil_append, den, denL]); refine SelI.spec ?_; repeat (first | apply SelI.nil | refine SelI.blk (by repeat (first | with_reducible apply Rm.head | apply Rm.tail)) ?_ | refine SelI.ext (by repeat (first | with_reducible apply Rm.head | apply Rm.tail)) ?_ | (refine SelI.blk' (by repeat (first | with_reducible apply Rm.head | apply Rm.tail)) ?_ ?_; focus rfl) | (refine SelI.ext' (by repeat (first | with_reducible apply Rm.head | apply Rm.tail)) ?_ ?_; focus rfl))))))
      conv => whnf
      intro zz2
      conv => whnf
      try dsimp only
      repeat' (first
 | with_reducible (refine hB _ ?_; clear hB KB)
 | ((with_reducible (first | refine r_region ?_ | refine r_cond (fun KA hA KB hB => ?_) | refine r_skip ?_)); conv => whnf)
 | ((with_reducible refine WrapK.i64 ?_ ?_); (focus omega); conv => whnf)
 | (refine hL2 (i + 1, s') _ _ ⟨by show i + 1 ≤ _; omega, hs'⟩ (by show _ - (i + 1) < _ - i; omega) (by repeat' (first | exact Sub.nil | (refine Sub.cons rfl rfl ?_))) (by (try dsimp only [List.cons_append, List.nil_append, den, denL]); refine SelI.spec ?_; (repeat (first | refine SelI.blk (by repeat (first | with_reducible apply Rm.head | apply Rm.tail)) ?_ | refine SelI.ext (by repeat (first | with_reducible apply Rm.head | apply Rm.tail)) ?_ | (refine SelI.blk' (by repeat (first | with_reducible apply Rm.head | apply Rm.tail)) ?_ ?_; focus rfl) | (refine SelI.ext' (by repeat (first | with_reducible apply Rm.head | apply Rm.tail)) ?_ ?_; focus rfl))); exact SelI.nil))
 | with_reducible apply_assumption -symm -exfalso)
    · obtain rfl : i = 64 := by omega
      have hap1014 : ∀ (b : Nat) w, Fr Tryz.prog 14 #[pv d, .agg (denL (cmV (stC (((64 + 1 : Nat) : Int) * 100)) (some ⟨b, 0, none⟩) 2 2)).toArray] w (AssL [.ext 12 (OrchA d s), .ext 9 (GlA o0 o1), .ext 200 (dfA OM.payD (some ⟨b, 0, none⟩) 2)]) (rpV ⟨4, 0⟩) (AssL [.ext 12 (OrchA d s'), .ext 9 (GlA o0 o1), .ext 200 (dfA OM.payD (some ⟨b, 0, none⟩) 2)]) := fun b w => full_app (by omega) hc rfl hs hs' hko (fun h => absurd rfl h) w
      clear hs hc
      repeat' (first
 | with_reducible refine r_stop 17 ?_
 | with_reducible ((first | refine r_seq (fun KS hS => ?_) | (refine hS _ _ ?_; clear hS KS) | (refine hA _ ?_; clear hA KA) | refine r_block ?_))
 | ((with_reducible (first | refine r_region ?_ | refine r_cond (fun KA hA KB hB => ?_) | refine r_skip ?_ | refine And.intro rfl ?_ | intro b)); conv => whnf)
 | with_reducible apply_assumption -symm -exfalso)
      refine StopR.mk ?_
      refine r_seq (fun KS3 hS3 => ?_)
      refine r_par (β := Nat) (id := 17) [⟨0, [], none, fun _ _ => .v (pv d), fun _ _ => []⟩, ⟨1, [], none, fun _ _ => .v (.int .i64 ((64 + 1 : Nat) : Int)), fun _ _ => []⟩, ⟨2, [1], none, fun _ _ => .v (.int .i64 (((64 + 1 : Nat) : Int) * 100)), fun _ _ => []⟩, ⟨3, [], some 100, fun _ q2 => .v (.agg #[.string OM.payD.name, .int .i64 OM.payD.retries, .int .i64 OM.payD.deadline, .slice (some ⟨q2, 0, none⟩) OM.payD.steps.length 2]), fun _ q2 => [.ext 12 (OrchA d s), .ext 9 (GlA o0 o1), .ext 200 (dfA OM.payD (some ⟨q2, 0, none⟩) 2)]⟩, ⟨4, [2, 3], none, fun l _ => match l with | [_, z3] => .agg (cmV (stC (((64 + 1 : Nat) : Int) * 100)) (some ⟨z3, 0, none⟩) 2 2) | _ => .v undef, fun _ _ => []⟩, ⟨5, [0, 4, 3], some 3, fun _ _ => .agg [.v (.int .i64 4), .v (.int .i64 0), .v (.string ⟨#[]⟩)], fun l _ => match l with | [_, _, z3] => [.ext 12 (OrchA d s'), .ext 9 (GlA o0 o1), .ext 200 (dfA OM.payD (some ⟨z3, 0, none⟩) 2)] | _ => []⟩, ⟨6, [], none, fun _ _ => .agg [.v (.int .i64 4), .v (.int .i64 0), .v (.string ⟨#[]⟩)], fun _ _ => []⟩, ⟨7, [5, 6], none, fun _ _ => .v (.bool false), fun _ _ => []⟩] [⟨100, [], none, fun _ _ => .v undef, fun _ _ => [.ext 12 (OrchA d s), .ext 9 (GlA o0 o1)]⟩] 0 [.blk 13 b [.v (.int .i64 4), .v (.int .i64 0), .v (.string ⟨#[]⟩)] 34] mixed (by kernel_rfl) (by kernel_rfl) (by show HSub [.ext 12 (OrchA d s), .ext 9 (GlA o0 o1), .blk 13 b [.v (.int .i64 4), .v (.int .i64 0), .v (.string ⟨#[]⟩)] 34] _; exact (by (try dsimp only [List.cons_append, List.nil_append, den, denL]); refine SelI.spec ?_; (repeat (first | refine SelI.blk (by repeat (first | with_reducible apply Rm.head | apply Rm.tail)) ?_ | refine SelI.ext (by repeat (first | with_reducible apply Rm.head | apply Rm.tail)) ?_ | (refine SelI.blk' (by repeat (first | with_reducible apply Rm.head | apply Rm.tail)) ?_ ?_; focus rfl) | (refine SelI.ext' (by repeat (first | with_reducible apply Rm.head | apply Rm.tail)) ?_ ?_; focus rfl))); exact SelI.nil)) ?_ ?_
      · conv => whnf
        repeat' (first | ((with_reducible refine And.intro ?_ ?_); all_goals (conv => whnf)) | ((with_reducible intro zz2 AA KP hP); conv => whnf))
        repeat' (first
 | ((with_reducible intro b); conv => whnf)
 | ((with_reducible refine WrapK.i64 ?_ ?_); (focus omega); conv => whnf)
 | ((with_reducible refine CallK.id ?_); (first | refine CallK.fresh (fun ms w hk => pay1031 w) ?_ | (refine CallK.selS (.agg [.v (.int .i64 4), .v (.int .i64 0), .v (.string ⟨#[]⟩)]) rfl (by apply Sel.cons; (case h => repeat (first | with_reducible apply Rm.head | apply Rm.tail)); apply Sel.cons; (case h => repeat (first | with_reducible apply Rm.head | apply Rm.tail)); apply Sel.cons; (case h => repeat (first | with_reducible apply Rm.head | apply Rm.tail)); exact Sel.nil) (fun ms w hk => hap1014 _ w) ?_; dsimp only [layF])); conv => whnf)
 | (((with_reducible apply OpK.more); (focus refine sok2); (conv => whnf); fail_if_success guard_target =ₛ False))
 | ((with_reducible apply hP); all_goals (first | exact default | ((repeat' (first | exact SubD.nil | (refine SubD.cons rfl rfl ?_) | (refine SubD.cons rfl (by simp [den]) ?_))); done) | ((try dsimp only [mapZ, List.cons_append, List.nil_append, den, denL]); refine SelI.spec ?_; repeat (first | apply SelI.nil | refine SelI.blk (by repeat (first | with_reducible apply Rm.head | apply Rm.tail)) ?_ | refine SelI.ext (by repeat (first | with_reducible apply Rm.head | apply Rm.tail)) ?_ | (refine SelI.blk' (by repeat (first | with_reducible apply Rm.head | apply Rm.tail)) ?_ ?_; focus rfl) | (refine SelI.ext' (by repeat (first | with_reducible apply Rm.head | apply Rm.tail)) ?_ ?_; focus rfl))))))
      conv => whnf
      intro zz2
      conv => whnf
      try dsimp only
      repeat' (first
 | with_reducible (refine hB _ ?_; clear hB KB)
 | ((with_reducible (first | refine r_region ?_ | refine r_cond (fun KA hA KB hB => ?_) | refine r_skip ?_)); conv => whnf)
 | ((with_reducible refine WrapK.i64 ?_ ?_); (focus omega); conv => whnf)
 | (refine hL2 (64 + 1, s') _ _ ⟨by show 64 + 1 ≤ 65; decide, hs'⟩ (by show 65 - (64 + 1) < 65 - 64; decide) (by repeat' (first | exact Sub.nil | (refine Sub.cons rfl rfl ?_))) (by (try dsimp only [List.cons_append, List.nil_append, den, denL]); refine SelI.spec ?_; (repeat (first | refine SelI.blk (by repeat (first | with_reducible apply Rm.head | apply Rm.tail)) ?_ | refine SelI.ext (by repeat (first | with_reducible apply Rm.head | apply Rm.tail)) ?_ | (refine SelI.blk' (by repeat (first | with_reducible apply Rm.head | apply Rm.tail)) ?_ ?_; focus rfl) | (refine SelI.ext' (by repeat (first | with_reducible apply Rm.head | apply Rm.tail)) ?_ ?_; focus rfl))); exact SelI.nil))
 | with_reducible apply_assumption -symm -exfalso)
  · obtain rfl : i = 65 := by omega
    clear hL2
    obtain ⟨s', hs'⟩ : ∃ s', s' = OM.fullT 66 := ⟨_, rfl⟩
    have hap1014 : ∀ (b : Nat) w, Fr Tryz.prog 14 #[pv d, .agg (denL (cmV (stC 100) (some ⟨b, 0, none⟩) 2 2)).toArray] w (AssL [.ext 12 (OrchA d s), .ext 9 (GlA o0 o1), .ext 13 (dfA OM.payD (some ⟨b, 0, none⟩) 2)]) (rpV ⟨6, 0⟩) (AssL [.ext 12 (OrchA d s'), .ext 9 (GlA o0 o1), .ext 13 (dfA OM.payD (some ⟨b, 0, none⟩) 2)]) := fun b w => full_app (i := 65) (by omega) rfl rfl hs hs' hko (fun h => absurd rfl h) w
    have hIs : OM.Inv s' := by rw [hs']; exact OM.full_inv 66
    have hit1012 := fun w => items1012 (d := d) hko hIs w
    have hil : s'.items.length = 64 := by rw [hs']; exact OM.full_items
    rw [hil] at hit1012
    clear hs
    repeat' (first
 | with_reducible ((first | refine r_seq (fun KS hS => ?_) | (refine hS _ _ ?_; clear hS KS) | (refine hB _ ?_; clear hB KB) | refine r_block ?_))
 | ((with_reducible (first | refine r_region ?_ | refine r_cond (fun KA hA KB hB => ?_) | refine r_skip ?_ | refine r_exit ?_ | intro b)); conv => whnf)
 | ((with_reducible refine CallK.id ?_); (first | refine CallK.fresh (fun ms w hk => pay1031 w) ?_ | (refine CallK.selS (.agg [.v (.int .i64 6), .v (.int .i64 0), .v (.string ⟨#[]⟩)]) rfl (by apply Sel.cons; (case h => repeat (first | with_reducible apply Rm.head | apply Rm.tail)); apply Sel.cons; (case h => repeat (first | with_reducible apply Rm.head | apply Rm.tail)); apply Sel.cons; (case h => repeat (first | with_reducible apply Rm.head | apply Rm.tail)); exact Sel.nil) (fun ms w hk => hap1014 b w) ?_; dsimp only [layF])); conv => whnf)
 | (((with_reducible apply OpK.more); (focus refine sok2); (conv => whnf); fail_if_success guard_target =ₛ False))
 | ((with_reducible refine CallK.id ?_); refine CallK.s2 (by repeat (first | with_reducible apply Rm.head | apply Rm.tail)) (by repeat (first | with_reducible apply Rm.head | apply Rm.tail)) (fun ms w hk => hit1012 w) ?_; conv => whnf)
 | with_reducible apply_assumption -symm -exfalso)
    clear hIs hit1012 hil hap1014 hi hlt
    refine r_loop (α := Nat × OM.St) (fun x => [(5, .v (pv d)), (9, .fn 32 []), (69, .v (.int .i64 (x.1 : Nat)))]) (fun x => [.ext 12 (OrchA d x.2), .ext 9 (GlA o0 o1), .ext 8 (dfA OM.zDef none 0)]) (fun x => x.1 ≤ 32 ∧ x.2 = OM.fullT (66 + x.1)) (fun x => 32 - x.1) (0, s') ⟨Nat.zero_le _, hs'⟩ (by repeat' (first | exact Sub.nil | (refine Sub.cons rfl rfl ?_))) (HSub.addSlL (L' := [.ext 12 (OrchA d s'), .ext 9 (GlA o0 o1)]) (by (try dsimp only [List.cons_append, List.nil_append, den, denL]); refine SelI.spec ?_; (repeat (first | refine SelI.blk (by repeat (first | with_reducible apply Rm.head | apply Rm.tail)) ?_ | refine SelI.ext (by repeat (first | with_reducible apply Rm.head | apply Rm.tail)) ?_ | (refine SelI.blk' (by repeat (first | with_reducible apply Rm.head | apply Rm.tail)) ?_ ?_; focus rfl) | (refine SelI.ext' (by repeat (first | with_reducible apply Rm.head | apply Rm.tail)) ?_ ?_; focus rfl))); exact SelI.nil)) ?_
    clear hs'
    rintro ⟨i, s⟩ ⟨hi, hs⟩ KL2 hL3
    dsimp only at hi hs ⊢
    by_cases hlt : i < 32
    · obtain ⟨s', hs'⟩ : ∃ s', s' = OM.fullT (66 + (i + 1)) := ⟨_, rfl⟩
      have hc := fc_mo hlt
      by_cases h31 : i < 31
      · have hap1014 : ∀ w, Fr Tryz.prog 14 #[pv d, .agg (denL (cmV (moC i) none 0 0)).toArray] w (AssL [.ext 12 (OrchA d s), .ext 9 (GlA o0 o1), .ext 8 (dfA OM.zDef none 0)]) (rpV ⟨0, (i : Int) + 1⟩) (AssL [.ext 12 (OrchA d s'), .ext 9 (GlA o0 o1), .ext 8 (dfA OM.zDef none 0)]) := fun w => full_app (i := 66 + i) (by omega) hc (fr_mo h31) hs hs' hko (fun _ => rfl) w
        clear hs hc
        have hcomp : (!(decide ((0 : Int) = 0) && (decide ((i : Int) + 1 = (i : Int) + 1) && (decide ((⟨#[]⟩ : ByteArray) = ⟨#[]⟩) && true)))) = false := by simp
        repeat' (first
 | with_reducible ((first | refine r_seq (fun KS hS => ?_) | (refine hS _ _ ?_; clear hS KS) | (refine hA _ ?_; clear hA KA) | (refine hB _ ?_; clear hB KB) | refine r_block ?_))
 | ((with_reducible (first | refine r_region ?_ | refine r_cond (fun KA hA KB hB => ?_) | refine r_skip ?_ | refine And.intro rfl ?_ | intro b)); conv => whnf)
 | ((with_reducible refine WrapK.i64 ?_ ?_); (focus omega); conv => whnf)
 | ((with_reducible refine CallK.at 32 ?_); (first | refine CallK.pu (fun w => str1032 (2 * i) (by omega) w) ?_ | refine CallK.pu (fun w => str1032 (2 * i + 1) (by omega) w) ?_); conv => whnf)
 | ((with_reducible refine CallK.id ?_); refine CallK.selS (.agg [.v (.int .i64 0), .v (.int .i64 ((i : Int) + 1)), .v (.string ⟨#[]⟩)]) rfl (by apply Sel.cons; (case h => repeat (first | with_reducible apply Rm.head | apply Rm.tail)); apply Sel.cons; (case h => repeat (first | with_reducible apply Rm.head | apply Rm.tail)); apply Sel.cons; (case h => repeat (first | with_reducible apply Rm.head | apply Rm.tail)); exact Sel.nil) (fun ms w hk => hap1014 w) ?_; dsimp only [layF]; conv => whnf)
 | (((with_reducible apply OpK.more); (focus refine sok2); (conv => whnf); fail_if_success guard_target =ₛ False))
 | (refine if_f hcomp ?_; conv => whnf)
 | (refine hL3 (i + 1, s') _ _ ⟨by show i + 1 ≤ _; omega, hs'⟩ (by show _ - (i + 1) < _ - i; omega) (by repeat' (first | exact Sub.nil | (refine Sub.cons rfl rfl ?_))) (by (try dsimp only [List.cons_append, List.nil_append, den, denL]); refine SelI.spec ?_; (repeat (first | refine SelI.blk (by repeat (first | with_reducible apply Rm.head | apply Rm.tail)) ?_ | refine SelI.ext (by repeat (first | with_reducible apply Rm.head | apply Rm.tail)) ?_ | (refine SelI.blk' (by repeat (first | with_reducible apply Rm.head | apply Rm.tail)) ?_ ?_; focus rfl) | (refine SelI.ext' (by repeat (first | with_reducible apply Rm.head | apply Rm.tail)) ?_ ?_; focus rfl))); exact SelI.nil))
 | ((first | refine if_decT (by omega) ?_ | refine if_decF (by omega) ?_); conv => whnf)
 | with_reducible apply_assumption -symm -exfalso)
      · obtain rfl : i = 31 := by omega
        have hap1014 : ∀ w, Fr Tryz.prog 14 #[pv d, .agg (denL (cmV (moC 31) none 0 0)).toArray] w (AssL [.ext 12 (OrchA d s), .ext 9 (GlA o0 o1), .ext 8 (dfA OM.zDef none 0)]) (rpV ⟨4, 0⟩) (AssL [.ext 12 (OrchA d s'), .ext 9 (GlA o0 o1), .ext 8 (dfA OM.zDef none 0)]) := fun w => full_app (i := 66 + 31) (by omega) hc rfl hs hs' hko (fun _ => rfl) w
        clear hs hc
        repeat' (first
 | with_reducible ((first | refine r_seq (fun KS hS => ?_) | (refine hS _ _ ?_; clear hS KS) | (refine hA _ ?_; clear hA KA) | (refine hB _ ?_; clear hB KB) | refine r_block ?_))
 | ((with_reducible (first | refine r_region ?_ | refine r_cond (fun KA hA KB hB => ?_) | refine r_skip ?_ | refine And.intro rfl ?_ | intro b)); conv => whnf)
 | ((with_reducible refine WrapK.i64 ?_ ?_); (focus omega); conv => whnf)
 | ((with_reducible refine CallK.at 32 ?_); (first | refine CallK.pu (fun w => str1032 (2 * 31) (by omega) w) ?_ | refine CallK.pu (fun w => str1032 (2 * 31 + 1) (by omega) w) ?_); conv => whnf)
 | ((with_reducible refine CallK.id ?_); refine CallK.selS (.agg [.v (.int .i64 4), .v (.int .i64 0), .v (.string ⟨#[]⟩)]) rfl (by apply Sel.cons; (case h => repeat (first | with_reducible apply Rm.head | apply Rm.tail)); apply Sel.cons; (case h => repeat (first | with_reducible apply Rm.head | apply Rm.tail)); apply Sel.cons; (case h => repeat (first | with_reducible apply Rm.head | apply Rm.tail)); exact Sel.nil) (fun ms w hk => hap1014 w) ?_; dsimp only [layF]; conv => whnf)
 | (((with_reducible apply OpK.more); (focus refine sok2); (conv => whnf); fail_if_success guard_target =ₛ False))
 | (refine hL3 (31 + 1, s') _ _ ⟨by show 31 + 1 ≤ 32; decide, hs'⟩ (by show 32 - (31 + 1) < 32 - 31; decide) (by repeat' (first | exact Sub.nil | (refine Sub.cons rfl rfl ?_))) (by (try dsimp only [List.cons_append, List.nil_append, den, denL]); refine SelI.spec ?_; (repeat (first | refine SelI.blk (by repeat (first | with_reducible apply Rm.head | apply Rm.tail)) ?_ | refine SelI.ext (by repeat (first | with_reducible apply Rm.head | apply Rm.tail)) ?_ | (refine SelI.blk' (by repeat (first | with_reducible apply Rm.head | apply Rm.tail)) ?_ ?_; focus rfl) | (refine SelI.ext' (by repeat (first | with_reducible apply Rm.head | apply Rm.tail)) ?_ ?_; focus rfl))); exact SelI.nil))
 | with_reducible apply_assumption -symm -exfalso)
    · obtain rfl : i = 32 := by omega
      clear hL3
      repeat' (first
 | with_reducible ((first | refine r_seq (fun KS hS => ?_) | (refine hS _ _ ?_; clear hS KS) | (refine hB _ ?_; clear hB KB) | refine r_block ?_))
 | ((with_reducible (first | refine r_region ?_ | refine r_cond (fun KA hA KB hB => ?_) | refine r_exit ?_)); conv => whnf)
 | with_reducible apply_assumption -symm -exfalso)
      refine r_loop (α := Nat × OM.St) (fun x => [(5, .v (pv d)), (9, .fn 32 []), (12, .v (.int .i64 ((x.1 + 1 : Nat) : Int)))]) (fun x => [.ext 12 (OrchA d x.2), .ext 9 (GlA o0 o1), .ext 8 (dfA OM.zDef none 0)]) (fun x => x.1 ≤ 31 ∧ x.2 = OM.fullT (98 + 2 * x.1)) (fun x => 31 - x.1) (0, s) ⟨Nat.zero_le _, hs⟩ (by repeat' (first | exact Sub.nil | (refine Sub.cons rfl rfl ?_))) (by (try dsimp only [List.cons_append, List.nil_append, den, denL]); refine SelI.spec ?_; (repeat (first | refine SelI.blk (by repeat (first | with_reducible apply Rm.head | apply Rm.tail)) ?_ | refine SelI.ext (by repeat (first | with_reducible apply Rm.head | apply Rm.tail)) ?_ | (refine SelI.blk' (by repeat (first | with_reducible apply Rm.head | apply Rm.tail)) ?_ ?_; focus rfl) | (refine SelI.ext' (by repeat (first | with_reducible apply Rm.head | apply Rm.tail)) ?_ ?_; focus rfl))); exact SelI.nil) ?_
      clear hs hi hlt
      rintro ⟨j, s⟩ ⟨hj, hs⟩ KL3 hL4
      dsimp only at hj hs ⊢
      by_cases hlt : j < 31
      · obtain ⟨s1, hs1⟩ : ∃ s', s' = OM.fullT (98 + 2 * j + 1) := ⟨_, rfl⟩
        obtain ⟨s2, hs2⟩ : ∃ s', s' = OM.fullT (98 + 2 * j + 1 + 1) := ⟨_, rfl⟩
        have hs3 : s2 = OM.fullT (98 + 2 * (j + 1)) := hs2
        have hap1014 : ∀ w, Fr Tryz.prog 14 #[pv d, .agg (denL (cmV (OM.resC (ouX j) 0 OM.eps) none 0 0)).toArray] w (AssL [.ext 12 (OrchA d s), .ext 9 (GlA o0 o1), .ext 8 (dfA OM.zDef none 0)]) (rpV ⟨0, 0⟩) (AssL [.ext 12 (OrchA d s1), .ext 9 (GlA o0 o1), .ext 8 (dfA OM.zDef none 0)]) := fun w => full_app (i := 98 + 2 * j) (by omega) (fc_ou hlt) (fr_re (by omega)) hs hs1 hko (fun _ => rfl) w
        have hbp1014 : ∀ w, Fr Tryz.prog 14 #[pv d, .agg (denL (cmV (OM.resC (inX j) 0 OM.eps) none 0 0)).toArray] w (AssL [.ext 12 (OrchA d s1), .ext 9 (GlA o0 o1), .ext 8 (dfA OM.zDef none 0)]) (rpV ⟨0, 0⟩) (AssL [.ext 12 (OrchA d s2), .ext 9 (GlA o0 o1), .ext 8 (dfA OM.zDef none 0)]) := fun w => full_app (i := 98 + 2 * j + 1) (by omega) (fc_in hlt) (fr_re (by omega)) hs1 hs2 hko (fun _ => rfl) w
        clear hs hs1 hs2
        repeat' (first
 | with_reducible ((first | refine r_seq (fun KS hS => ?_) | (refine hS _ _ ?_; clear hS KS) | (refine hA _ ?_; clear hA KA) | (refine hB _ ?_; clear hB KB) | refine r_block ?_))
 | ((with_reducible (first | refine r_region ?_ | refine r_cond (fun KA hA KB hB => ?_) | refine r_skip ?_)); conv => whnf)
 | ((with_reducible refine WrapK.i64 ?_ ?_); (focus omega); conv => whnf)
 | ((with_reducible refine CallK.at 15 ?_); (first | refine CallK.pu (fun w => result1015 (ouX j) 0 OM.eps w) ?_ | refine CallK.pu (fun w => result1015 (inX j) 0 OM.eps w) ?_); conv => whnf)
 | ((with_reducible refine CallK.id ?_); (first | (refine CallK.selS (.agg [.v (.int .i64 0), .v (.int .i64 0), .v (.string ⟨#[]⟩)]) rfl (by apply Sel.cons; (case h => repeat (first | with_reducible apply Rm.head | apply Rm.tail)); apply Sel.cons; (case h => repeat (first | with_reducible apply Rm.head | apply Rm.tail)); apply Sel.cons; (case h => repeat (first | with_reducible apply Rm.head | apply Rm.tail)); exact Sel.nil) (fun ms w hk => hap1014 w) ?_; dsimp only [layF]) | (refine CallK.selS (.agg [.v (.int .i64 0), .v (.int .i64 0), .v (.string ⟨#[]⟩)]) rfl (by apply Sel.cons; (case h => repeat (first | with_reducible apply Rm.head | apply Rm.tail)); apply Sel.cons; (case h => repeat (first | with_reducible apply Rm.head | apply Rm.tail)); apply Sel.cons; (case h => repeat (first | with_reducible apply Rm.head | apply Rm.tail)); exact Sel.nil) (fun ms w hk => hbp1014 w) ?_; dsimp only [layF])); conv => whnf)
 | (((with_reducible apply OpK.more); (focus refine sok2); (conv => whnf); fail_if_success guard_target =ₛ False))
 | (refine hL4 (j + 1, s2) _ _ ⟨by show j + 1 ≤ _; omega, hs3⟩ (by show _ - (j + 1) < _ - j; omega) (by repeat' (first | exact Sub.nil | (refine Sub.cons rfl rfl ?_))) (by (try dsimp only [List.cons_append, List.nil_append, den, denL]); refine SelI.spec ?_; (repeat (first | refine SelI.blk (by repeat (first | with_reducible apply Rm.head | apply Rm.tail)) ?_ | refine SelI.ext (by repeat (first | with_reducible apply Rm.head | apply Rm.tail)) ?_ | (refine SelI.blk' (by repeat (first | with_reducible apply Rm.head | apply Rm.tail)) ?_ ?_; focus rfl) | (refine SelI.ext' (by repeat (first | with_reducible apply Rm.head | apply Rm.tail)) ?_ ?_; focus rfl))); exact SelI.nil))
 | (refine if_decT (by omega) ?_; conv => whnf)
 | with_reducible apply_assumption -symm -exfalso)
      · obtain rfl : j = 31 := by omega
        clear hL4
        have hIs : OM.Inv s := by rw [hs]; exact OM.full_inv 160
        have hpl : s.parts.length = 63 := by rw [hs]; exact OM.full_end.1
        have hr1021 := fun w => route1021 (d := d) (o := s) (key := OM.strF 1 ++ ⟨#[97]⟩) hIs (by decide +kernel) w
        have hr2021 := fun w => route1021 (d := d) (o := s) (key := OM.strF 60 ++ ⟨#[53]⟩) hIs (by decide +kernel) w
        have he1 : s.route (OM.strF 1 ++ ⟨#[97]⟩) = 1 := by rw [hs]; exact OM.full_end.2.1
        have he2 : s.route (OM.strF 60 ++ ⟨#[53]⟩) = 2 := by rw [hs]; exact OM.full_end.2.2
        rw [he1] at hr1021
        rw [he2] at hr2021
        clear he1 he2 hs
        repeat' (first
 | with_reducible ((first | refine r_seq (fun KS hS => ?_) | (refine hS _ _ ?_; clear hS KS) | (refine hB _ ?_; clear hB KB)))
 | ((with_reducible (first | refine r_region ?_ | refine r_cond (fun KA hA KB hB => ?_) | refine r_ret ?_ | refine r_exit ?_)); conv => whnf)
 | ((with_reducible refine CallK.at 32 ?_); (first | refine CallK.pu (fun w => str1032 1 (by omega) w) ?_ | refine CallK.pu (fun w => str1032 60 (by omega) w) ?_); conv => whnf)
 | ((with_reducible refine OpK.id ?_); refine OpK.cat rfl rfl rfl (by decide +kernel) ?_; conv => whnf)
 | ((with_reducible refine CallK.id ?_); (first | refine CallK.s1V (by repeat (first | with_reducible apply Rm.head | apply Rm.tail)) (fun ms w hk => hr1021 w) ?_ | refine CallK.s1V (by repeat (first | with_reducible apply Rm.head | apply Rm.tail)) (fun ms w hk => hr2021 w) ?_ | (refine CallK.selZS (fun z => .agg (stateV s z)) (fun _ => rfl) (by apply Sel.cons; (case h => repeat (first | with_reducible apply Rm.head | apply Rm.tail)); exact Sel.nil) (fun ms w hk => state1024 hIs w) ?_; intro z; dsimp only [layF, stateH]) | refine CallK.s1V (by repeat (first | with_reducible apply Rm.head | apply Rm.tail)) (fun ms w hk => works1013 hko w) ?_); conv => whnf)
 | (refine if_decT (by omega) ?_; conv => whnf)
 | with_reducible apply_assumption -symm -exfalso)
        exact FinK.frZL () rfl (by (try dsimp only [List.cons_append, List.nil_append, den, denL]); refine SelI.spec ?_; (repeat (first | refine SelI.blk (by repeat (first | with_reducible apply Rm.head | apply Rm.tail)) ?_ | refine SelI.ext (by repeat (first | with_reducible apply Rm.head | apply Rm.tail)) ?_ | (refine SelI.blk' (by repeat (first | with_reducible apply Rm.head | apply Rm.tail)) ?_ ?_; focus rfl) | (refine SelI.ext' (by repeat (first | with_reducible apply Rm.head | apply Rm.tail)) ?_ ?_; focus rfl))); exact SelI.nil)
end Go.Proofs.YtjkmpaggfbghiaaGreatDoor

set_option linter.all false
namespace Go.Proofs.YtjkmpaggfbghiaaGreatDoor
open Go Go.X Go.ChangeShapes Go.WideShapes Go.RowKit
set_option maxRecDepth 1000000
set_option maxHeartbeats 0
noncomputable def plainLaid7 : List (String × DataW Unit) := Rows.orchFullRow.laid.filter fun x => x.2.handleName?.isNone
noncomputable def witW7 (os : Os) : World :=
  { World.laidAll Tryz.prog os plainLaid7 with heap := (World.laidAll Tryz.prog os plainLaid7).heap.setIfInBounds 1 (.cells #[.nilFunc, .func (.func 366) #[] #[], .func (.func 367) #[] #[], .func (.func 368) #[] #[]] 282) }
theorem metAll7 (os : Os) (args : Array Value) : laidMetH Tryz.prog Rows.orchFullRow.laid ((witW7 os).forCall (fun _ _ => 0) ⟨#[], args, []⟩).memory :=
  laidMetH_of_parts3 (fuel := 8) (laidMet_of_run' 8 (by kernel_rfl) (by kernel_rfl)) (by kernel_rfl) (by kernel_rfl)
theorem shaped7 (os : Os) : (witW7 os).Shaped Tryz.prog := World.shaped_of_ZipB (by kernel_rfl) (by kernel_rfl)
theorem contract7 (H : Type) (enc : TypeId × Value → H) (W : World) (base : Nat) (args : Array Value) (ds gs : List (DataW H)) (before : List MemPlace)
    (hval : ∀ (j : Nat) t v, Tryz.f7.params[j]? = some t → args[j]? = some v → Value.okWide Tryz.prog W .any base t v)
    (hW : DataW.Whole enc Tryz.prog Tryz.f7.params.toList Rows.orchFullSpec.vars false W args.toList ds gs before) (hL : laidMetH Tryz.prog Rows.orchFullRow.laid W) :
    Calls Tryz.prog 7 args W fun e W' => ∃ v, e = .returned v ∧ Rows.orchFullSpec.post enc Tryz.prog Tryz.f7 false true false false W args v W' := by
  obtain ⟨o0, o1, hko, hh0, hh1⟩ := KObj.of_laid hL (by simp [Rows.orchFullRow]) (by simp [Rows.orchFullRow])
  have hW' := hW
  obtain ⟨p, q, hA0, hV, _, _, _⟩ := hW
  have hA : DataW.TrodAll enc Tryz.prog W 0 (fun _ => true) true Tryz.f7.params.toList args.toList ds p := hA0
  clear hA0
  rw [Tryz.params7] at hA hval
  obtain ⟨rfl, _⟩ := trodVars_none hV
  obtain ⟨e0, rfl, _⟩ := trodAll_nil hA
  obtain rfl : args = #[] := by cases args; exact congrArg Array.mk e0
  refine (Pu.calls (pu_of_gl hh0 hh1 (orchFull1007 hko))).mono fun e W' ⟨he, hb⟩ => ?_
  subst he
  exact ⟨_, rfl, law_post laidOut Tryz.underlying4 (by kernel_rfl) rfl rfl hW' rfl hb⟩
theorem lifted7 (os : Os) (started : os.Started) (H : Type) (enc : TypeId × Value → H) :
    ReturnsInHanded {} Tryz.checked os 7 .any (fun w args => (Rows.orchFullSpec.pre enc Tryz.prog Tryz.f7 Rows.orchFullRow.domain false w args ∧ laidMetH Tryz.prog Rows.orchFullRow.laid w) ∧ sizedMet enc Tryz.prog Tryz.f7 (OpenSpec.ofChange Rows.orchFullSpec) false w args)
      (Rows.orchFullSpec.post enc Tryz.prog Tryz.f7 false true false false) := by
  refine returnsInHanded_of_change_and (C := Tryz.checked) (X := fun w _ => laidMetH Tryz.prog Rows.orchFullRow.laid w) (fun _ _ _ hh h => h.of_heap hh) own started (by kernel_rfl) Tryz.func7
    (ChangeSpec.witness_shaped (enc := enc) (C := Tryz.checked) (os := os) (X := fun w _ => laidMetH Tryz.prog Rows.orchFullRow.laid w) false (witW7 os) #[] 8 (World.laidAll_os _ _ _)
      (shaped7 os) (by kernel_rfl) (by kernel_rfl) (by kernel_rfl)
      (metAll7 os _)) ?_
  intro W base args ds gs before hval0 hW _ _ hL _
  exact contract7 H enc W base args ds gs before hval0 hW hL
end Go.Proofs.YtjkmpaggfbghiaaGreatDoor

set_option linter.all false
namespace Go.Proofs.YtjkmpaggfbghiaaGreatDoor
open Go Go.X Go.ChangeShapes Go.WideShapes Go.RowKit
set_option maxRecDepth 1000000
set_option maxHeartbeats 0
theorem facts7 : joinedFacts Tryz.pinned.checked.prog 7 Tryz.f7 Rows.orchFullSpec Rows.orchFullRow = true := by
  unfold joinedFacts
  repeat' (with_reducible refine and_t ?_ ?_)
  all_goals (as_aux_lemma => kernel_rfl)
end Go.Proofs.YtjkmpaggfbghiaaGreatDoor

set_option linter.all false
namespace Go.Proofs.YtjkmpaggfbghiaaGreatDoor
open Go Go.X Go.ChangeShapes Go.WideShapes Go.RowKit
set_option maxRecDepth 1000000
set_option maxHeartbeats 0
theorem said7 : Rows.OrchFullSaid :=
  OpenClaim.holds_of_wide 7 Tryz.f7 rfl rfl rfl rfl rfl rfl rfl ⟨rfl, rfl, rfl, rfl, rfl⟩ rfl rfl rfl rfl rfl (by as_aux_lemma => kernel_rfl) Tryz.func7 facts7
    (of_decide_eq_true (by kernel_rfl)) (by unfold Func.isWrapper; first | (rw [if_pos (by decide +kernel)]; kernel_rfl) | (rw [if_neg (by decide +kernel)]; exact ⟨rfl, rfl⟩))
    (fun os started H enc _ => lifted7 os started H enc)
end Go.Proofs.YtjkmpaggfbghiaaGreatDoor
