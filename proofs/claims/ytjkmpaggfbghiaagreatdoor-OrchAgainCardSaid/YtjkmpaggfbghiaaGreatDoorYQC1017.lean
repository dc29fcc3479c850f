/- Contracts and lemmas for the claim (part 17); no condition of its own. -/
import Derived.Test.YtjkmpaggfbghiaaGreatDoorYQC1016
import Derived.Test.YtjkmpaggfbghiaaGreatDoorYQC1006
import Derived.Test.YtjkmpaggfbghiaaGreatDoorYQC1015
import Derived.Test.YtjkmpaggfbghiaaGreatDoorYQC1005
import Derived.Test.YtjkmpaggfbghiaaGreatDoorYQC1007
import Derived.Test.YtjkmpaggfbghiaaGreatDoorYQC1014
set_option linter.all false
set_option maxRecDepth 100000
set_option maxHeartbeats 0
set_option linter.unusedVariables false
set_option linter.unusedSimpArgs false
set_option linter.unnecessarySimpa false
namespace Go.Proofs.YtjkmpaggfbghiaaGreatDoor
open Go Go.X
theorem turned1075 {s : OM.Sg} {a : Option Addr} {cap : Nat} (w : World) : Pu Tryz.prog 75 #[.agg (denL (sgc s a cap)).toArray] w (.agg (denL (sgc s a cap)).toArray) := by
  refine enter_sound TBok Tryz.func75 rfl rfl Tryz.ntmps75 [.agg (sgc s a cap)] (Kn.start w noS) rfl rfl ?_
  conv => whnf
  repeat' (first
 | with_reducible ((first | refine r_seq (fun KS hS => ?_) | (refine hS _ _ ?_; clear hS KS)))
 | ((with_reducible (first | refine r_region ?_ | refine r_ret ?_ | refine And.intro rfl ?_ | intro b)); conv => whnf))
  all_goals exact FinK.pu rfl
abbrev WhY : Type := (Option Addr × Nat) × Option Addr × Nat
abbrev whV (o : OM.St) (n : Int) (z : StZ) (y : WhY) : List SV := [.v (.int .i64 o.groups), .v (.int .i64 n), .v (.slice y.1.1 o.sagas.length y.1.2), .v (.slice y.2.1 o.moves.length y.2.2), .v (.slice z.ra.1 o.parts.length z.ra.2), .v (.slice z.wa.1 o.parts.length z.wa.2), .v (.slice z.ea.1 o.parts.length z.ea.2)]
def whH (o : OM.St) (z : StZ) (y : WhY) : List Blk := [.ext 30 (SlA 148 11 y.1.1 o.sagas.length y.1.2 (o.sagas.flatMap (nmC z.A))), .ext 31 (StA o.sagas z.A), .ext 32 (SlA 149 6 y.2.1 o.moves.length y.2.2 (o.moves.flatMap mvC)), .ext 33 (SlA 37 2 z.ra.1 o.parts.length z.ra.2 (o.parts.flatMap rgC)), .ext 34 (SlA 3 1 z.wa.1 o.parts.length z.wa.2 (o.parts.flatMap gpC)), .ext 35 (SlA 3 1 z.ea.1 o.parts.length z.ea.2 (o.parts.flatMap ecC))]
abbrev WhA (o : OM.St) (z : StZ) (y : WhY) : Ass := AssL (whH o z y)
theorem whole1035 {o : OM.St} {z : StZ} (hsl : o.sagas.length ≤ 64) (hml : o.moves.length ≤ 64) (w : World) :
    FrZ Tryz.prog 35 #[.agg (denL (stateV o z)).toArray] w (AssL (stateH o z)) (fun y : WhY => .agg (denL (whV o o.done z y)).toArray) (fun y => AssL [.ext 30 (WhA o z y)]) := by
  refine enter_frZ TBok (H := stateH o z) all_foot Tryz.func35 rfl rfl Tryz.ntmps35 [.agg (stateV o z)] rfl rfl ?_
  intro S hz8 hz9
  clear hz8 hz9
  dsimp only [stateH]
  conv => whnf
  repeat' (first
 | with_reducible ((first | refine r_seq (fun KS hS => ?_) | (refine hS _ _ ?_; clear hS KS) | refine r_block ?_))
 | ((with_reducible (first | refine r_region ?_ | refine And.intro rfl ?_ | intro b)); conv => whnf))
  obtain ⟨b3, hb3⟩ : ∃ x, x = b := ⟨b, rfl⟩
  subst hb3
  obtain ⟨b2, hb2⟩ : ∃ x, x = b := ⟨b, rfl⟩
  subst hb2
  obtain ⟨b0, hb0⟩ : ∃ x, x = b := ⟨b, rfl⟩
  subst hb0
  refine Run.weakenD (E' := [(1, .loc b0 51 0), (2, .loc b2 52 0), (3, .loc b3 53 0), (20, .v (.slice z.sa.1 o.sagas.length z.sa.2)), (21, .v (.int .i64 (o.sagas.length : Nat))), (22, .v (.int .i64 0))]) (H' := [.blk 53 b3 [.v (.int .i64 o.groups), .v (.int .i64 o.done), .v (.slice none 0 0), .v (.slice none 0 0), .v (.slice z.ra.1 o.parts.length z.ra.2), .v (.slice z.wa.1 o.parts.length z.wa.2), .v (.slice z.ea.1 o.parts.length z.ea.2)] 97, .blk 52 b2 [.v (.int .i64 0), .v (.int .i64 0), .v (.slice none 0 0), .v (.slice none 0 0), .v (.slice none 0 0), .v (.slice none 0 0), .v (.slice none 0 0)] 97, .blk 51 b0 (stateV o z) 72, .ext 20 (SlA 76 11 z.sa.1 o.sagas.length z.sa.2 (o.sagas.flatMap (nmC z.A))), .ext 22 (SlA 83 6 z.ma.1 o.moves.length z.ma.2 (o.moves.flatMap mvC)), .ext 21 (StA o.sagas z.A), .ext 23 (SlA 37 2 z.ra.1 o.parts.length z.ra.2 (o.parts.flatMap rgC)), .ext 24 (SlA 3 1 z.wa.1 o.parts.length z.wa.2 (o.parts.flatMap gpC)), .ext 25 (SlA 3 1 z.ea.1 o.parts.length z.ea.2 (o.parts.flatMap ecC))]) ?_ sdG seG
  refine r_loop (α := Nat × Option Addr × Nat) (fun y => [(1, .loc b0 51 0), (2, .loc b2 52 0), (3, .loc b3 53 0), (20, .v (.slice z.sa.1 o.sagas.length z.sa.2)), (21, .v (.int .i64 (o.sagas.length : Nat))), (22, .v (.int .i64 (y.1 : Nat)))]) (fun y => [.blk 53 b3 [.v (.int .i64 o.groups), .v (.int .i64 o.done), .v (.slice y.2.1 y.1 y.2.2), .v (.slice none 0 0), .v (.slice z.ra.1 o.parts.length z.ra.2), .v (.slice z.wa.1 o.parts.length z.wa.2), .v (.slice z.ea.1 o.parts.length z.ea.2)] 97, .blk 52 b2 [.v (.int .i64 0), .v (.int .i64 0), .v (.slice none 0 0), .v (.slice none 0 0), .v (.slice none 0 0), .v (.slice none 0 0), .v (.slice none 0 0)] 97, .blk 51 b0 (stateV o z) 72, .ext 20 (SlA 76 11 z.sa.1 o.sagas.length z.sa.2 (o.sagas.flatMap (nmC z.A))), .ext 22 (SlA 83 6 z.ma.1 o.moves.length z.ma.2 (o.moves.flatMap mvC)), .ext 21 (StA o.sagas z.A), .ext 23 (SlA 37 2 z.ra.1 o.parts.length z.ra.2 (o.parts.flatMap rgC)), .ext 24 (SlA 3 1 z.wa.1 o.parts.length z.wa.2 (o.parts.flatMap gpC)), .ext 25 (SlA 3 1 z.ea.1 o.parts.length z.ea.2 (o.parts.flatMap ecC)), .ext 30 (SlA 148 11 y.2.1 y.1 y.2.2 ((o.sagas.take y.1).flatMap (nmC z.A)))]) (fun y => y.1 ≤ o.sagas.length) (fun y => o.sagas.length - y.1) (0, none, 0) (Nat.zero_le _) suG (HSub.addSlL (L' := [.blk 53 b3 [.v (.int .i64 o.groups), .v (.int .i64 o.done), .v (.slice none 0 0), .v (.slice none 0 0), .v (.slice z.ra.1 o.parts.length z.ra.2), .v (.slice z.wa.1 o.parts.length z.wa.2), .v (.slice z.ea.1 o.parts.length z.ea.2)] 97, .blk 52 b2 [.v (.int .i64 0), .v (.int .i64 0), .v (.slice none 0 0), .v (.slice none 0 0), .v (.slice none 0 0), .v (.slice none 0 0), .v (.slice none 0 0)] 97, .blk 51 b0 (stateV o z) 72, .ext 20 (SlA 76 11 z.sa.1 o.sagas.length z.sa.2 (o.sagas.flatMap (nmC z.A))), .ext 22 (SlA 83 6 z.ma.1 o.moves.length z.ma.2 (o.moves.flatMap mvC)), .ext 21 (StA o.sagas z.A), .ext 23 (SlA 37 2 z.ra.1 o.parts.length z.ra.2 (o.parts.flatMap rgC)), .ext 24 (SlA 3 1 z.wa.1 o.parts.length z.wa.2 (o.parts.flatMap gpC)), .ext 25 (SlA 3 1 z.ea.1 o.parts.length z.ea.2 (o.parts.flatMap ecC))]) seG) ?_
  rintro ⟨i, a, cap⟩ hi KL hL2
  dsimp only at hi ⊢
  by_cases hlt : i < o.sagas.length
  · obtain ⟨x, hx⟩ : ∃ x, o.sagas[i]? = some x := ⟨_, List.getElem?_eq_getElem hlt⟩
    have hsn := flat_snoc (g := nmC z.A) hx
    repeat' (first
 | with_reducible refine r_stopE 5 ?_
 | with_reducible ((first | refine r_seq (fun KS hS => ?_) | (refine hS _ _ ?_; clear hS KS) | (refine hA _ ?_; clear hA KA) | refine r_block ?_))
 | ((with_reducible (first | refine r_region ?_ | refine r_cond (fun KA hA KB hB => ?_) | refine r_skip ?_ | refine And.intro rfl ?_ | intro b)); conv => whnf)
 | ((with_reducible refine OpK.id ?_); (first | refine OpK.idx (k := 11) rfl rfl rfl rfl rfl rfl rfl (Sees.ext atG) (by omega) (by omega) (nm_at hx) (fun b off hp => ?_) | refine OpK.ldp rfl rfl hp (List.cons_ne_nil _ _) ?_); conv => whnf)
 | (refine if_decT (by omega) ?_; conv => whnf)
 | with_reducible apply_assumption -symm -exfalso)
    refine StopR.mk ?_
    obtain ⟨b5, hb5⟩ : ∃ x, x = b := ⟨b, rfl⟩
    subst hb5
    refine Run.weakenD (E' := [(1, .loc b0 51 0), (2, .loc b2 52 0), (3, .loc b3 53 0), (5, .loc b5 54 0), (20, .v (.slice z.sa.1 o.sagas.length z.sa.2)), (21, .v (.int .i64 (o.sagas.length : Nat))), (22, .v (.int .i64 (i : Nat)))]) (H' := [.blk 54 b5 (nmS z.A x) 76, .blk 53 b3 [.v (.int .i64 o.groups), .v (.int .i64 o.done), .v (.slice a i cap), .v (.slice none 0 0), .v (.slice z.ra.1 o.parts.length z.ra.2), .v (.slice z.wa.1 o.parts.length z.wa.2), .v (.slice z.ea.1 o.parts.length z.ea.2)] 97, .blk 52 b2 [.v (.int .i64 0), .v (.int .i64 0), .v (.slice none 0 0), .v (.slice none 0 0), .v (.slice none 0 0), .v (.slice none 0 0), .v (.slice none 0 0)] 97, .blk 51 b0 (stateV o z) 72, .ext 20 (SlA 76 11 z.sa.1 o.sagas.length z.sa.2 (o.sagas.flatMap (nmC z.A))), .ext 22 (SlA 83 6 z.ma.1 o.moves.length z.ma.2 (o.moves.flatMap mvC)), .ext 21 (StA o.sagas z.A), .ext 23 (SlA 37 2 z.ra.1 o.parts.length z.ra.2 (o.parts.flatMap rgC)), .ext 24 (SlA 3 1 z.wa.1 o.parts.length z.wa.2 (o.parts.flatMap gpC)), .ext 25 (SlA 3 1 z.ea.1 o.parts.length z.ea.2 (o.parts.flatMap ecC)), .ext 30 (SlA 148 11 a i cap ((o.sagas.take i).flatMap (nmC z.A)))]) ?_ sdG seG
    refine r_par (β := Option Addr × Nat) (id := 5) [nq 0 [] (.loc b3 53 2), nq 1 [0] (.v (.slice a i cap)), nq 2 [] (.loc b5 54 0), nq 3 [2] (.v (.int .i64 x.1)), nq 4 [] (.loc b5 54 1), nq 5 [4] (.agg (sgc x.2 (z.A x.1).1 (z.A x.1).2)), nq 6 [5] (.agg (sgc x.2 (z.A x.1).1 (z.A x.1).2)), nq 7 [3, 6] (.agg (nmS z.A x)), ⟨8, [7], some 100, fun _ q2 => .slc q2.2 208 0 1 1, fun _ q2 => [.ext 30 (SlA 148 11 a i cap ((o.sagas.take i).flatMap (nmC z.A))), .blk 208 q2.2 (nmS z.A x) 148]⟩, ⟨9, [1, 8, 6], some 8, fun _ q2 => .v (.slice q2.1 (i + 1) q2.2), fun _ q2 => [.ext 30 (SlA 148 11 q2.1 (i + 1) q2.2 ((o.sagas.take i).flatMap (nmC z.A) ++ denL (nmS z.A x)))]⟩] [⟨100, [], none, fun _ _ => .v undef, fun _ _ => [.ext 30 (SlA 148 11 a i cap ((o.sagas.take i).flatMap (nmC z.A)))]⟩] 2 [.blk 54 b5 (nmS z.A x) 76, .blk 53 b3 [.v (.int .i64 o.groups), .v (.int .i64 o.done), .v (.slice a i cap), .v (.slice none 0 0), .v (.slice z.ra.1 o.parts.length z.ra.2), .v (.slice z.wa.1 o.parts.length z.wa.2), .v (.slice z.ea.1 o.parts.length z.ea.2)] 97, .blk 52 b2 [.v (.int .i64 0), .v (.int .i64 0), .v (.slice none 0 0), .v (.slice none 0 0), .v (.slice none 0 0), .v (.slice none 0 0), .v (.slice none 0 0)] 97, .blk 51 b0 (stateV o z) 72, .ext 20 (SlA 76 11 z.sa.1 o.sagas.length z.sa.2 (o.sagas.flatMap (nmC z.A))), .ext 22 (SlA 83 6 z.ma.1 o.moves.length z.ma.2 (o.moves.flatMap mvC)), .ext 21 (StA o.sagas z.A), .ext 23 (SlA 37 2 z.ra.1 o.parts.length z.ra.2 (o.parts.flatMap rgC)), .ext 24 (SlA 3 1 z.wa.1 o.parts.length z.wa.2 (o.parts.flatMap gpC)), .ext 25 (SlA 3 1 z.ea.1 o.parts.length z.ea.2 (o.parts.flatMap ecC))] mixed (by kernel_rfl) (by kernel_rfl) (by show HSub [.ext 30 (SlA 148 11 a i cap ((o.sagas.take i).flatMap (nmC z.A))), .blk 54 b5 (nmS z.A x) 76, .blk 53 b3 [.v (.int .i64 o.groups), .v (.int .i64 o.done), .v (.slice a i cap), .v (.slice none 0 0), .v (.slice z.ra.1 o.parts.length z.ra.2), .v (.slice z.wa.1 o.parts.length z.wa.2), .v (.slice z.ea.1 o.parts.length z.ea.2)] 97, .blk 52 b2 [.v (.int .i64 0), .v (.int .i64 0), .v (.slice none 0 0), .v (.slice none 0 0), .v (.slice none 0 0), .v (.slice none 0 0), .v (.slice none 0 0)] 97, .blk 51 b0 (stateV o z) 72, .ext 20 (SlA 76 11 z.sa.1 o.sagas.length z.sa.2 (o.sagas.flatMap (nmC z.A))), .ext 22 (SlA 83 6 z.ma.1 o.moves.length z.ma.2 (o.moves.flatMap mvC)), .ext 21 (StA o.sagas z.A), .ext 23 (SlA 37 2 z.ra.1 o.parts.length z.ra.2 (o.parts.flatMap rgC)), .ext 24 (SlA 3 1 z.wa.1 o.parts.length z.wa.2 (o.parts.flatMap gpC)), .ext 25 (SlA 3 1 z.ea.1 o.parts.length z.ea.2 (o.parts.flatMap ecC))] _; exact seG) ?_ ?_
    · conv => whnf
      repeat' (first | ((with_reducible refine And.intro ?_ ?_); all_goals (conv => whnf)) | ((with_reducible intro zz2 AA KP hP); conv => whnf))
      repeat' (first
 | ((with_reducible intro b); conv => whnf)
 | ((with_reducible refine CallK.at 75 ?_); refine CallK.pu (fun w => turned1075 (s := x.2) w) ?_; conv => whnf)
 | ((with_reducible refine OpK.id ?_); refine OpK.app (k := 11) rfl rfl rfl rfl rfl rfl rfl rfl atG (SrcK.slc rfl rfl lmG (Nat.le_refl _) rfl) (big_ok (by omega) (by decide)) (fun a' cap' => ?_); conv => whnf)
 | ((with_reducible refine hP (a', cap') _ _ ?_ ?_); all_goals (first | ((repeat' (first | exact SubD.nil | (refine SubD.cons rfl rfl ?_) | (refine SubD.cons rfl (by simp [den]) ?_))); done) | exact seZ))
 | ((with_reducible refine hP (none, b) _ _ ?_ ?_); all_goals (first | ((repeat' (first | exact SubD.nil | (refine SubD.cons rfl rfl ?_) | (refine SubD.cons rfl (by simp [den]) ?_))); done) | exact seZ)))
    conv => whnf
    intro zz
    conv => whnf
    try dsimp only
    have hn : (o.sagas.take i).flatMap (nmC z.A) ++ denL (nmS z.A x) = (o.sagas.take (i + 1)).flatMap (nmC z.A) := hsn
    rw [hn]
    repeat' (first
 | with_reducible (refine hS _ _ ?_; clear hS KS)
 | ((with_reducible (first | refine r_region ?_ | refine And.intro rfl ?_)); conv => whnf)
 | ((with_reducible refine WrapK.i64 ?_ ?_); (focus omega); conv => whnf)
 | (refine hL2 (i + 1, zz 9) _ _ (by show i + 1 ≤ _; omega) (by show _ - (i + 1) < _ - i; omega) suG seG)
 | ((with_reducible ((first | refine InAt.mk (fun K' hK => ?_) | refine AnyAt.mk (fun K' hK => ?_) | (refine hK _ ?_; clear hK K') | (refine hK _ _ ?_; clear hK K')))); conv => whnf))
  · obtain rfl : i = o.sagas.length := by omega
    clear hL2
    rw [List.take_length]
    repeat' (first
 | with_reducible ((first | refine r_seq (fun KS hS => ?_) | (refine hS _ _ ?_; clear hS KS) | (refine hB _ ?_; clear hB KB) | refine r_block ?_))
 | ((with_reducible (first | refine r_region ?_ | refine r_cond (fun KA hA KB hB => ?_) | refine r_exit ?_ | refine And.intro rfl ?_)); conv => whnf)
 | (refine if_decF (by omega) ?_; conv => whnf)
 | with_reducible apply_assumption -symm -exfalso)
    refine r_loop (α := Nat × Option Addr × Nat) (fun y => [(2, .loc b2 52 0), (3, .loc b3 53 0), (39, .v (.slice z.ma.1 o.moves.length z.ma.2)), (40, .v (.int .i64 (o.moves.length : Nat))), (41, .v (.int .i64 (y.1 : Nat)))]) (fun y => [.blk 53 b3 [.v (.int .i64 o.groups), .v (.int .i64 o.done), .v (.slice a o.sagas.length cap), .v (.slice y.2.1 y.1 y.2.2), .v (.slice z.ra.1 o.parts.length z.ra.2), .v (.slice z.wa.1 o.parts.length z.wa.2), .v (.slice z.ea.1 o.parts.length z.ea.2)] 97, .blk 52 b2 [.v (.int .i64 0), .v (.int .i64 0), .v (.slice none 0 0), .v (.slice none 0 0), .v (.slice none 0 0), .v (.slice none 0 0), .v (.slice none 0 0)] 97, .blk 51 b0 (stateV o z) 72, .ext 30 (SlA 148 11 a o.sagas.length cap (o.sagas.flatMap (nmC z.A))), .ext 22 (SlA 83 6 z.ma.1 o.moves.length z.ma.2 (o.moves.flatMap mvC)), .ext 21 (StA o.sagas z.A), .ext 23 (SlA 37 2 z.ra.1 o.parts.length z.ra.2 (o.parts.flatMap rgC)), .ext 24 (SlA 3 1 z.wa.1 o.parts.length z.wa.2 (o.parts.flatMap gpC)), .ext 25 (SlA 3 1 z.ea.1 o.parts.length z.ea.2 (o.parts.flatMap ecC)), .ext 32 (SlA 149 6 y.2.1 y.1 y.2.2 ((o.moves.take y.1).flatMap mvC))]) (fun y => y.1 ≤ o.moves.length) (fun y => o.moves.length - y.1) (0, none, 0) (Nat.zero_le _) suG (HSub.addSlL (L' := [.blk 53 b3 [.v (.int .i64 o.groups), .v (.int .i64 o.done), .v (.slice a o.sagas.length cap), .v (.slice none 0 0), .v (.slice z.ra.1 o.parts.length z.ra.2), .v (.slice z.wa.1 o.parts.length z.wa.2), .v (.slice z.ea.1 o.parts.length z.ea.2)] 97, .blk 52 b2 [.v (.int .i64 0), .v (.int .i64 0), .v (.slice none 0 0), .v (.slice none 0 0), .v (.slice none 0 0), .v (.slice none 0 0), .v (.slice none 0 0)] 97, .blk 51 b0 (stateV o z) 72, .ext 30 (SlA 148 11 a o.sagas.length cap (o.sagas.flatMap (nmC z.A))), .ext 22 (SlA 83 6 z.ma.1 o.moves.length z.ma.2 (o.moves.flatMap mvC)), .ext 21 (StA o.sagas z.A), .ext 23 (SlA 37 2 z.ra.1 o.parts.length z.ra.2 (o.parts.flatMap rgC)), .ext 24 (SlA 3 1 z.wa.1 o.parts.length z.wa.2 (o.parts.flatMap gpC)), .ext 25 (SlA 3 1 z.ea.1 o.parts.length z.ea.2 (o.parts.flatMap ecC))]) seG) ?_
    rintro ⟨i, a2, cap2⟩ hi KL hL2
    dsimp only at hi ⊢
    by_cases hlt : i < o.moves.length
    · obtain ⟨m, hx⟩ : ∃ m, o.moves[i]? = some m := ⟨_, List.getElem?_eq_getElem hlt⟩
      have hsn := flat_snoc (g := mvC) hx
      repeat' (first
 | with_reducible ((first | refine r_seq (fun KS hS => ?_) | (refine hS _ _ ?_; clear hS KS) | (refine hA _ ?_; clear hA KA) | refine r_block ?_))
 | ((with_reducible (first | refine r_region ?_ | refine r_cond (fun KA hA KB hB => ?_) | refine r_skip ?_ | refine And.intro rfl ?_ | intro b)); conv => whnf)
 | ((with_reducible refine WrapK.i64 ?_ ?_); (focus omega); conv => whnf)
 | ((with_reducible refine OpK.id ?_); (first | refine OpK.idx (k := 6) rfl rfl rfl rfl rfl rfl rfl (Sees.ext atG) (by omega) (by omega) (mv_at hx) (fun b off hp => ?_) | refine OpK.ldp rfl rfl hp (List.cons_ne_nil _ _) ?_ | refine OpK.app (k := 6) rfl rfl rfl rfl rfl rfl rfl rfl atG (SrcK.slc rfl rfl lmG (Nat.le_refl _) rfl) (big_ok (by omega) (by decide)) (fun a' cap' => ?_)); conv => whnf)
 | (refine hL2 (i + 1, a', cap') _ _ (by show i + 1 ≤ _; omega) (by show _ - (i + 1) < _ - i; omega) suG (by dsimp only; rw [← hsn]; exact seG))
 | (refine if_decT (by omega) ?_; conv => whnf)
 | with_reducible apply_assumption -symm -exfalso)
    · obtain rfl : i = o.moves.length := by omega
      clear hL2
      rw [List.take_length]
      repeat' (first
 | with_reducible ((first | refine r_seq (fun KS hS => ?_) | (refine hS _ _ ?_; clear hS KS) | (refine hB _ ?_; clear hB KB)))
 | ((with_reducible (first | refine r_region ?_ | refine r_cond (fun KA hA KB hB => ?_) | refine r_ret ?_ | refine r_exit ?_ | refine And.intro rfl ?_)); conv => whnf)
 | (refine if_decF (by omega) ?_; conv => whnf)
 | with_reducible apply_assumption -symm -exfalso)
      exact FinK.frZL ((a, cap), a2, cap2) rfl (HSub.trans HSub.join (by dsimp only [whH]; exact seG))
structure RdW (w : World) (o : OM.St) (z : StZ) (y : WhY) : Prop where
  sg : RdS w 148 11 y.1.1 o.sagas.length y.1.2 (o.sagas.flatMap (nmC z.A))
  st : ∀ x ∈ o.sagas, RdS w 80 2 (z.A x.1).1 x.2.d.steps.length (z.A x.1).2 (stepCells x.2.d.steps)
  mv : RdS w 149 6 y.2.1 o.moves.length y.2.2 (o.moves.flatMap mvC)
  rg : RdS w 37 2 z.ra.1 o.parts.length z.ra.2 (o.parts.flatMap rgC)
  gp : RdS w 3 1 z.wa.1 o.parts.length z.wa.2 (o.parts.flatMap gpC)
  ep : RdS w 3 1 z.ea.1 o.parts.length z.ea.2 (o.parts.flatMap ecC)
theorem WhA.rd {c : Cx} {H : List Blk} {i : Nat} {o : OM.St} {z : StZ} {y : WhY} {f : Blk → List Blk} (hu : At H (.ext i (WhA o z y)) f) {ms : List Nat} {w : World} (hk : Kn c.W c.S ms H w) : RdW w o z y := by
  have hk2 : Kn c.W c.S ms (whH o z y) w := hk.hsub (HSub.trans HSub.unjoin (HSub.pick hu))
  unfold whH at hk2
  exact ⟨Sees.rd (c := c) (Sees.ext atG) hk2, fun x hx => Sees.rd (c := c) (StA.sees (L := o.sagas) (A := z.A) atG (show (x.1, x.2) ∈ o.sagas from hx)) hk2, Sees.rd (c := c) (Sees.ext atG) hk2, Sees.rd (c := c) (Sees.ext atG) hk2, Sees.rd (c := c) (Sees.ext atG) hk2, Sees.rd (c := c) (Sees.ext atG) hk2⟩
theorem alike1037 {o : OM.St} {n m : Int} {z z' : StZ} {y y' : WhY} {w : World} (h : RdW w o z y) (h' : RdW w o z' y') (hI : OM.Inv o) :
    Pu Tryz.prog 37 #[.agg (denL (whV o n z y)).toArray, .agg (denL (whV o m z' y')).toArray] w (.bool true) := by
  have hsl := hI.slen
  have hml := hI.mlen
  have hpl : o.parts.length ≤ 64 := by have := hI.room; omega
  have hs1 := fun n' r H => Sees.old (c := ⟨Tryz.prog, TB, n', w, noS, r, TBok⟩) (H := H) h.sg.old
  have hs2 := fun n' r H => Sees.old (c := ⟨Tryz.prog, TB, n', w, noS, r, TBok⟩) (H := H) h'.sg.old
  have hm1 := fun n' r H => Sees.old (c := ⟨Tryz.prog, TB, n', w, noS, r, TBok⟩) (H := H) h.mv.old
  have hm2 := fun n' r H => Sees.old (c := ⟨Tryz.prog, TB, n', w, noS, r, TBok⟩) (H := H) h'.mv.old
  have hr1 := fun n' r H => Sees.old (c := ⟨Tryz.prog, TB, n', w, noS, r, TBok⟩) (H := H) h.rg.old
  have hr2 := fun n' r H => Sees.old (c := ⟨Tryz.prog, TB, n', w, noS, r, TBok⟩) (H := H) h'.rg.old
  have hg1 := fun n' r H => Sees.old (c := ⟨Tryz.prog, TB, n', w, noS, r, TBok⟩) (H := H) h.gp.old
  have hg2 := fun n' r H => Sees.old (c := ⟨Tryz.prog, TB, n', w, noS, r, TBok⟩) (H := H) h'.gp.old
  have he1 := fun n' r H => Sees.old (c := ⟨Tryz.prog, TB, n', w, noS, r, TBok⟩) (H := H) h.ep.old
  have he2 := fun n' r H => Sees.old (c := ⟨Tryz.prog, TB, n', w, noS, r, TBok⟩) (H := H) h'.ep.old
  have ht1 := fun n' r H x hx => Sees.old (c := ⟨Tryz.prog, TB, n', w, noS, r, TBok⟩) (H := H) (h.st x hx).old
  have ht2 := fun n' r H x hx => Sees.old (c := ⟨Tryz.prog, TB, n', w, noS, r, TBok⟩) (H := H) (h'.st x hx).old
  have hstl : ∀ x ∈ o.sagas, x.2.d.steps.length ≤ 1000 := fun x hx => by
    have hh := OM.Dfn.steps_pos (hI.sok x hx).2.2.d
    omega
  refine enter_sound TBok Tryz.func37 rfl rfl Tryz.ntmps37 [.agg (whV o n z y), .agg (whV o m z' y')] (Kn.start w noS) rfl rfl ?_
  conv => whnf
  repeat' (first
 | with_reducible ((first | refine r_seq (fun KS hS => ?_) | (refine hS _ _ ?_; clear hS KS)))
 | ((with_reducible (first | refine r_region ?_ | refine r_ret ?_ | refine And.intro rfl ?_ | intro b)); conv => whnf)
 | ((with_reducible refine CallK.at 76 ?_); refine CallK.puW (fun ms w hk => eqSagas1076 (P0 := z.A) (P1 := z'.A) (Sees.rd (hs1 _ _ _) hk) (Sees.rd (hs2 _ _ _) hk) (by omega) (fun x hx => Sees.rd (ht1 _ _ _ x hx) hk) (fun x hx => Sees.rd (ht2 _ _ _ x hx) hk) hstl) ?_; conv => whnf)
 | ((with_reducible refine CallK.at 79 ?_); refine CallK.puW (fun ms w hk => eqMv1079 (Sees.rd (hm1 _ _ _) hk) (Sees.rd (hm2 _ _ _) hk) (by omega)) ?_; conv => whnf)
 | ((with_reducible refine CallK.at 80 ?_); refine CallK.puW (fun ms w hk => eqRg1080 (Sees.rd (hr1 _ _ _) hk) (Sees.rd (hr2 _ _ _) hk) (by omega)) ?_; conv => whnf)
 | ((with_reducible refine CallK.at 81 ?_); (first | refine CallK.puW (fun ms w hk => eqGp1081 (Sees.rd (hg1 _ _ _) hk) (Sees.rd (hg2 _ _ _) hk) (by omega)) ?_ | refine CallK.puW (fun ms w hk => eqEc1081 (Sees.rd (he1 _ _ _) hk) (Sees.rd (he2 _ _ _) hk) (by omega)) ?_); conv => whnf)
 | (((refine if_t ?_ ?_); (focus (simp only [eq_self, decide_true, Bool.and_true, Bool.and_self, Bool.not_true, beq_self_eq_true] <;> fail)); conv => whnf)))
  all_goals exact FinK.pu rfl
instance : Inhabited StZ := ⟨⟨(none, 0), fun _ => (none, 0), (none, 0), (none, 0), (none, 0), (none, 0)⟩⟩
theorem alikeD1037 {o o' : OM.St} {n m : Int} {z z' : StZ} {y y' : WhY} {w : World} (ha : OM.St.alike o o') (h : RdW w o' z y) (h' : RdW w o z' y') (hI : OM.Inv o) :
    Pu Tryz.prog 37 #[.agg (denL (whV o' n z y)).toArray, .agg (denL (whV o m z' y')).toArray] w (.bool true) := by
  obtain ⟨g, dn, sg, mv, pt⟩ := o
  obtain ⟨g', dn', sg', mv', pt'⟩ := o'
  obtain ⟨h1, h2, h3, h4⟩ := ha
  dsimp only at h1 h2 h3 h4
  subst h1 h2 h3 h4
  exact alike1037 (o := ⟨g', dn, sg', mv', pt'⟩) ⟨h.sg, h.st, h.mv, h.rg, h.gp, h.ep⟩ h' hI
theorem applyI {i j k d : Nat} {o : OM.St} {c : OM.Cmd} {a : Option Addr} {cap : Nat} {o0 o1 : Obj} (hko : KObj o0 o1) (hI : OM.Inv o) (hok : c.ok = true) (ha : c.kind ≠ 11 → (a, cap) = (none, 0)) (w : World) :
    Fr Tryz.prog 14 #[pv d, .agg (denL (cmV c a c.d.steps.length cap)).toArray] w (AssL [.ext i (OrchA d o), .ext j (GlA o0 o1), .ext k (dfA c.d a cap)]) (rpV (o.apply c).2) (AssL [.ext i (OrchA d (o.apply c).1), .ext j (GlA o0 o1), .ext k (dfA c.d a cap)]) := by
  have := apply1014 (d := d) (a := a) (cap := cap) (c := c) hko hI hok ha w
  intro S hS hlt
  refine (this S (AssL.re3 hS) hlt).mono ?_
  rintro e w' ⟨rfl, he, S', h1, h2⟩
  exact ⟨rfl, he, S', AssL.re3 h1, h2⟩
theorem orchAgain1010 {l1 l2 : List (Nat × Nat)} {a1 a2 : Option Addr} {cap1 cap2 : Nat} {o0 o1 : Obj} {w : World} (hko : KObj o0 o1)
    (hr1 : RdB w a1 (lmC l1)) (hcap1 : l1.length ≤ cap1) (hll1 : l1.length ≤ 9223372036854775807) (hl1 : ∀ m ∈ l1, m.1 ≤ 255 ∧ m.2 ≤ 65535)
    (hr2 : RdB w a2 (lmC l2)) (hcap2 : l2.length ≤ cap2) (hll2 : l2.length ≤ 9223372036854775807) (hl2 : ∀ m ∈ l2, m.1 ≤ 255 ∧ m.2 ≤ 65535) :
    FrZ Tryz.prog 10 #[.slice a1 l1.length cap1, .slice a2 l2.length cap2] w (AssL [.ext 9 (GlX o0 o1)]) (fun _ : Unit => .bool true) (fun _ => AssL [.ext 9 (GlA o0 o1)]) := by
  refine enter_frZ TBok (H := [.ext 9 (GlX o0 o1)]) all_foot Tryz.func10 rfl rfl Tryz.ntmps10 [.v (.slice a1 l1.length cap1), .v (.slice a2 l2.length cap2)] rfl rfl ?_
  intro S hA hlt
  obtain ⟨hSx, hh0, hh1⟩ := GlX.only hA
  have hng1 := notGl hko hh0 hh1 hr1
  have hm1 : Nat.min l2.length 60 ≤ l2.length := Nat.min_le_left _ _
  have hm2 : Nat.min l2.length 60 ≤ 60 := Nat.min_le_right _ _
  have htl : (l2.take (Nat.min l2.length 60)).length = Nat.min l2.length 60 := by rw [List.length_take]; exact Nat.min_eq_left hm1
  have hr2' := lm_take hr2 (Nat.min l2.length 60)
  have hng2 := notGl hko hh0 hh1 hr2'
  have sa := fun n' r H => SeesB.oldX (c := ⟨Tryz.prog, TB, n', w, S, r, TBok⟩) (H := H) hr1 (fun i v b off h1 h2 hb => by
    have := hng1 i v b off h1 h2
    rcases hSx b hb with e | e <;> omega)
  have sb := fun n' r H => SeesB.oldX (c := ⟨Tryz.prog, TB, n', w, S, r, TBok⟩) (H := H) hr2' (fun i v b off h1 h2 hb => by
    have := hng2 i v b off h1 h2
    rcases hSx b hb with e | e <;> omega)
  clear hA hlt hSx hng1 hng2
  obtain ⟨o, ho⟩ : ∃ o, OM.playF (OM.init 4) (l1.take 60) = o := ⟨_, rfl⟩
  have hIo : OM.Inv o := by rw [← ho]; exact (OM.Inv.init (g := 4) (by decide)).play _
  have hIo2 : OM.Inv2 o := by rw [← ho]; exact (OM.Inv2.init 4).play (OM.Inv.init (g := 4) (by decide)) _
  have hpl1011 := fun (w : World) (hr : RdB w a1 (lmC l1)) => played1011 hko hr hcap1 hll1 hl1
  simp only [ho] at hpl1011
  clear ho
  conv => whnf
  have hlen2 : (lmC (l2.take (Nat.min l2.length 60))).length = Nat.min l2.length 60 * 2 := by rw [flat_len (k := 2) (fun _ => rfl), htl]
  repeat' (first
 | with_reducible ((first | refine r_seq (fun KS hS => ?_) | (refine hS _ _ ?_; clear hS KS) | (refine hB _ ?_; clear hB KB) | refine r_block ?_))
 | ((with_reducible (first | refine r_region ?_ | refine r_cond (fun KA hA KB hB => ?_) | refine r_skip ?_ | intro b)); conv => whnf)
 | ((with_reducible refine CallK.id ?_); (first | (refine CallK.s1 rmG (fun ms w hk => hpl1011 w (sa _ _ _ ms w hk)) ?_; (intro d)) | (refine CallK.s1 rmG (fun ms w hk => state1024 hIo w) ?_; (intro zq)) | (refine CallK.sel (by apply Sel.cons; (case h => exact rmG); apply Sel.cons; (case h => exact rmG); apply Sel.cons; (case h => exact rmG); apply Sel.cons; (case h => exact rmG); apply Sel.cons; (case h => exact rmG); apply Sel.cons; (case h => exact rmG); exact Sel.nil) (fun ms w hk => restore1040 hIo hIo2 w) ?_; (intro d2))); conv => whnf)
 | (((with_reducible apply OpK.more); (focus refine sok2); (conv => whnf); fail_if_success guard_target =ₛ False))
 | ((with_reducible refine OpK.id ?_); (first | refine OpK.minN (b := 60) rfl rfl rfl ?_ | refine OpK.slB rfl rfl rfl rfl rfl rfl (Nat.le_trans (Nat.min_le_left _ _) hcap2) ?_ | refine OpK.appS (k := 2) rfl rfl rfl rfl rfl rfl rfl rfl atG rfl (SrcK.rdb rfl rfl (sb _ _ _) hlen2 (by decide) lm_one) (big_ok (by omega) (by decide)) (fun a' cap' => ?_)); conv => whnf)
 | with_reducible apply_assumption -symm -exfalso)
  obtain ⟨M, hM⟩ : ∃ M, ((31, 0) :: l2.take (Nat.min l2.length 60) : List (Nat × Nat)) = M := ⟨_, rfl⟩
  have hMl : M.length = 1 + Nat.min l2.length 60 := by rw [← hM, List.length_cons, htl]; omega
  have hMb : ∀ m ∈ M, m.1 ≤ 255 ∧ m.2 ≤ 65535 := by
    intro m hm
    rw [← hM] at hm
    rcases List.mem_cons.1 hm with rfl | hm
    · exact ⟨by decide, by decide⟩
    · exact hl2 m (List.mem_of_mem_take hm)
  have hMc : denL [.v (.int .u8 31), .v (.int .u16 0)] ++ lmC (l2.take (Nat.min l2.length 60)) = lmC M := by rw [← hM]; rfl
  rw [hMc]
  refine r_loop (α := Nat × OM.St) (fun z => [(5, .v (pv d)), (6, .v (pv d2)), (34, .v (.slice a' (1 + Nat.min l2.length 60) cap')), (35, .v (.int .i64 ((1 + Nat.min l2.length 60 : Nat) : Int))), (36, .v (.int .i64 (z.1 : Nat)))]) (fun z => [.ext 13 (SlA 46 2 a' (1 + Nat.min l2.length 60) cap' (lmC M)), .ext 12 (OrchA d z.2), .ext 14 (OrchA d2 z.2), .ext 9 (GlA o0 o1)]) (fun z => z.1 ≤ 1 + Nat.min l2.length 60 ∧ OM.Inv z.2) (fun z => 1 + Nat.min l2.length 60 - z.1) (0, o) ⟨Nat.zero_le _, hIo⟩ suG seG ?_
  clear hMc hM htl hlen2 hr2' sa sb hpl1011 hIo2 hIo
  rintro ⟨i, s⟩ ⟨hi, hIs⟩ KL hL2
  dsimp only at hi hIs ⊢
  have hst1024 := fun e w => state1024 (d := e) hIs w
  have hwh1035 := fun z w => whole1035 (o := s) (z := z) hIs.slen hIs.mlen w
  have hap1036 := fun e w => applied1036 (d := e) (o := s) (by have := hIs.gr; omega) w
  have hqu1034 := fun e w => quiet1034 (d := e) hko hIs w
  have him1012 := fun e w => items1012 (d := e) hko hIs w
  have hil := items_le hIs
  by_cases hlt : i < 1 + Nat.min l2.length 60
  · obtain ⟨m, hxm⟩ : ∃ m, M[i]? = some m := ⟨_, List.getElem?_eq_getElem (by omega)⟩
    obtain ⟨kd, n⟩ := m
    obtain ⟨hkd, hn⟩ := hMb _ (List.mem_of_getElem? hxm)
    dsimp only at hkd hn
    obtain ⟨cc, hcc⟩ : ∃ c, OM.cmdOf s kd n = c := ⟨_, rfl⟩
    have hcok := OM.cmdOf_ok hIs kd n
    have hcm1018 := fun e w => command1018 (d := e) (kd := kd) (n := n) hko hIs hkd hn w
    rw [hcc] at hcok
    simp only [hcc] at hcm1018
    obtain ⟨s1, hs1⟩ : ∃ p, (s.apply cc).1 = p := ⟨_, rfl⟩
    obtain ⟨rr, hrr⟩ : ∃ r, (s.apply cc).2 = r := ⟨_, rfl⟩
    have hI1 : OM.Inv s1 := by rw [← hs1]; exact hIs.apply _
    have hapI := fun i e a cap ha w => applyI (i := i) (j := 9) (k := 8) (d := e) (a := a) (cap := cap) (c := cc) hko hIs hcok ha w
    simp only [hs1, hrr] at hapI
    clear hs1 hrr
    repeat' (first
 | with_reducible refine r_stop 13 ?_
 | with_reducible ((first | refine r_seq (fun KS hS => ?_) | (refine hS _ _ ?_; clear hS KS) | (refine hA _ ?_; clear hA KA) | (refine hB _ ?_; clear hB KB) | refine r_block ?_))
 | ((with_reducible (first | refine r_region ?_ | refine r_cond (fun KA hA KB hB => ?_) | refine r_skip ?_ | refine And.intro rfl ?_ | intro b)); conv => whnf)
 | ((with_reducible refine OpK.id ?_); (first | refine OpK.idx (k := 2) rfl rfl rfl rfl rfl rfl rfl (Sees.ext atG) (by omega) (by omega) (lm_at hxm) (fun b off hp => ?_) | refine OpK.ldp rfl rfl hp (List.cons_ne_nil _ _) ?_); conv => whnf)
 | ((with_reducible refine CallK.id ?_); (first | (refine CallK.s1 rmG (fun ms w hk => hst1024 _ w) ?_; (intro zq)) | (refine CallK.sel (by apply Sel.cons; (case h => exact rmG); apply Sel.cons; (case h => exact rmG); apply Sel.cons; (case h => exact rmG); apply Sel.cons; (case h => exact rmG); apply Sel.cons; (case h => exact rmG); apply Sel.cons; (case h => exact rmG); exact Sel.nil) (fun ms w hk => hwh1035 _ w) ?_; (intro yq))); conv => whnf)
 | ((with_reducible refine CallK.at 37 ?_); refine CallK.puW (fun ms w hk => alikeD1037 (o := s) (o' := s) ⟨rfl, rfl, rfl, rfl⟩ (WhA.rd atG hk) (WhA.rd atG hk) hIs) ?_; conv => whnf)
 | ((with_reducible refine CallK.id ?_); (first | refine CallK.s1V rmG (fun ms w hk => hap1036 _ w) ?_ | refine CallK.s2 rmG rmG (fun ms w hk => him1012 _ w) ?_); conv => whnf)
 | ((with_reducible refine CallK.at 28 ?_); refine CallK.puW (fun ms w hk => eqItems1028 (L := s.items) (Sees.rd (Sees.ext atG) hk) (Sees.rd (Sees.ext atG) hk) hil) ?_; conv => whnf)
 | ((with_reducible refine CallK.id ?_); (first | refine CallK.s2V rmG rmG (fun ms w hk => hqu1034 _ w) ?_ | (refine CallK.s2 rmG rmG (fun ms w hk => hcm1018 _ w) ?_; (intro cz))); conv => whnf)
 | (((refine if_f ?_ ?_); (focus (simp only [eq_self, decide_true, Bool.and_true, Bool.and_self, Bool.not_true, beq_self_eq_true] <;> fail)); conv => whnf))
 | ((with_reducible apply OpK.more); (focus refine sok); (conv => whnf); fail_if_success guard_target =ₛ False)
 | (refine if_decT (by omega) ?_; conv => whnf)
 | with_reducible apply_assumption -symm -exfalso)
    refine StopR.mk ?_
    obtain ⟨b10, hb10⟩ : ∃ x, x = b := ⟨b, rfl⟩
    subst hb10
    clear hst1024 hwh1035 hap1036 hqu1034 him1012 hcm1018
    have hz := cz.2
    refine Run.weakenD (E' := [(10, .loc b10 50 0), (5, .v (pv d)), (6, .v (pv d2)), (34, .v (.slice a' (1 + Nat.min l2.length 60) cap')), (35, .v (.int .i64 ((1 + Nat.min l2.length 60 : Nat) : Int))), (36, .v (.int .i64 (i : Nat)))]) (H' := [.blk 50 b10 (cmV cc cz.1.1 cc.d.steps.length cz.1.2) 42, .ext 13 (SlA 46 2 a' (1 + Nat.min l2.length 60) cap' (lmC M)), .ext 12 (OrchA d s), .ext 14 (OrchA d2 s), .ext 9 (GlA o0 o1), .ext 8 (dfA cc.d cz.1.1 cz.1.2)]) ?_ sdG seG
    refine r_seq (fun KS3 hS3 => ?_)
    refine r_par (β := Nat) (id := 13) [nq 0 [] (.v (pv d)),
      nq 1 [] (.agg (cmV cc cz.1.1 cc.d.steps.length cz.1.2)),
      ⟨2, [0, 1], some 100, fun _ _ => .agg [.v (.int .i64 rr.err), .v (.int .i64 rr.num), .v (.string ⟨#[]⟩)], fun _ _ => [.ext 12 (OrchA d s1), .ext 14 (OrchA d2 s), .ext 9 (GlA o0 o1), .ext 8 (dfA cc.d cz.1.1 cz.1.2)]⟩,
      nq 3 [] (.v (pv d2)),
      nq 4 [] (.agg (cmV cc cz.1.1 cc.d.steps.length cz.1.2)),
      ⟨5, [3, 4, 2], some 2, fun _ _ => .agg [.v (.int .i64 rr.err), .v (.int .i64 rr.num), .v (.string ⟨#[]⟩)], fun _ _ => [.ext 12 (OrchA d s1), .ext 14 (OrchA d2 s1), .ext 9 (GlA o0 o1), .ext 8 (dfA cc.d cz.1.1 cz.1.2)]⟩,
      nq 6 [2, 5] (.v (.bool false))] [⟨100, [], none, fun _ _ => .v undef, fun _ _ => [.ext 12 (OrchA d s), .ext 14 (OrchA d2 s), .ext 9 (GlA o0 o1), .ext 8 (dfA cc.d cz.1.1 cz.1.2)]⟩] 0 [.blk 50 b10 (cmV cc cz.1.1 cc.d.steps.length cz.1.2) 42, .ext 13 (SlA 46 2 a' (1 + Nat.min l2.length 60) cap' (lmC M))] mixed (by kernel_rfl) (by kernel_rfl) seG ?_ ?_
    · conv => whnf
      repeat' (first | ((with_reducible refine And.intro ?_ ?_); all_goals (conv => whnf)) | ((with_reducible intro zz2 AA KP hP); conv => whnf))
      repeat' (first
 | ((with_reducible refine CallK.id ?_); refine CallK.selS (.agg [.v (.int .i64 rr.err), .v (.int .i64 rr.num), .v (.string ⟨#[]⟩)]) rfl (by apply Sel.cons; (case h => exact rmG); apply Sel.cons; (case h => exact rmG); apply Sel.cons; (case h => exact rmG); exact Sel.nil) (fun ms w hk => hapI _ _ cz.1.1 cz.1.2 (fun h => hz (by rw [hcc]; exact h)) w) ?_; conv => whnf)
 | (((with_reducible apply OpK.more); (focus refine sok2); (conv => whnf); fail_if_success guard_target =ₛ False))
 | ((with_reducible apply hP); all_goals (first | exact default | ((repeat' (first | exact SubD.nil | (refine SubD.cons rfl rfl ?_) | (refine SubD.cons rfl (by simp [den]) ?_))); done) | exact seZ)))
    conv => whnf
    intro zz2
    conv => whnf
    try dsimp only
    repeat' (first
 | with_reducible (refine hB _ ?_; clear hB KB)
 | ((with_reducible (first | refine r_region ?_ | refine r_cond (fun KA hA KB hB => ?_) | refine r_skip ?_)); conv => whnf)
 | ((with_reducible refine WrapK.i64 ?_ ?_); (focus omega); conv => whnf)
 | (refine hL2 (i + 1, s1) _ _ ⟨by show i + 1 ≤ _; omega, hI1⟩ (by show _ - (i + 1) < _ - i; omega) suG seG)
 | with_reducible apply_assumption -symm -exfalso)
  · obtain rfl : i = 1 + Nat.min l2.length 60 := by omega
    clear hL2
    repeat' (first
 | with_reducible ((first | refine r_seq (fun KS hS => ?_) | (refine hS _ _ ?_; clear hS KS) | (refine hB _ ?_; clear hB KB)))
 | ((with_reducible (first | refine r_region ?_ | refine r_cond (fun KA hA KB hB => ?_) | refine r_ret ?_ | refine r_exit ?_)); conv => whnf)
 | ((with_reducible refine CallK.id ?_); (first | (refine CallK.s1 rmG (fun ms w hk => hst1024 _ w) ?_; (intro zq)) | (refine CallK.sel (by apply Sel.cons; (case h => exact rmG); apply Sel.cons; (case h => exact rmG); apply Sel.cons; (case h => exact rmG); apply Sel.cons; (case h => exact rmG); apply Sel.cons; (case h => exact rmG); apply Sel.cons; (case h => exact rmG); exact Sel.nil) (fun ms w hk => hwh1035 _ w) ?_; (intro yq))); conv => whnf)
 | ((with_reducible refine CallK.at 37 ?_); refine CallK.puW (fun ms w hk => alikeD1037 (o := s) (o' := s) ⟨rfl, rfl, rfl, rfl⟩ (WhA.rd atG hk) (WhA.rd atG hk) hIs) ?_; conv => whnf)
 | ((with_reducible refine CallK.id ?_); refine CallK.s1V rmG (fun ms w hk => works1013 hko w) ?_; conv => whnf)
 | (refine if_decF (by omega) ?_; conv => whnf)
 | with_reducible apply_assumption -symm -exfalso)
    exact FinK.frZL () rfl seG
end Go.Proofs.YtjkmpaggfbghiaaGreatDoor

namespace Go.Proofs.YtjkmpaggfbghiaaGreatDoor
open Go Go.X Go.ChangeShapes Go.WideShapes Go.RowKit
set_option maxRecDepth 1000000
noncomputable def plainLaid10 : List (String × DataW Unit) := Rows.orchAgainRow.laid.filter fun x => x.2.handleName?.isNone
noncomputable def witW10 (os : Os) : World :=
  { World.laidAll Tryz.prog os plainLaid10 with heap := (World.laidAll Tryz.prog os plainLaid10).heap.setIfInBounds 1 (.cells #[.nilFunc, .func (.func 366) #[] #[], .func (.func 367) #[] #[], .func (.func 368) #[] #[]] 282) }
theorem metAll10 (os : Os) (args : Array Value) : laidMetH Tryz.prog Rows.orchAgainRow.laid ((witW10 os).forCall (fun _ _ => 0) ⟨#[], args, []⟩).memory :=
  laidMetH_of_parts3 (fuel := 8) (laidMet_of_run' 8 (by kernel_rfl) (by kernel_rfl)) (by kernel_rfl) (by kernel_rfl)
theorem shaped10 (os : Os) : (witW10 os).Shaped Tryz.prog := World.shaped_of_ZipB (by kernel_rfl) (by kernel_rfl)
theorem contract10 (H : Type) (enc : TypeId × Value → H) (W : World) (base : Nat) (args : Array Value) (ds gs : List (DataW H)) (before : List MemPlace)
    (hval : ∀ (j : Nat) t v, Tryz.f10.params[j]? = some t → args[j]? = some v → Value.okWide Tryz.prog W .any base t v)
    (hW : DataW.Whole enc Tryz.prog Tryz.f10.params.toList Rows.orchAgainSpec.vars false W args.toList ds gs before) (hL : laidMetH Tryz.prog Rows.orchAgainRow.laid W) :
    Calls Tryz.prog 10 args W fun e W' => ∃ v, e = .returned v ∧ Rows.orchAgainSpec.post enc Tryz.prog Tryz.f10 false true false false W args v W' := by
  obtain ⟨o0, o1, hko, hh0, hh1⟩ := KObj.of_laid hL (by simp [Rows.orchAgainRow]) (by simp [Rows.orchAgainRow])
  have hW' := hW
  obtain ⟨p, q, hA0, hV, _, _, _⟩ := hW
  have hA : DataW.TrodAll enc Tryz.prog W 0 (fun _ => true) true Tryz.f10.params.toList args.toList ds p := hA0
  clear hA0
  rw [Tryz.params10] at hA hval
  obtain ⟨rfl, _⟩ := trodVars_none hV
  obtain ⟨v0, vs0, d0, ds0, p0, q0, e0, rfl, _, h0, r0⟩ := trodAll_cons hA
  obtain ⟨v1, vs1, d1, ds1, p1, q1, e1, rfl, _, h1, r1⟩ := trodAll_cons r0
  subst e1
  obtain ⟨e2, rfl, _⟩ := trodAll_nil r1
  subst e2
  obtain rfl : args = #[v0, v1] := by cases args; exact congrArg Array.mk e0
  obtain ⟨sa0, sl0, sc0, rfl, r0z, c0, m0, k0⟩ := moves_arg (hval 0 22 v0 rfl rfl) h0
  obtain ⟨sa1, sl1, sc1, rfl, r1z, c1, m1, k1⟩ := moves_arg (hval 1 22 v1 rfl rfl) h1
  refine (Pu.calls (pu_of_gl hh0 hh1 (orchAgain1010 hko r0z c0 m0 k0 r1z c1 m1 k1))).mono fun e W' ⟨he, hb⟩ => ?_
  subst he
  exact ⟨_, rfl, law_post laidOut Tryz.underlying4 (by kernel_rfl) rfl rfl hW' rfl hb⟩
theorem lifted10 (os : Os) (started : os.Started) (H : Type) (enc : TypeId × Value → H) :
    ReturnsInHanded {} Tryz.checked os 10 .any (fun w args => (Rows.orchAgainSpec.pre enc Tryz.prog Tryz.f10 Rows.orchAgainRow.domain false w args ∧ laidMetH Tryz.prog Rows.orchAgainRow.laid w) ∧ sizedMet enc Tryz.prog Tryz.f10 (OpenSpec.ofChange Rows.orchAgainSpec) false w args)
      (Rows.orchAgainSpec.post enc Tryz.prog Tryz.f10 false true false false) := by
  refine returnsInHanded_of_change_and (C := Tryz.checked) (X := fun w _ => laidMetH Tryz.prog Rows.orchAgainRow.laid w) (fun _ _ _ hh h => h.of_heap hh) own started (by kernel_rfl) Tryz.func10
    (ChangeSpec.witness_shaped (enc := enc) (C := Tryz.checked) (os := os) (X := fun w _ => laidMetH Tryz.prog Rows.orchAgainRow.laid w) false (witW10 os) #[.slice none 0 0, .slice none 0 0] 8 (World.laidAll_os _ _ _)
      (shaped10 os) (by kernel_rfl) (by kernel_rfl) (by kernel_rfl)
      (metAll10 os _)) ?_
  intro W base args ds gs before hval0 hW _ _ hL _
  exact contract10 H enc W base args ds gs before hval0 hW hL
end Go.Proofs.YtjkmpaggfbghiaaGreatDoor

namespace Go.Proofs.YtjkmpaggfbghiaaGreatDoor
open Go Go.X Go.ChangeShapes Go.WideShapes Go.RowKit
set_option maxRecDepth 1000000
theorem facts10 : joinedFacts Tryz.pinned.checked.prog 10 Tryz.f10 Rows.orchAgainSpec Rows.orchAgainRow = true := by
  unfold joinedFacts
  repeat' (with_reducible refine and_t ?_ ?_)
  all_goals (as_aux_lemma => kernel_rfl)
end Go.Proofs.YtjkmpaggfbghiaaGreatDoor

namespace Go.Proofs.YtjkmpaggfbghiaaGreatDoor
open Go Go.X Go.ChangeShapes Go.WideShapes Go.RowKit
set_option maxRecDepth 1000000
theorem said10 : Rows.OrchAgainSaid :=
  OpenClaim.holds_of_wide 10 Tryz.f10 rfl rfl rfl rfl rfl rfl rfl ⟨rfl, rfl, rfl, rfl, rfl⟩ rfl rfl rfl rfl rfl (by as_aux_lemma => kernel_rfl) Tryz.func10 facts10
    (of_decide_eq_true (by kernel_rfl)) (by unfold Func.isWrapper; first | (rw [if_pos (by decide +kernel)]; kernel_rfl) | (rw [if_neg (by decide +kernel)]; exact ⟨rfl, rfl⟩))
    (fun os started H enc _ => lifted10 os started H enc)
end Go.Proofs.YtjkmpaggfbghiaaGreatDoor
