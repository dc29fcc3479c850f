/- Contracts and lemmas for the claim (part 9); no condition of its own. -/
import Derived.Test.YthmjkaljkgjicaaGreatDoorYDC1208
import Derived.Test.YthmjkaljkgjicaaGreatDoorCards
import Derived.Test.YthmjkaljkgjicaaGreatDoorTie
import Derived.ProofKit
import Derived.OpenShut
import Derived.Lay
import Derived.Lib.LaidU8
import Derived.Carry
import Derived.MakeChecks
import Derived.Deep.DeepHandedRow
import Derived.Test.YthmjkaljkgjicaaGreatDoorYDC1203
import Derived.ChangeMaps5
import Derived.ChangeSlices
import Derived.Test.YthmjkaljkgjicaaGreatDoorYDC1204
import Derived.Ground.GgzProg
import Derived.Ground.SlgmProg
import Derived.Ground.SlsfProg
import Derived.Ground.SlmcProg
import Derived.Shelf.SlMaps.Clone
import Derived.Test.YthmjkaljkgjicaaGreatDoorProg
set_option linter.all false
set_option linter.unusedVariables false
set_option linter.unusedSimpArgs false
set_option linter.unnecessarySimpa false
namespace Go.Proofs.YthmjkaljkgjicaaGreatDoor
open Go Go.X
set_option maxRecDepth 100000
set_option maxHeartbeats 0
theorem Kn.rdSlc {W : World} {S : Nat → Prop} {ms : List Nat} {H : List Blk} {w : World} {i b t len k : Nat} {cs : List SV} (hk : Kn W S ms H w) (hm : .blk i b cs t ∈ H) (hl : cs.length = len * k) : RdS w t k (some ⟨b, 0, none⟩) len len (denL cs) :=
  ⟨fun x => x = b, slc_SlA hl ⟨rfl, hk.got hm⟩, fun _ hx => hx ▸ (Array.getElem?_eq_some_iff.1 (hk.got hm)).1⟩
theorem works10 {w : World} (hka : KAt w) : Pu Tryz.prog 18 #[] w (.bool true) := by
  refine enter_sound TBok Tryz.func18 rfl rfl Tryz.ntmps18 [] (Kn.start w noS) rfl rfl ?_
  conv => whnf
  repeat' (first
 | (with_reducible refine r_stop 6 ?_)
 | with_reducible (first | refine r_seq (fun KS hS => ?_) | (refine hS _ _ ?_; clear hS KS) | (refine hA _ ?_; clear hA KA) | (refine hB _ ?_; clear hB KB) | refine r_block ?_)
 | ((with_reducible (first | refine r_region ?_ | refine r_cond (fun KA hA KB hB => ?_) | refine r_ret ?_ | refine r_skip ?_ | refine r_exit ?_ | refine And.intro rfl ?_ | intro b)); conv => whnf)
 | ((with_reducible refine WrapK.i64 ?_ ?_); (focus omega); conv => whnf)
 | (refine wNew (fun z => ?_); conv => whnf)
 | ((with_reducible refine CallK.id ?_); refine CallK.pu (fun w => wNum w) ?_; conv => whnf)
 | ((with_reducible apply OpK.more); (focus refine sok); (conv => whnf); fail_if_success guard_target =ₛ False)
 | ((with_reducible (first | refine InAt.mk (fun K' hK => ?_) | refine AnyAt.mk (fun K' hK => ?_) | (refine hK _ ?_; clear hK K') | (refine hK _ _ ?_; clear hK K'))); conv => whnf)
 | ((refine And.intro ?_ ?_); all_goals (conv => whnf))
 | (apply r_quiet; refine mixed; kernel_rfl; kernel_rfl; kernel_rfl; conv => whnf)
 | ((first | refine if_t (by decide) ?_ | refine if_f (by decide) ?_ | refine if_decT (by omega) ?_ | refine if_decF (by omega) ?_ | refine if_ndecT (by omega) ?_ | refine if_ndecF (by omega) ?_); conv => whnf)
 | ((first | refine if_dec (fun h => ?_) (fun h => ?_) | refine if_ndec (fun h => ?_) (fun h => ?_) | refine if_cond (fun h => ?_) (fun h => ?_)); all_goals (conv => whnf))
 | with_reducible apply_assumption -symm -exfalso)
  refine ⟨?_⟩
  rename Nat => bi
  refine r_cut (α := Option Addr × Nat) (fun y => [(0, .v (.bool false)), (1, .v (pv z.1)), (3, .loc bi 4 0), (4, .v (.int .i64 1009)), (6, .v (.slice y.1 1 y.2))]) (fun y => [.ext 70 (SlA 38 9 y.1 1 y.2 (qM 3)), .blk 4 bi [.v (.int .i64 7), .v (.int .i64 0), .v (.int .i64 1), .v (.int .i64 0), .v (.bool false), .v (.int .i64 1)] 47, .ext 4 (MpA z.2 [⟨.int .i64 1009, .agg #[.int .i64 1, .int .i64 1], 0⟩] 1), .blk 3 z.1 (DC 3 3 1 z.2) 80]) (fun _ => True) ?_ ?_
  · intro KL hL
    repeat' (first
 | with_reducible (first | refine r_seq (fun KS hS => ?_) | (refine hS _ _ ?_; clear hS KS) | (refine hA _ ?_; clear hA KA) | (refine hB _ ?_; clear hB KB) | refine r_block ?_)
 | ((with_reducible (first | refine r_region ?_ | refine r_cond (fun KA hA KB hB => ?_) | refine r_ret ?_ | refine r_skip ?_ | refine r_exit ?_ | refine And.intro rfl ?_ | intro b)); conv => whnf)
 | ((with_reducible refine WrapK.i64 ?_ ?_); (focus omega); conv => whnf)
 | (apply r_any (id := 6); refine mixed; kernel_rfl; kernel_rfl; conv => whnf)
 | (apply in36; rfl; rfl; rfl; intro A; conv => whnf)
 | (refine wTickFirst (Sel.cons (by repeat (first | with_reducible apply Rm.head | apply Rm.tail)) (Sel.cons (by repeat (first | with_reducible apply Rm.head | apply Rm.tail)) (Sel.cons (by repeat (first | with_reducible apply Rm.head | apply Rm.tail)) (Sel.cons (by repeat (first | with_reducible apply Rm.head | apply Rm.tail)) Sel.nil)))) ?_ ?_ ?_ (fun y => ?_); rfl; rfl; rfl; conv => whnf)
 | (refine hL _ _ _ trivial (by repeat' (first | exact Sub.nil | (refine Sub.cons rfl rfl ?_))) (by (try dsimp only [List.cons_append, List.nil_append, den, denL]); refine SelI.spec ?_; (repeat (first | refine SelI.blk (by repeat (first | with_reducible apply Rm.head | apply Rm.tail)) ?_ | refine SelI.ext (by repeat (first | with_reducible apply Rm.head | apply Rm.tail)) ?_ | (refine SelI.blk' (by repeat (first | with_reducible apply Rm.head | apply Rm.tail)) ?_ ?_; focus rfl) | (refine SelI.ext' (by repeat (first | with_reducible apply Rm.head | apply Rm.tail)) ?_ ?_; focus rfl))); exact SelI.nil))
 | ((with_reducible apply OpK.more); (focus refine sok); (conv => whnf); fail_if_success guard_target =ₛ False)
 | ((with_reducible (first | refine InAt.mk (fun K' hK => ?_) | refine AnyAt.mk (fun K' hK => ?_) | (refine hK _ ?_; clear hK K') | (refine hK _ _ ?_; clear hK K'))); conv => whnf)
 | ((refine And.intro ?_ ?_); all_goals (conv => whnf))
 | (apply r_quiet; refine mixed; kernel_rfl; kernel_rfl; kernel_rfl; conv => whnf)
 | ((first | refine if_t (by decide) ?_ | refine if_f (by decide) ?_ | refine if_decT (by omega) ?_ | refine if_decF (by omega) ?_ | refine if_ndecT (by omega) ?_ | refine if_ndecF (by omega) ?_); conv => whnf)
 | ((first | refine if_dec (fun h => ?_) (fun h => ?_) | refine if_ndec (fun h => ?_) (fun h => ?_) | refine if_cond (fun h => ?_) (fun h => ?_)); all_goals (conv => whnf))
 | with_reducible apply_assumption -symm -exfalso)
  intro y _
  skip
  repeat' (first
 | with_reducible (first | refine r_seq (fun KS hS => ?_) | (refine hS _ _ ?_; clear hS KS) | (refine hA _ ?_; clear hA KA) | (refine hB _ ?_; clear hB KB) | refine r_block ?_)
 | ((with_reducible (first | refine r_region ?_ | refine r_cond (fun KA hA KB hB => ?_) | refine r_ret ?_ | refine r_skip ?_ | refine r_exit ?_ | refine And.intro rfl ?_ | intro b)); conv => whnf)
 | ((with_reducible refine WrapK.i64 ?_ ?_); (focus omega); conv => whnf)
 | (refine wWait (Sel.cons (by repeat (first | with_reducible apply Rm.head | apply Rm.tail)) (Sel.cons (by repeat (first | with_reducible apply Rm.head | apply Rm.tail)) Sel.nil)) ?_ (fun q => ?_); rfl; conv => whnf)
 | ((with_reducible refine CallK.at 13 ?_); refine CallK.puW (fun ms w hk => equal39 (Sees.rd (Sees.ext (by repeat (first | with_reducible apply At.head | apply At.tail))) hk) (Kn.rdSlc hk (by repeat (first | constructor | apply List.Mem.tail)) rfl)) ?_; conv => whnf)
 | ((with_reducible refine OpK.id ?_); (first | refine OpK.idx (k := 9) rfl rfl rfl rfl rfl rfl rfl (Sees.ext (by repeat (first | with_reducible apply At.head | apply At.tail))) (by omega) (by omega) (i9M _) (fun b off hp => ?_) | refine OpK.fap rfl rfl (by assumption) ?_ | refine OpK.ldp rfl rfl (by assumption) (List.cons_ne_nil _ _) ?_); conv => whnf)
 | ((with_reducible apply OpK.more); (focus refine sok); (conv => whnf); fail_if_success guard_target =ₛ False)
 | ((with_reducible (first | refine InAt.mk (fun K' hK => ?_) | refine AnyAt.mk (fun K' hK => ?_) | (refine hK _ ?_; clear hK K') | (refine hK _ _ ?_; clear hK K'))); conv => whnf)
 | ((refine And.intro ?_ ?_); all_goals (conv => whnf))
 | (apply r_quiet; refine mixed; kernel_rfl; kernel_rfl; kernel_rfl; conv => whnf)
 | ((first | refine if_t (by decide) ?_ | refine if_f (by decide) ?_ | refine if_decT (by omega) ?_ | refine if_decF (by omega) ?_ | refine if_ndecT (by omega) ?_ | refine if_ndecF (by omega) ?_); conv => whnf)
 | ((first | refine if_dec (fun h => ?_) (fun h => ?_) | refine if_ndec (fun h => ?_) (fun h => ?_) | refine if_cond (fun h => ?_) (fun h => ?_)); all_goals (conv => whnf))
 | with_reducible apply_assumption -symm -exfalso)
  refine r_loop (α := Nat) (fun k => [(0, .v (.bool false)), (1, .v (pv z.1)), (3, .loc bi 4 0), (4, .v (.int .i64 1009)), (6, .v (.slice y.1 1 y.2)), (80, .v (.int .i64 k))]) (fun k => [.ext 70 (SlA 38 9 y.1 1 y.2 (qM 3)), .blk 4 bi [.v (.int .i64 7), .v (.int .i64 0), .v (.int .i64 1), .v (.int .i64 0), .v (.bool false), .v (.int .i64 1)] 47, .ext 4 (MpA z.2 [⟨.int .i64 1009, .agg #[.int .i64 1, .int .i64 1], 0⟩] 1), .blk 3 z.1 (DC 3 3 ((k : Int) + 1) z.2) 80]) (fun k => k ≤ 3) (fun k => 3 - k) 0 (by omega) (by repeat' (first | exact Sub.nil | (refine Sub.cons rfl rfl ?_))) (by (try dsimp only [List.cons_append, List.nil_append, den, denL]); refine SelI.spec ?_; (repeat (first | refine SelI.blk (by repeat (first | with_reducible apply Rm.head | apply Rm.tail)) ?_ | refine SelI.ext (by repeat (first | with_reducible apply Rm.head | apply Rm.tail)) ?_ | (refine SelI.blk' (by repeat (first | with_reducible apply Rm.head | apply Rm.tail)) ?_ ?_; focus rfl) | (refine SelI.ext' (by repeat (first | with_reducible apply Rm.head | apply Rm.tail)) ?_ ?_; focus rfl))); exact SelI.nil) ?_
  intro k hk KL hL
  by_cases hlt : k < 3
  · repeat' (first
 | with_reducible (first | refine r_seq (fun KS hS => ?_) | (refine hS _ _ ?_; clear hS KS) | (refine hA _ ?_; clear hA KA) | (refine hB _ ?_; clear hB KB) | refine r_block ?_)
 | ((with_reducible (first | refine r_region ?_ | refine r_cond (fun KA hA KB hB => ?_) | refine r_ret ?_ | refine r_skip ?_ | refine r_exit ?_ | refine And.intro rfl ?_ | intro b)); conv => whnf)
 | ((with_reducible refine WrapK.i64 ?_ ?_); (focus omega); conv => whnf)
 | (apply r_any (id := 11); refine mixed; kernel_rfl; kernel_rfl; conv => whnf)
 | (apply in36; rfl; rfl; rfl; intro A; conv => whnf)
 | (refine wTickNot (tk := (k : Int) + 1) (by omega) (Sel.cons (by repeat (first | with_reducible apply Rm.head | apply Rm.tail)) (Sel.cons (by repeat (first | with_reducible apply Rm.head | apply Rm.tail)) (Sel.cons (by repeat (first | with_reducible apply Rm.head | apply Rm.tail)) (Sel.cons (by repeat (first | with_reducible apply Rm.head | apply Rm.tail)) Sel.nil)))) ?_ ?_ ?_ (fun y => ?_); rfl; rfl; rfl; conv => whnf)
 | (refine hL (k + 1) _ _ (by omega) (by omega) (by repeat' (first | exact Sub.nil | (refine Sub.cons rfl rfl ?_))) (by (try dsimp only [List.cons_append, List.nil_append, den, denL]); refine SelI.spec ?_; (repeat (first | refine SelI.blk (by repeat (first | with_reducible apply Rm.head | apply Rm.tail)) ?_ | refine SelI.ext (by repeat (first | with_reducible apply Rm.head | apply Rm.tail)) ?_ | (refine SelI.blk' (by repeat (first | with_reducible apply Rm.head | apply Rm.tail)) ?_ ?_; focus rfl) | (refine SelI.ext' (by repeat (first | with_reducible apply Rm.head | apply Rm.tail)) ?_ ?_; focus rfl))); exact SelI.nil))
 | ((with_reducible apply OpK.more); (focus refine sok); (conv => whnf); fail_if_success guard_target =ₛ False)
 | ((with_reducible (first | refine InAt.mk (fun K' hK => ?_) | refine AnyAt.mk (fun K' hK => ?_) | (refine hK _ ?_; clear hK K') | (refine hK _ _ ?_; clear hK K'))); conv => whnf)
 | ((refine And.intro ?_ ?_); all_goals (conv => whnf))
 | (apply r_quiet; refine mixed; kernel_rfl; kernel_rfl; kernel_rfl; conv => whnf)
 | ((first | refine if_t (by decide) ?_ | refine if_f (by decide) ?_ | refine if_decT (by omega) ?_ | refine if_decF (by omega) ?_ | refine if_ndecT (by omega) ?_ | refine if_ndecF (by omega) ?_); conv => whnf)
 | ((first | refine if_dec (fun h => ?_) (fun h => ?_) | refine if_ndec (fun h => ?_) (fun h => ?_) | refine if_cond (fun h => ?_) (fun h => ?_)); all_goals (conv => whnf))
 | with_reducible apply_assumption -symm -exfalso)
  obtain rfl : k = 3 := by omega
  repeat' (first
 | with_reducible (first | refine r_seq (fun KS hS => ?_) | (refine hS _ _ ?_; clear hS KS) | (refine hA _ ?_; clear hA KA) | (refine hB _ ?_; clear hB KB) | refine r_block ?_)
 | ((with_reducible (first | refine r_region ?_ | refine r_cond (fun KA hA KB hB => ?_) | refine r_ret ?_ | refine r_skip ?_ | refine r_exit ?_ | refine And.intro rfl ?_ | intro b)); conv => whnf)
 | ((with_reducible refine WrapK.i64 ?_ ?_); (focus omega); conv => whnf)
 | ((with_reducible refine CallK.id ?_); (first | refine CallK.puW (fun ms w hk => wServe (hk.got (by repeat (first | constructor | apply List.Mem.tail))) (hka.now (fun h => h) hk)) ?_ | refine CallK.puW (fun ms w hk => wServeDone (hk.got (by repeat (first | constructor | apply List.Mem.tail))) (hka.now (fun h => h) hk)) ?_ | (refine CallK.puW (fun ms w hk => (Kn.rdd hk (L := [.blk 9 _ itW 47, .blk 3 _ (DC 3 3 4 _) 80]) trivial (by (try dsimp only [List.cons_append, List.nil_append, den, denL]); refine SelI.spec ?_; (repeat (first | refine SelI.blk (by repeat (first | with_reducible apply Rm.head | apply Rm.tail)) ?_ | refine SelI.ext (by repeat (first | with_reducible apply Rm.head | apply Rm.tail)) ?_ | (refine SelI.blk' (by repeat (first | with_reducible apply Rm.head | apply Rm.tail)) ?_ ?_; focus rfl) | (refine SelI.ext' (by repeat (first | with_reducible apply Rm.head | apply Rm.tail)) ?_ ?_; focus rfl))); exact SelI.nil)).elim fun S' h => wAnswer h (hka.now (fun h => h) hk)) ?_)); conv => whnf)
 | (apply r_any (id := 17); refine mixed; kernel_rfl; kernel_rfl; conv => whnf)
 | (apply in36; rfl; rfl; rfl; intro A; conv => whnf)
 | (refine wTickAgain (Sel.cons (by repeat (first | with_reducible apply Rm.head | apply Rm.tail)) (Sel.cons (by repeat (first | with_reducible apply Rm.head | apply Rm.tail)) (Sel.cons (by repeat (first | with_reducible apply Rm.head | apply Rm.tail)) (Sel.cons (by repeat (first | with_reducible apply Rm.head | apply Rm.tail)) Sel.nil)))) ?_ ?_ ?_ (fun y => ?_); rfl; rfl; rfl; conv => whnf)
 | ((with_reducible refine OpK.id ?_); (first | refine OpK.idx (k := 9) rfl rfl rfl rfl rfl rfl rfl (Sees.ext (by repeat (first | with_reducible apply At.head | apply At.tail))) (by omega) (by omega) (i9M _) (fun b off hp => ?_) | refine OpK.fap rfl rfl (by assumption) ?_ | refine OpK.ldp rfl rfl (by assumption) (List.cons_ne_nil _ _) ?_); conv => whnf)
 | ((with_reducible apply OpK.more); (focus refine sok); (conv => whnf); fail_if_success guard_target =ₛ False)
 | ((with_reducible (first | refine InAt.mk (fun K' hK => ?_) | refine AnyAt.mk (fun K' hK => ?_) | (refine hK _ ?_; clear hK K') | (refine hK _ _ ?_; clear hK K'))); conv => whnf)
 | ((refine And.intro ?_ ?_); all_goals (conv => whnf))
 | (apply r_quiet; refine mixed; kernel_rfl; kernel_rfl; kernel_rfl; conv => whnf)
 | ((first | refine if_t (by decide) ?_ | refine if_f (by decide) ?_ | refine if_decT (by omega) ?_ | refine if_decF (by omega) ?_ | refine if_ndecT (by omega) ?_ | refine if_ndecF (by omega) ?_); conv => whnf)
 | ((first | refine if_dec (fun h => ?_) (fun h => ?_) | refine if_ndec (fun h => ?_) (fun h => ?_) | refine if_cond (fun h => ?_) (fun h => ?_)); all_goals (conv => whnf))
 | with_reducible apply_assumption -symm -exfalso)
  all_goals exact FinK.pu rfl
end Go.Proofs.YthmjkaljkgjicaaGreatDoor

namespace Go.Proofs.YthmjkaljkgjicaaGreatDoor
open Go Go.X Go.ChangeShapes Go.WideShapes Go.RowKit
set_option maxRecDepth 100000
set_option maxHeartbeats 0
section
variable {H : Type} {enc : TypeId × Value → H} {w : World} {base : Nat} {sp : Nat → Bool} {held : Bool}
theorem kind_cells {fuel : Nat} {cs : List Value} {b : List UInt8} {a1 a2 a3 a4 : Int} {p : List MemPlace} (h : DataW.trod enc Tryz.prog w base sp held fuel 179 cs = some (.agg [.lit (.string b), .lit (.int .i64 a1), .lit (.int .i64 a2), .lit (.int .i64 a3), .lit (.int .i64 a4)], p)) :
    cs = [.string ⟨b.toArray⟩, .int .i64 a1, .int .i64 a2, .int .i64 a3, .int .i64 a4] := by
  obtain ⟨xs, n, rfl, hx, hl, hxl, hall⟩ := DataW.trod_struct Tryz.underlying179 h
  have hC : Tryz.prog.cellsOf 179 = 5 := by kernel_rfl
  have hC9 : Tryz.prog.cellsOf 9 = 1 := by kernel_rfl
  have hC3 : Tryz.prog.cellsOf 3 = 1 := by kernel_rfl
  rw [hC] at hl
  match cs, hl with
  | [c0, c1, c2, c3, c4], _ =>
  match xs, hxl with
  | [y0, y1, y2, y3, y4], _ =>
  have q0 := hall 0 _ rfl
  have e0 : DataW.trod enc Tryz.prog w base sp held n 9 (([c0, c1, c2, c3, c4].drop 0).take (Tryz.prog.cellsOf 9)) = some y0 := q0
  rw [hC9] at e0
  have q1 := hall 1 _ rfl
  have e1 : DataW.trod enc Tryz.prog w base sp held n 3 (([c0, c1, c2, c3, c4].drop 1).take (Tryz.prog.cellsOf 3)) = some y1 := q1
  rw [hC3] at e1
  have q2 := hall 2 _ rfl
  have e2 : DataW.trod enc Tryz.prog w base sp held n 3 (([c0, c1, c2, c3, c4].drop 2).take (Tryz.prog.cellsOf 3)) = some y2 := q2
  rw [hC3] at e2
  have q3 := hall 3 _ rfl
  have e3 : DataW.trod enc Tryz.prog w base sp held n 3 (([c0, c1, c2, c3, c4].drop 3).take (Tryz.prog.cellsOf 3)) = some y3 := q3
  rw [hC3] at e3
  have q4 := hall 4 _ rfl
  have e4 : DataW.trod enc Tryz.prog w base sp held n 3 (([c0, c1, c2, c3, c4].drop 4).take (Tryz.prog.cellsOf 3)) = some y4 := q4
  rw [hC3] at e4
  obtain ⟨s, f0, g0, _⟩ := DataW.trod_string Tryz.underlying9 e0
  obtain ⟨z1, f1, g1, _⟩ := DataW.trod_int Tryz.underlying3 e1
  obtain ⟨z2, f2, g2, _⟩ := DataW.trod_int Tryz.underlying3 e2
  obtain ⟨z3, f3, g3, _⟩ := DataW.trod_int Tryz.underlying3 e3
  obtain ⟨z4, f4, g4, _⟩ := DataW.trod_int Tryz.underlying3 e4
  subst g0 g1 g2 g3 g4
  simp only [List.drop_zero, List.take_succ_cons, List.take_zero, List.drop_succ_cons, List.cons.injEq, and_true] at f0 f1 f2 f3 f4
  subst f0 f1 f2 f3 f4
  simp only [List.map_cons, List.map_nil, Prod.mk.injEq, DataW.agg.injEq, List.cons.injEq, DataW.lit.injEq, Lit.string.injEq, Lit.int.injEq, true_and, and_true] at hx
  obtain ⟨⟨rfl, rfl, rfl, rfl, rfl⟩, _⟩ := hx
  rfl
end
theorem KAt.of_laid {W : World} (h : laidMetH Tryz.prog Rows.driveStaysRow.laid W) : KAt W := by
  rw [MakeChecks.laidMetH_plain _ _ _ (by kernel_rfl)] at h
  obtain ⟨g, t, cs, fuel, p, h1, h2, h3, h4⟩ := Lib.laidMet.reads h (n := "skald/msg.kinds") (d := Rows.laid_skald_msg_kinds) (by simp [Rows.driveStaysRow])
  obtain rfl : 0 = g := Option.some.inj ((show Tryz.prog.globalNamed "skald/msg.kinds" = some 0 by kernel_rfl).symm.trans h1)
  obtain rfl : 237 = t := Option.some.inj ((show (Tryz.prog.globals[0]?).map (·.type) = some 237 by kernel_rfl).symm.trans h2)
  have hC : Tryz.prog.cellsOf 179 = 5 := by kernel_rfl
  obtain ⟨xs, m, rfl, hx, hl, hxl, hall⟩ := DataW.trod_array Tryz.underlying237 h4
  rw [hC] at hall
  have hx1 : xs.map (·.1) = _ := (DataW.agg.inj (Prod.mk.inj hx).1).symm
  have part : ∀ i (hi : i < 12) {b : List UInt8} {a1 a2 a3 a4 : Int}, (xs.map (·.1))[i]? = some (.agg [.lit (.string b), .lit (.int .i64 a1), .lit (.int .i64 a2), .lit (.int .i64 a3), .lit (.int .i64 a4)]) →
      (cs.toList.drop (i * 5)).take 5 = [.string ⟨b.toArray⟩, .int .i64 a1, .int .i64 a2, .int .i64 a3, .int .i64 a4] := by
    intro i hi b a1 a2 a3 a4 he
    rw [List.getElem?_map, Option.map_eq_some_iff] at he
    obtain ⟨y, hy, hy1⟩ := he
    have := hall i hi
    rw [hy] at this
    obtain ⟨yd, yp⟩ := y
    subst hy1
    exact kind_cells this
  have p10 := part 10 (by omega) (by rw [hx1]; rfl)
  have p11 := part 11 (by omega) (by rw [hx1]; rfl)
  unfold World.var? at h3
  rw [show Tryz.prog.globalNamed "skald/msg.kinds" = some 0 by kernel_rfl] at h3
  simp only [Option.bind_some] at h3
  split at h3
  · rename_i C t f hh
    cases h3
    have at5 : ∀ k (l : List Value), (cs.toList.drop k).take 5 = l → ∀ j v, l[j]? = some v → cs[k + j]? = some v := by
      intro k l e j v hv
      rw [← e, List.getElem?_take] at hv
      split at hv
      · rw [List.getElem?_drop, Array.getElem?_toList] at hv; exact hv
      · cases hv
    exact ⟨(Array.getElem?_eq_some_iff.1 hh).1, cs, t, f, hh, at5 50 _ p10, at5 55 _ p11⟩
  · cases h3
section
variable {H : Type} {enc : TypeId × Value → H} {P : Program}
theorem post_of_below {f : Func} {s : ChangeSpec} {apart fresh handsOn again : Bool} {W W' : World} {args : Array Value} {v : Value} {ds gs : List (DataW H)} {before pa pv : List MemPlace}
    (hW : DataW.Whole enc P f.params.toList s.vars apart W args.toList ds gs before)
    (hres : ∀ (b : Nat) (sp : Nat → Bool) (hd : Bool), DataW.TrodAll enc P W' b sp hd f.resultTypes.toList (v.resultList f.resultTypes.size) (s.fn H (ds ++ gs)).results [])
    (hargs : ∀ sp : Nat → Bool, (∀ p ∈ before, sp p.block = true) → DataW.TrodAll enc P W' 0 sp true f.params.toList args.toList (s.fn H (ds ++ gs)).args pa)
    (hvars : ∀ sp : Nat → Bool, (∀ p ∈ before, sp p.block = true) → DataW.TrodVars enc P W' sp s.vars (s.fn H (ds ++ gs)).vars pv)
    (hps : before = pa ++ pv) (hb : Below W.heap.size W W')
    (hok : ∀ (j : Nat) (t : TypeId) (r : Value), f.resultTypes[j]? = some t → (v.resultList f.resultTypes.size)[j]? = some r → Value.okWide P W' .any 0 t r) :
    s.post enc P f apart fresh handsOn again W args v W' := by
  have hlt : ∀ p ∈ before, p.block < W.heap.size := fun p hp => hW.lt p hp
  have hold : ∀ p ∈ before, (fun b => decide (b < W.heap.size)) p.block = true := fun p hp => by simpa using hlt p hp
  refine ⟨ds, gs, before, [], pa, pv, hW, hres _ _ _, hargs _ hold, hvars _ hold, World.keptBut_mono (fun p hp => ⟨hp, ?_⟩) (hb.frame (· ∈ before)), fun _ => ?_⟩
  · rw [hps, List.mem_append] at hp
    exact Or.inr hp
  · obtain ⟨_, _, _, _, _, hz, hn⟩ := hW
    refine ⟨hok, _, _, ([] ++ pa) ++ pv, ⟨[] ++ pa, pv, trodAll_append (hargs _ (fun _ _ => rfl)) (hres _ _ _), hvars _ (fun _ _ => rfl), rfl, ?_, ?_⟩, ?_⟩
    · intro b off hp
      have hin : MemPlace.cell b off ∈ before := by rw [hps]; simpa using hp
      rw [hb.frozen (hlt _ hin)]
      exact hz b off hin
    · intro ha
      have := hn ha
      rw [hps] at this
      simpa using this
    · intro p hp _
      rw [hps]
      simpa using hp
end
theorem and_t {a b : Bool} (h : a = true) (h' : b = true) : (a && b) = true := by rw [h, h']; rfl
theorem own : ownKnob Tryz.prog.godebug = none := by kernel_rfl
theorem laidOut : laidOutB Tryz.prog = true := by kernel_rfl
section
variable {H : Type} {enc : TypeId × Value → H} {P : Program} {W W' : World} {sp : Nat → Bool}
theorem trodAll_below (hl : laidOutB P = true) (hb : Below W.heap.size W W') : ∀ {ts : List TypeId} {vs : List Value} {ds : List (DataW H)} {ps : List MemPlace}, (ts.all fun t => P.readableRec t && decide (t < P.types.size)) = true →
    DataW.TrodAll enc P W 0 (fun _ => true) true ts vs ds ps → (∀ x ∈ ps, x.block < W.heap.size) → (∀ x ∈ ps, sp x.block = true) → DataW.TrodAll enc P W' 0 sp true ts vs ds ps := by
  intro ts
  induction ts with
  | nil =>
    intro vs ds ps _ h _ _
    obtain ⟨rfl, rfl, rfl⟩ := trodAll_nil h
    rfl
  | cons t ts ih =>
    intro vs ds ps hr h hlt hsp
    obtain ⟨v, vs', d, ds', p, q, rfl, rfl, rfl, h1, h2⟩ := trodAll_cons h
    rw [List.all_cons, Bool.and_eq_true, Bool.and_eq_true] at hr
    exact trodAll_cons_mk (WideElems.Trod_stays hl hr.1.1 (of_decide_eq_true hr.1.2) h1 (fun x hx => hb.same (hlt x (List.mem_append_left _ hx))) (fun x hx => hsp x (List.mem_append_left _ hx)))
      (ih hr.2 h2 (fun x hx => hlt x (List.mem_append_right _ hx)) (fun x hx => hsp x (List.mem_append_right _ hx)))
/-- A LAW's END: it answered true, and nothing that stood ahead of it has turned. -/
theorem law_post {f : Func} {s : ChangeSpec} {t4 : TypeId} {args : Array Value} {ds gs : List (DataW H)} {before : List MemPlace} (hl : laidOutB P = true) (h4 : P.underlying t4 = some .bool)
    (hr : (f.params.toList.all fun t => P.readableRec t && decide (t < P.types.size)) = true) (hres : f.resultTypes = #[t4]) (hv : s.vars = [])
    (hW : DataW.Whole enc P f.params.toList s.vars false W args.toList ds gs before) (hfn : s.fn H (ds ++ gs) = { results := [.lit (.bool true)], args := ds }) (hb : Below W.heap.size W W') :
    s.post enc P f false true false false W args (.bool true) W' := by
  have hlt : ∀ p ∈ before, p.block < W.heap.size := fun p hp => hW.lt p hp
  have hW2 := hW
  obtain ⟨p, q, hA, hV, hbef, _⟩ := hW2
  rw [hv] at hV
  obtain ⟨_, rfl⟩ := trodVars_none hV
  have hfa : (s.fn H (ds ++ gs)).args = ds := by rw [hfn]
  have hfr : (s.fn H (ds ++ gs)).results = [.lit (.bool true)] := by rw [hfn]
  have hfv : (s.fn H (ds ++ gs)).vars = [] := by rw [hfn]
  refine post_of_below (pa := p) (pv := []) hW (fun b sp hd => ?_) (fun sp hsp => ?_) (fun sp _ => ?_) hbef hb (ok_one hres rfl (okWide_bool_mk h4 _))
  · rw [hfr, hres]; exact trodAll_mk1 (shut_bool h4 _)
  · rw [hfa]
    exact trodAll_below hl hb hr hA (fun x hx => hlt x (by rw [hbef]; exact List.mem_append_left _ hx)) (fun x hx => hsp x (by rw [hbef]; exact List.mem_append_left _ hx))
  · rw [hfv, hv]; rfl
end
theorem metAll (os : Os) (args : Array Value) : laidMetH Tryz.prog Rows.driveStaysRow.laid ((World.laidAll Tryz.prog os Rows.driveStaysRow.laid).forCall (fun _ _ => 0) ⟨#[], args, []⟩).memory := by
  rw [MakeChecks.laidMetH_plain _ _ _ (by kernel_rfl)]; exact laidMet_laidAll _ (by kernel_rfl) (by kernel_rfl)
end Go.Proofs.YthmjkaljkgjicaaGreatDoor

namespace Go.Proofs.YthmjkaljkgjicaaGreatDoor
open Go Go.X Go.ChangeShapes Go.WideShapes Go.RowKit
set_option maxRecDepth 100000
set_option linter.all false
theorem wf_u16 {n : Int} (h : (Lit.int .u16 n).wf = true) : 0 ≤ n ∧ n ≤ 65535 := by
  simp [Lit.wf, IntKind.min, IntKind.max, IntKind.signed, IntKind.bits] at h; omega
theorem wf_u8 {n : Int} (h : (Lit.int .u8 n).wf = true) : 0 ≤ n ∧ n ≤ 255 := by
  simp [Lit.wf, IntKind.min, IntKind.max, IntKind.signed, IntKind.bits] at h; omega
theorem rdB_ints {w : World} {a : Addr} {zs : List Int} {q : IntKind} (h : ∀ i, i < zs.length → w.cell? (a.add i) = some (.int q (zs.getD i 0))) : RdB w (some a) (zs.map (Value.int q)) := by
  intro i v hi
  rw [List.getElem?_map, Option.map_eq_some_iff] at hi
  obtain ⟨z, hz, rfl⟩ := hi
  have hlt : i < zs.length := (List.getElem?_eq_some_iff.1 hz).1
  have h0 := h 0 (by omega)
  have h1 := h i hlt
  have hg : zs.getD i 0 = z := by rw [List.getD_eq_getElem?_getD, hz]; rfl
  rw [hg] at h1
  obtain ⟨b, off, spot⟩ := a
  have hs : spot = none := by
    simp only [Addr.add, if_pos, World.cell?] at h0
    split at h0
    · cases spot with
      | none => rfl
      | some s => simp at h0
    · cases h0
  subst hs
  have ha : (⟨b, off, none⟩ : Addr).add i = ⟨b, off + i, none⟩ := by
    unfold Addr.add
    split
    · rename_i e; subst e; rfl
    · rfl
  rw [ha] at h1
  simp only [World.cell?] at h1
  split at h1
  · rename_i C t f hh
    exact ⟨b, off, C, t, f, rfl, hh, by simpa using h1⟩
  · cases h1
theorem u16_cells {H : Type} {enc : TypeId × Value → H} {W : World} {t e : TypeId} {v : Value} {d : DataW H} {ps : List MemPlace} (ht : Tryz.prog.underlying t = some (.slice e)) (he : Tryz.prog.underlying e = some (.int .u16)) (hc : Tryz.prog.cellsOf e = 1)
    {base : Nat} (hval : Value.okWide Tryz.prog W .any base t v) (h : DataW.Trod enc Tryz.prog W 0 (fun _ => true) true t v d ps) :
    ∃ (a : Option Addr) (ks : List Nat) (cap : Nat), v = .slice a ks.length cap ∧ RdB W a (ks.map fun (k : Nat) => Value.int .u16 k) ∧ ks.length ≤ cap ∧ (∀ k ∈ ks, k ≤ 65535) ∧ ks.length ≤ 9223372036854775807 := by
  obtain ⟨a, len, cap, rfl⟩ := okWide_slice ht hval
  obtain ⟨fuel, hf⟩ := h
  rcases open_ints ht he hc hf with ⟨h1, _⟩ | ⟨a', len', cap', zs, h1, _, h2, h3, h4, _, h5, h6⟩
  · simp [Value.cells] at h1
    obtain ⟨rfl, rfl, rfl⟩ := h1
    exact ⟨none, [], 0, rfl, fun i v hi => by simp at hi, Nat.le_refl _, by simp, Nat.zero_le _⟩
  · simp [Value.cells] at h1
    obtain ⟨rfl, rfl, rfl⟩ := h1
    simp only [if_true] at h4
    have hlen : ((zs.take len).map Int.toNat).length = len := by simp; omega
    have hk : ∀ z ∈ zs.take len, 0 ≤ z ∧ z ≤ 65535 := fun z hz => wf_u16 (h6 z (List.mem_of_mem_take hz))
    refine ⟨some a', (zs.take len).map Int.toNat, cap, by rw [hlen], ?_, by omega, ?_, ?_⟩
    · have e1 : (((zs.take len).map Int.toNat).map fun (k : Nat) => Value.int .u16 k) = (zs.map (Value.int .u16)).take len := by
        rw [List.map_map, ← List.map_take]
        refine List.map_congr_left fun z hz => ?_
        have := hk z hz
        show Value.int .u16 ((z.toNat : Nat) : Int) = _
        rw [Int.toNat_of_nonneg this.1]
      rw [e1]
      exact (rdB_ints h5).take len
    · intro k hk'
      obtain ⟨z, hz, rfl⟩ := List.mem_map.1 hk'
      have := hk z hz
      omega
    · have : cap ≤ 9223372036854775807 := h3
      omega
end Go.Proofs.YthmjkaljkgjicaaGreatDoor

namespace Go.Proofs.YthmjkaljkgjicaaGreatDoor
open Go Go.X
set_option maxRecDepth 100000
set_option maxHeartbeats 0
/-- an item, and the command that 'every' gives for it -/
structure CmdFor (s t p m : Int) (i : Bool) (g kd : Int) (key : ByteArray) (dl : Int) (fr data : ByteArray) (num : Nat) (enc : List UInt8) : Prop where
  item : ItemOk s t p m i g
  numEq : (num : Int) = itemNum s t p m i g
  every : ∀ w, Pu Tryz.prog 8 #[.agg #[.int .i64 s, .int .i64 t, .int .i64 p, .int .i64 m, .bool i, .int .i64 g]] w (.tuple #[.agg #[.int .i64 kd, .int .i64 0, .int .i64 0, .int .i64 s, .int .i64 t, .int .i64 p, .string key, .int .i64 dl, .int .i64 m, .string fr, .string ⟨#[]⟩, .int .i64 0, .string ⟨#[]⟩, .int .i64 0, .int .i64 0, .slice none 0 0, .int .i64 0, .int .i64 0, .int .i64 0, .int .i64 0, .bool false, .int .i64 0, .int .i64 0, .string data], .bool true])
  fits : ∀ w, Pu Tryz.prog 32 #[.agg #[.int .i64 kd, .int .i64 0, .int .i64 0, .int .i64 s, .int .i64 t, .int .i64 p, .string key, .int .i64 dl, .int .i64 m, .string fr, .string ⟨#[]⟩, .int .i64 0, .string ⟨#[]⟩, .int .i64 0, .int .i64 0, .slice none 0 0, .int .i64 0, .int .i64 0, .int .i64 0, .int .i64 0, .bool false, .int .i64 0, .int .i64 0, .string data], .agg #[.int .i64 s, .int .i64 t, .int .i64 p, .int .i64 m, .bool i, .int .i64 g]] w (.bool true)
  encode : ∀ w, FrZ Tryz.prog 22 #[.agg #[.int .i64 kd, .int .i64 0, .int .i64 0, .int .i64 s, .int .i64 t, .int .i64 p, .string key, .int .i64 dl, .int .i64 m, .string fr, .string ⟨#[]⟩, .int .i64 0, .string ⟨#[]⟩, .int .i64 0, .int .i64 0, .slice none 0 0, .int .i64 0, .int .i64 0, .int .i64 0, .int .i64 0, .bool false, .int .i64 0, .int .i64 0, .string data]] w emp (fun z : Option Addr × Nat => .tuple #[.slice z.1 enc.length z.2, .int .i64 0]) (fun z => SlA 5 1 z.1 enc.length z.2 (bcells enc))
  len : enc.length ≤ 65536
  question : ∀ {w : World} {d f to : Nat} {n gs tk : Int} {mp : Nat}, DAt w d n gs tk mp → KAt w → 1 ≤ n ∧ n ≤ 7 → g < gs → (f : Int) < n → (to : Int) / n = g → to ≤ 55 → f < to ∨ to < f → Pu Tryz.prog 37 #[pv d, .agg #[.int .i64 10, .int .i64 (f : Nat), .int .i64 (to : Nat), .int .i64 0, .int .i64 0, .int .i64 0, .int .i64 (num : Nat), .string ⟨enc.toArray⟩, .slice none 0 0]] w (.tuple #[.agg #[.int .i64 s, .int .i64 t, .int .i64 p, .int .i64 m, .bool i, .int .i64 g], .agg #[.int .i64 kd, .int .i64 0, .int .i64 0, .int .i64 s, .int .i64 t, .int .i64 p, .string key, .int .i64 dl, .int .i64 m, .string fr, .string ⟨#[]⟩, .int .i64 0, .string ⟨#[]⟩, .int .i64 0, .int .i64 0, .slice none 0 0, .int .i64 0, .int .i64 0, .int .i64 0, .int .i64 0, .bool false, .int .i64 0, .int .i64 0, .string data], .bool true])
theorem everyEff27 {s t p g : Int} (h : EffOk s t p) (hg : 1 ≤ g ∧ g ≤ 7) (w : World) : Pu Tryz.prog 8 #[.agg #[.int .i64 s, .int .i64 t, .int .i64 p, .int .i64 0, .bool false, .int .i64 g]] w (.tuple #[.agg #[.int .i64 1, .int .i64 0, .int .i64 0, .int .i64 s, .int .i64 t, .int .i64 p, .string ⟨#[107]⟩, .int .i64 (1 + t), .int .i64 0, .string ⟨#[]⟩, .string ⟨#[]⟩, .int .i64 0, .string ⟨#[]⟩, .int .i64 0, .int .i64 0, .slice none 0 0, .int .i64 0, .int .i64 0, .int .i64 0, .int .i64 0, .bool false, .int .i64 0, .int .i64 0, .string ⟨#[]⟩], .bool true]) := by
  refine enter_sound TBok Tryz.func8 rfl rfl Tryz.ntmps8 [.agg [.v (.int .i64 s), .v (.int .i64 t), .v (.int .i64 p), .v (.int .i64 0), .v (.bool false), .v (.int .i64 g)]] (Kn.start w noS) rfl rfl ?_
  conv => whnf
  repeat' (first
 | with_reducible (first | refine r_seq (fun KS hS => ?_) | (refine hS _ _ ?_; clear hS KS) | (refine hA _ ?_; clear hA KA) | (refine hB _ ?_; clear hB KB) | refine r_block ?_)
 | ((with_reducible (first | refine r_region ?_ | refine r_cond (fun KA hA KB hB => ?_) | refine r_ret ?_ | refine r_skip ?_ | refine r_exit ?_ | refine And.intro rfl ?_ | intro b)); conv => whnf)
 | ((with_reducible refine WrapK.i64 ?_ ?_); (focus omega); conv => whnf)
 | (apply r_any (id := 1); refine mixed; kernel_rfl; kernel_rfl; conv => whnf)
 | (apply in36; rfl; rfl; rfl; intro A; conv => whnf)
 | ((with_reducible refine CallK.at 58 ?_); refine CallK.puW (fun ms w hk => cmdEff72 (hk.got (by repeat (first | constructor | apply List.Mem.tail))) h hg) ?_; conv => whnf)
 | ((with_reducible apply OpK.more); (focus refine sok); (conv => whnf); fail_if_success guard_target =ₛ False)
 | ((with_reducible (first | refine InAt.mk (fun K' hK => ?_) | refine AnyAt.mk (fun K' hK => ?_) | (refine hK _ ?_; clear hK K') | (refine hK _ _ ?_; clear hK K'))); conv => whnf)
 | ((refine And.intro ?_ ?_); all_goals (conv => whnf))
 | (apply r_quiet; refine mixed; kernel_rfl; kernel_rfl; kernel_rfl; conv => whnf)
 | ((first | refine if_t (by decide) ?_ | refine if_f (by decide) ?_ | refine if_decT (by omega) ?_ | refine if_decF (by omega) ?_ | refine if_ndecT (by omega) ?_ | refine if_ndecF (by omega) ?_); conv => whnf)
 | ((first | refine if_dec (fun h => ?_) (fun h => ?_) | refine if_ndec (fun h => ?_) (fun h => ?_) | refine if_cond (fun h => ?_) (fun h => ?_)); all_goals (conv => whnf))
 | with_reducible apply_assumption -symm -exfalso)
  all_goals exact FinK.pu rfl
theorem everyOut27 {m g : Int} (h : 1 ≤ m ∧ m ≤ 64) (hg : 1 ≤ g ∧ g ≤ 7) (w : World) : Pu Tryz.prog 8 #[.agg #[.int .i64 0, .int .i64 0, .int .i64 0, .int .i64 m, .bool false, .int .i64 g]] w (.tuple #[.agg #[.int .i64 3, .int .i64 0, .int .i64 0, .int .i64 0, .int .i64 0, .int .i64 0, .string ⟨#[]⟩, .int .i64 0, .int .i64 m, .string ⟨#[97]⟩, .string ⟨#[]⟩, .int .i64 0, .string ⟨#[]⟩, .int .i64 0, .int .i64 0, .slice none 0 0, .int .i64 0, .int .i64 0, .int .i64 0, .int .i64 0, .bool false, .int .i64 0, .int .i64 0, .string ⟨#[]⟩], .bool true]) := by
  refine enter_sound TBok Tryz.func8 rfl rfl Tryz.ntmps8 [.agg [.v (.int .i64 0), .v (.int .i64 0), .v (.int .i64 0), .v (.int .i64 m), .v (.bool false), .v (.int .i64 g)]] (Kn.start w noS) rfl rfl ?_
  conv => whnf
  repeat' (first
 | with_reducible (first | refine r_seq (fun KS hS => ?_) | (refine hS _ _ ?_; clear hS KS) | (refine hA _ ?_; clear hA KA) | (refine hB _ ?_; clear hB KB) | refine r_block ?_)
 | ((with_reducible (first | refine r_region ?_ | refine r_cond (fun KA hA KB hB => ?_) | refine r_ret ?_ | refine r_skip ?_ | refine r_exit ?_ | refine And.intro rfl ?_ | intro b)); conv => whnf)
 | ((with_reducible refine WrapK.i64 ?_ ?_); (focus omega); conv => whnf)
 | (apply r_any (id := 1); refine mixed; kernel_rfl; kernel_rfl; conv => whnf)
 | (apply in36; rfl; rfl; rfl; intro A; conv => whnf)
 | ((with_reducible refine CallK.at 58 ?_); refine CallK.puW (fun ms w hk => cmdOut72 (hk.got (by repeat (first | constructor | apply List.Mem.tail))) h hg) ?_; conv => whnf)
 | ((with_reducible apply OpK.more); (focus refine sok); (conv => whnf); fail_if_success guard_target =ₛ False)
 | ((with_reducible (first | refine InAt.mk (fun K' hK => ?_) | refine AnyAt.mk (fun K' hK => ?_) | (refine hK _ ?_; clear hK K') | (refine hK _ _ ?_; clear hK K'))); conv => whnf)
 | ((refine And.intro ?_ ?_); all_goals (conv => whnf))
 | (apply r_quiet; refine mixed; kernel_rfl; kernel_rfl; kernel_rfl; conv => whnf)
 | ((first | refine if_t (by decide) ?_ | refine if_f (by decide) ?_ | refine if_decT (by omega) ?_ | refine if_decF (by omega) ?_ | refine if_ndecT (by omega) ?_ | refine if_ndecF (by omega) ?_); conv => whnf)
 | ((first | refine if_dec (fun h => ?_) (fun h => ?_) | refine if_ndec (fun h => ?_) (fun h => ?_) | refine if_cond (fun h => ?_) (fun h => ?_)); all_goals (conv => whnf))
 | with_reducible apply_assumption -symm -exfalso)
  all_goals exact FinK.pu rfl
theorem everyIn27 {m g : Int} (h : 1 ≤ m ∧ m ≤ 64) (hg : 1 ≤ g ∧ g ≤ 7) (w : World) : Pu Tryz.prog 8 #[.agg #[.int .i64 0, .int .i64 0, .int .i64 0, .int .i64 m, .bool true, .int .i64 g]] w (.tuple #[.agg #[.int .i64 4, .int .i64 0, .int .i64 0, .int .i64 0, .int .i64 0, .int .i64 0, .string ⟨#[]⟩, .int .i64 0, .int .i64 m, .string ⟨#[97]⟩, .string ⟨#[]⟩, .int .i64 0, .string ⟨#[]⟩, .int .i64 0, .int .i64 0, .slice none 0 0, .int .i64 0, .int .i64 0, .int .i64 0, .int .i64 0, .bool false, .int .i64 0, .int .i64 0, .string ⟨#[100, 97, 116, 97]⟩], .bool true]) := by
  refine enter_sound TBok Tryz.func8 rfl rfl Tryz.ntmps8 [.agg [.v (.int .i64 0), .v (.int .i64 0), .v (.int .i64 0), .v (.int .i64 m), .v (.bool true), .v (.int .i64 g)]] (Kn.start w noS) rfl rfl ?_
  conv => whnf
  repeat' (first
 | with_reducible (first | refine r_seq (fun KS hS => ?_) | (refine hS _ _ ?_; clear hS KS) | (refine hA _ ?_; clear hA KA) | (refine hB _ ?_; clear hB KB) | refine r_block ?_)
 | ((with_reducible (first | refine r_region ?_ | refine r_cond (fun KA hA KB hB => ?_) | refine r_ret ?_ | refine r_skip ?_ | refine r_exit ?_ | refine And.intro rfl ?_ | intro b)); conv => whnf)
 | ((with_reducible refine WrapK.i64 ?_ ?_); (focus omega); conv => whnf)
 | (apply r_any (id := 1); refine mixed; kernel_rfl; kernel_rfl; conv => whnf)
 | (apply in36; rfl; rfl; rfl; intro A; conv => whnf)
 | ((with_reducible refine CallK.at 58 ?_); refine CallK.puW (fun ms w hk => cmdIn72 (hk.got (by repeat (first | constructor | apply List.Mem.tail))) h hg) ?_; conv => whnf)
 | ((with_reducible apply OpK.more); (focus refine sok); (conv => whnf); fail_if_success guard_target =ₛ False)
 | ((with_reducible (first | refine InAt.mk (fun K' hK => ?_) | refine AnyAt.mk (fun K' hK => ?_) | (refine hK _ ?_; clear hK K') | (refine hK _ _ ?_; clear hK K'))); conv => whnf)
 | ((refine And.intro ?_ ?_); all_goals (conv => whnf))
 | (apply r_quiet; refine mixed; kernel_rfl; kernel_rfl; kernel_rfl; conv => whnf)
 | ((first | refine if_t (by decide) ?_ | refine if_f (by decide) ?_ | refine if_decT (by omega) ?_ | refine if_decF (by omega) ?_ | refine if_ndecT (by omega) ?_ | refine if_ndecF (by omega) ?_); conv => whnf)
 | ((first | refine if_dec (fun h => ?_) (fun h => ?_) | refine if_ndec (fun h => ?_) (fun h => ?_) | refine if_cond (fun h => ?_) (fun h => ?_)); all_goals (conv => whnf))
 | with_reducible apply_assumption -symm -exfalso)
  all_goals exact FinK.pu rfl
theorem hk107 : nameOk ⟨#[107]⟩ = true := by decide +kernel
theorem hk97 : nameOk ⟨#[97]⟩ = true := by decide +kernel
def encEff (s t p : Nat) : List UInt8 := uvar 1 ++ uvar s ++ uvar t ++ uvar p ++ uvar (ByteArray.mk #[107]).size ++ (ByteArray.mk #[107]).data.toList ++ uvar (zigN (1 + (t : Int)))
def encOut (m : Nat) : List UInt8 := uvar 3 ++ uvar m ++ uvar (ByteArray.mk #[97]).size ++ (ByteArray.mk #[97]).data.toList ++ uvar (ByteArray.mk #[]).size ++ (ByteArray.mk #[]).data.toList
def encIn (m : Nat) (x : ByteArray) : List UInt8 := uvar 4 ++ uvar m ++ uvar (ByteArray.mk #[97]).size ++ (ByteArray.mk #[97]).data.toList ++ uvar (ByteArray.mk #[]).size ++ (ByteArray.mk #[]).data.toList ++ uvar x.size ++ x.data.toList
theorem uv1 {n : Nat} (h : n < 128) : (uvar n).length ≤ 1 := uvar_len n 0 (by omega)
theorem forEff {s t p g : Nat} (h : EffOk s t p) (hg : 1 ≤ g ∧ g ≤ 7) : CmdFor s t p 0 false g 1 ⟨#[107]⟩ (1 + t) ⟨#[]⟩ ⟨#[]⟩ ((((s - 1) * 8 + t) * 3 + p - 1) * 7 + g) (encEff s t p) := by
  have h0 := h
  unfold EffOk at h0
  have hn : NumOk (1 + (t : Int)) := by unfold NumOk; omega
  have hl : (encEff s t p).length ≤ 65536 := by
    have h1 := uvar_len s 1 (by omega); have h2 := uv1 (n := t) (by omega); have h3 := uv1 (n := p) (by omega); have h4 := uv1 (n := zigN (1 + (t : Int))) (by unfold zigN; rw [if_pos (by omega)]; omega); have h5 := uv1 (n := 1) (by omega)
    have h6 : (ByteArray.mk #[107]).size = 1 := rfl
    have h7 : (ByteArray.mk #[107]).data.toList.length = 1 := rfl
    unfold encEff
    rw [h6]
    simp only [List.length_append, h7]; omega
  have hnum : (((((s - 1) * 8 + t) * 3 + p - 1) * 7 + g : Nat) : Int) = ((((s : Int) - 1) * 8 + t) * 3 + p - 1) * 7 + g := by omega
  refine ⟨okEff h hg hk107 (by decide) (by omega) hn, by rw [hnum]; unfold itemNum; rw [if_pos rfl], fun w => everyEff27 h (by omega) w, fun w => fitsEff61 h hg hk107 (by decide) (by omega) hn w, fun w => encEff62 h hk107 (by decide) (by omega) hn hl w, hl, ?_⟩
  intro w d f to n gs tk mp hd hka hn7 hgs hf hto hto2 hft
  exact questionEff41 h hg hk107 (by decide) (by omega) hn hd hka hn7 hgs hf hto hto2 hft hnum (by simp [encEff]) hl
theorem forOut {m g : Nat} (h : 1 ≤ (m : Int) ∧ (m : Int) ≤ 64) (hg : 1 ≤ g ∧ g ≤ 7) : CmdFor 0 0 0 m false g 3 ⟨#[]⟩ 0 ⟨#[97]⟩ ⟨#[]⟩ ((239976 + 2 * m - 2) * 7 + g) (encOut m) := by
  have hl : (encOut m).length ≤ 65536 := by
    have h2 := uv1 (n := m) (by omega); have h3 := uv1 (n := 3) (by omega); have h4 := uv1 (n := 0) (by omega); have h5 := uv1 (n := 1) (by omega)
    have h6 : (ByteArray.mk #[97]).size = 1 := rfl
    have h7 : (ByteArray.mk #[97]).data.toList.length = 1 := rfl
    have h8 : (ByteArray.mk #[]).size = 0 := rfl
    have h9 : (ByteArray.mk #[]).data.toList.length = 0 := rfl
    unfold encOut
    rw [h6, h8]
    simp only [List.length_append, h7, h9]; omega
  have hnum : (((239976 + 2 * m - 2) * 7 + g : Nat) : Int) = (239976 + 2 * (m : Int) - 2) * 7 + g := by omega
  refine ⟨okOut h hg hk97 (by decide), by rw [hnum]; unfold itemNum; rw [if_neg (by omega)]; rfl, fun w => everyOut27 h (by omega) w, fun w => fitsOut61 h hg hk97 (by decide) w, fun w => encOut62 h hk97 (by decide) hl w, hl, ?_⟩
  intro w d f to n gs tk mp hd hka hn7 hgs hf hto hto2 hft
  exact questionOut41 h hg hk97 (by decide) hd hka hn7 hgs hf hto hto2 hft hnum (by simp [encOut]) hl
theorem forIn {m g : Nat} (h : 1 ≤ (m : Int) ∧ (m : Int) ≤ 64) (hg : 1 ≤ g ∧ g ≤ 7) : CmdFor 0 0 0 m true g 4 ⟨#[]⟩ 0 ⟨#[97]⟩ ⟨#[100, 97, 116, 97]⟩ ((239976 + 2 * m - 1) * 7 + g) (encIn m ⟨#[100, 97, 116, 97]⟩) := by
  have hl : (encIn m ⟨#[100, 97, 116, 97]⟩).length ≤ 65536 := by
    have h2 := uv1 (n := m) (by omega); have h3 := uv1 (n := 4) (by omega); have h4 := uv1 (n := 0) (by omega); have h5 := uv1 (n := 1) (by omega)
    have h6 : (ByteArray.mk #[97]).size = 1 := rfl
    have h7 : (ByteArray.mk #[97]).data.toList.length = 1 := rfl
    have h8 : (ByteArray.mk #[]).size = 0 := rfl
    have h9 : (ByteArray.mk #[]).data.toList.length = 0 := rfl
    have h10 : (ByteArray.mk #[100, 97, 116, 97]).size = 4 := rfl
    have h11 : (ByteArray.mk #[100, 97, 116, 97]).data.toList.length = 4 := rfl
    unfold encIn
    rw [h6, h8, h10]
    simp only [List.length_append, h7, h9, h11]; omega
  have hnum : (((239976 + 2 * m - 1) * 7 + g : Nat) : Int) = (239976 + 2 * (m : Int) - 1) * 7 + g := by omega
  refine ⟨okIn (x := ⟨#[100, 97, 116, 97]⟩) h hg hk97 (by decide) (by decide), by rw [hnum]; unfold itemNum; rw [if_neg (by omega)]; rfl, fun w => everyIn27 h (by omega) w, fun w => fitsIn61 h hg hk97 (by decide) (by decide) w, fun w => encIn62 h hk97 (by decide) (by decide) hl w, hl, ?_⟩
  intro w d f to n gs tk mp hd hka hn7 hgs hf hto hto2 hft
  exact questionIn41 h hg hk97 (by decide) (by decide) hd hka hn7 hgs hf hto hto2 hft hnum (by simp [encIn]) hl
end Go.Proofs.YthmjkaljkgjicaaGreatDoor

namespace Go.Proofs.YthmjkaljkgjicaaGreatDoor
open Go Go.X
set_option maxRecDepth 100000
theorem in67 : InSt 44 Tryz.f44 26 := InSt.mk' Tryz.func44 rfl Tryz.ntmps44
end Go.Proofs.YthmjkaljkgjicaaGreatDoor

namespace Go.Proofs.YthmjkaljkgjicaaGreatDoor
open Go Go.X
set_option maxRecDepth 100000
set_option maxHeartbeats 0
theorem eqMsg30 {a0 a1 a2 a3 a4 a5 a6 : Int} {b0 : ByteArray} (w : World) : Pu Tryz.prog 16 #[.agg #[.int .i64 a0, .int .i64 a1, .int .i64 a2, .int .i64 a3, .int .i64 a4, .int .i64 a5, .int .i64 a6, .string b0, .slice none 0 0], .agg #[.int .i64 a0, .int .i64 a1, .int .i64 a2, .int .i64 a3, .int .i64 a4, .int .i64 a5, .int .i64 a6, .string b0, .slice none 0 0]] w (.bool true) := by
  refine enter_sound TBok Tryz.func16 rfl rfl Tryz.ntmps16 [.agg [.v (.int .i64 a0), .v (.int .i64 a1), .v (.int .i64 a2), .v (.int .i64 a3), .v (.int .i64 a4), .v (.int .i64 a5), .v (.int .i64 a6), .v (.string b0), .v (.slice none 0 0)], .agg [.v (.int .i64 a0), .v (.int .i64 a1), .v (.int .i64 a2), .v (.int .i64 a3), .v (.int .i64 a4), .v (.int .i64 a5), .v (.int .i64 a6), .v (.string b0), .v (.slice none 0 0)]] (Kn.start w noS) rfl rfl ?_
  conv => whnf
  repeat' (first
 | with_reducible (first | refine r_seq (fun KS hS => ?_) | (refine hS _ _ ?_; clear hS KS) | (refine hA _ ?_; clear hA KA) | (refine hB _ ?_; clear hB KB) | refine r_block ?_)
 | ((with_reducible (first | refine r_region ?_ | refine r_cond (fun KA hA KB hB => ?_) | refine r_ret ?_ | refine r_skip ?_ | refine r_exit ?_ | refine And.intro rfl ?_ | intro b)); conv => whnf)
 | ((with_reducible refine WrapK.i64 ?_ ?_); (focus omega); conv => whnf)
 | (apply in67; rfl; rfl; rfl; intro A; conv => whnf)
 | (refine if_t (by first | rfl | (simp; done) | (simp; omega)) ?_; conv => whnf)
 | (refine if_f (by first | rfl | (simp; done) | (simp; omega)) ?_; conv => whnf)
 | ((with_reducible apply OpK.more); (focus refine sok); (conv => whnf); fail_if_success guard_target =ₛ False)
 | with_reducible (first | refine Rounds.step (fun KL hL => ?_) | (refine hL _ _ ?_; clear hL KL) | refine r_rounds 100 ?_)
 | ((with_reducible (first | refine InAt.mk (fun K' hK => ?_) | refine AnyAt.mk (fun K' hK => ?_) | (refine hK _ ?_; clear hK K') | (refine hK _ _ ?_; clear hK K'))); conv => whnf)
 | ((refine And.intro ?_ ?_); all_goals (conv => whnf))
 | (apply r_quiet; refine mixed; kernel_rfl; kernel_rfl; kernel_rfl; conv => whnf)
 | ((first | refine if_t (by decide) ?_ | refine if_f (by decide) ?_ | refine if_decT (by omega) ?_ | refine if_decF (by omega) ?_ | refine if_ndecT (by omega) ?_ | refine if_ndecF (by omega) ?_); conv => whnf)
 | ((first | refine if_dec (fun h => ?_) (fun h => ?_) | refine if_ndec (fun h => ?_) (fun h => ?_) | refine if_cond (fun h => ?_) (fun h => ?_)); all_goals (conv => whnf))
 | with_reducible apply_assumption -symm -exfalso)
  all_goals (refine FinK.pu ?_; simp [den])
theorem answerToC18 {s t p m : Int} {i : Bool} {g kd : Int} {key : ByteArray} {dl : Int} {fr data : ByteArray} {num : Nat} {enc : List UInt8} (hC : CmdFor s t p m i g kd key dl fr data num enc) {w : World} {d f to : Nat} {n gs tk : Int} {mp : Nat} {e : Nat} {rn : Int} {rx : ByteArray} (hd : DAt w d n gs tk mp) (hka : KAt w) (hn7 : 1 ≤ n ∧ n ≤ 7) (hgs : g < gs) (hf : (f : Int) < n) (hto : (to : Int) / n = g) (hto2 : to ≤ 55) (hft : f < to ∨ to < f) (he : 0 ≤ (e : Int) ∧ (e : Int) ≤ 18) (hrn : NumOk rn) (hrx : rx.size ≤ 65536) (hrl : (uvar e ++ uvar (zigN rn) ++ uvar rx.size ++ rx.data.toList).length ≤ 65536) : Pu Tryz.prog 11 #[pv d, .agg #[.int .i64 10, .int .i64 (f : Nat), .int .i64 (to : Nat), .int .i64 0, .int .i64 0, .int .i64 0, .int .i64 (num : Nat), .string ⟨enc.toArray⟩, .slice none 0 0], .agg #[.int .i64 (e : Nat), .int .i64 rn, .string rx]] w (.tuple #[.agg #[.int .i64 11, .int .i64 (to : Nat), .int .i64 (f : Nat), .int .i64 0, .int .i64 0, .int .i64 0, .int .i64 (num : Nat), .string ⟨(uvar e ++ uvar (zigN rn) ++ uvar rx.size ++ rx.data.toList).toArray⟩, .slice none 0 0], .int .i64 0]) := by
  have hne := hka.ne hd
  refine Pu.ofFrZ (enter_ro TBok (cs := DC n gs tk mp) hd Tryz.func11 rfl rfl Tryz.ntmps11 [.loc d 10 0, .agg [.v (.int .i64 10), .v (.int .i64 (f : Nat)), .v (.int .i64 (to : Nat)), .v (.int .i64 0), .v (.int .i64 0), .v (.int .i64 0), .v (.int .i64 (num : Nat)), .v (.string ⟨enc.toArray⟩), .v (.slice none 0 0)], .agg [.v (.int .i64 (e : Nat)), .v (.int .i64 rn), .v (.string rx)]] rfl rfl ?_)
  unfold DC
  conv => whnf
  repeat' (first
 | with_reducible (first | refine r_seq (fun KS hS => ?_) | (refine hS _ _ ?_; clear hS KS) | (refine hA _ ?_; clear hA KA) | (refine hB _ ?_; clear hB KB) | refine r_block ?_)
 | ((with_reducible (first | refine r_region ?_ | refine r_cond (fun KA hA KB hB => ?_) | refine r_ret ?_ | refine r_skip ?_ | refine r_exit ?_ | refine And.intro rfl ?_ | intro b)); conv => whnf)
 | ((with_reducible refine WrapK.i64 ?_ ?_); (focus omega); conv => whnf)
 | ((with_reducible refine CallK.at 27 ?_); refine CallK.puW (fun ms w hk => made45 (hk.got (by repeat (first | constructor | apply List.Mem.tail)))) ?_; conv => whnf)
 | ((with_reducible refine CallK.id ?_); (first | refine CallK.puW (fun ms w hkn => hC.question (hkn.got (by repeat (first | constructor | apply List.Mem.tail))) (hka.now hne hkn) hn7 hgs hf hto hto2 hft) ?_ | refine CallK.fresh (fun ms w hk => reply46 he hrn hrx hrl w) ?_); conv => whnf)
 | (intro z; conv => whnf)
 | ((with_reducible refine OpK.id ?_); refine OpK.cvBS' rfl rfl rfl rfl rfl rfl rfl rfl (Sees.ext (by repeat (first | with_reducible apply At.head | apply At.tail))) rfl ?_; conv => whnf)
 | ((with_reducible apply OpK.more); (focus refine sok); (conv => whnf); fail_if_success guard_target =ₛ False)
 | ((with_reducible (first | refine InAt.mk (fun K' hK => ?_) | refine AnyAt.mk (fun K' hK => ?_) | (refine hK _ ?_; clear hK K') | (refine hK _ _ ?_; clear hK K'))); conv => whnf)
 | ((refine And.intro ?_ ?_); all_goals (conv => whnf))
 | (apply r_quiet; refine mixed; kernel_rfl; kernel_rfl; kernel_rfl; conv => whnf)
 | ((first | refine if_t (by decide) ?_ | refine if_f (by decide) ?_ | refine if_decT (by omega) ?_ | refine if_decF (by omega) ?_ | refine if_ndecT (by omega) ?_ | refine if_ndecF (by omega) ?_); conv => whnf)
 | ((first | refine if_dec (fun h => ?_) (fun h => ?_) | refine if_ndec (fun h => ?_) (fun h => ?_) | refine if_cond (fun h => ?_) (fun h => ?_)); all_goals (conv => whnf))
 | with_reducible apply_assumption -symm -exfalso)
  all_goals exact FinK.ro0 rfl (HSub.pick (by repeat (first | with_reducible apply At.head | apply At.tail)))
theorem serveC14 {s t p m : Int} {i : Bool} {g kd : Int} {key : ByteArray} {dl : Int} {fr data : ByteArray} {num : Nat} {enc : List UInt8} (hC : CmdFor s t p m i g kd key dl fr data num enc) {w : World} {d f to : Nat} {n gs tk : Int} {mp : Nat} (hd : DAt w d n gs tk mp) (hka : KAt w) (hn7 : 1 ≤ n ∧ n ≤ 7) (hgs : g < gs) (hf : (f : Int) < n) (hto : (to : Int) / n = g) (hto2 : to ≤ 55) (hft : f < to ∨ to < f) : Pu Tryz.prog 10 #[pv d, .agg #[.int .i64 10, .int .i64 (f : Nat), .int .i64 (to : Nat), .int .i64 0, .int .i64 0, .int .i64 0, .int .i64 (num : Nat), .string ⟨enc.toArray⟩, .slice none 0 0], .nilFunc] w (.tuple #[.agg #[.int .i64 kd, .int .i64 0, .int .i64 0, .int .i64 s, .int .i64 t, .int .i64 p, .string key, .int .i64 dl, .int .i64 m, .string fr, .string ⟨#[]⟩, .int .i64 0, .string ⟨#[]⟩, .int .i64 0, .int .i64 0, .slice none 0 0, .int .i64 0, .int .i64 0, .int .i64 0, .int .i64 0, .bool false, .int .i64 0, .int .i64 0, .string data], .agg #[.int .i64 0, .int .i64 0, .int .i64 0, .int .i64 0, .int .i64 0, .int .i64 0, .int .i64 0, .string ⟨#[]⟩, .slice none 0 0], .bool true, .bool false]) := by
  have hne := hka.ne hd
  refine Pu.ofFrZ (enter_ro TBok (cs := DC n gs tk mp) hd Tryz.func10 rfl rfl Tryz.ntmps10 [.loc d 10 0, .agg [.v (.int .i64 10), .v (.int .i64 (f : Nat)), .v (.int .i64 (to : Nat)), .v (.int .i64 0), .v (.int .i64 0), .v (.int .i64 0), .v (.int .i64 (num : Nat)), .v (.string ⟨enc.toArray⟩), .v (.slice none 0 0)], .v .nilFunc] rfl rfl ?_)
  unfold DC
  conv => whnf
  repeat' (first
 | with_reducible (first | refine r_seq (fun KS hS => ?_) | (refine hS _ _ ?_; clear hS KS) | (refine hA _ ?_; clear hA KA) | (refine hB _ ?_; clear hB KB) | refine r_block ?_)
 | ((with_reducible (first | refine r_region ?_ | refine r_cond (fun KA hA KB hB => ?_) | refine r_ret ?_ | refine r_skip ?_ | refine r_exit ?_ | refine And.intro rfl ?_ | intro b)); conv => whnf)
 | ((with_reducible refine WrapK.i64 ?_ ?_); (focus omega); conv => whnf)
 | ((with_reducible refine CallK.id ?_); refine CallK.puW (fun ms w hkn => hC.question (hkn.got (by repeat (first | constructor | apply List.Mem.tail))) (hka.now hne hkn) hn7 hgs hf hto hto2 hft) ?_; conv => whnf)
 | ((with_reducible refine QK.id ?_); (refine QK.eqV sok rfl rfl rfl ?_); conv => whnf)
 | ((with_reducible refine IK.id ?_); (refine IK.eqV sok rfl rfl rfl ?_); conv => whnf)
 | ((with_reducible apply OpK.more); (focus refine sok); (conv => whnf); fail_if_success guard_target =ₛ False)
 | ((with_reducible (first | refine InAt.mk (fun K' hK => ?_) | refine AnyAt.mk (fun K' hK => ?_) | (refine hK _ ?_; clear hK K') | (refine hK _ _ ?_; clear hK K'))); conv => whnf)
 | ((refine And.intro ?_ ?_); all_goals (conv => whnf))
 | (apply r_quiet; refine mixed; kernel_rfl; kernel_rfl; kernel_rfl; conv => whnf)
 | ((first | refine if_t (by decide) ?_ | refine if_f (by decide) ?_ | refine if_decT (by omega) ?_ | refine if_decF (by omega) ?_ | refine if_ndecT (by omega) ?_ | refine if_ndecF (by omega) ?_); conv => whnf)
 | ((first | refine if_dec (fun h => ?_) (fun h => ?_) | refine if_ndec (fun h => ?_) (fun h => ?_) | refine if_cond (fun h => ?_) (fun h => ?_)); all_goals (conv => whnf))
 | with_reducible apply_assumption -symm -exfalso)
  all_goals exact FinK.ro0 rfl (HSub.pick (by repeat (first | with_reducible apply At.head | apply At.tail)))
end Go.Proofs.YthmjkaljkgjicaaGreatDoor

set_option linter.all false
namespace Go.X
open Go
theorem flat_item : ∀ (X : List OI) (i : Nat) (x : OI), X[i]? = some x → ((X.flatMap OI.cells).drop (i * 6)).take 6 = x.cells
  | [], _, _, h => by simp at h
  | y :: l, 0, x, h => by
    have : y = x := by simpa using h
    subst this
    rfl
  | y :: l, i + 1, x, h => by
    rw [List.flatMap_cons, show (i + 1) * 6 = y.cells.length + i * 6 by rw [OI.cells_length]; omega, List.drop_append]
    simp only [Nat.add_sub_cancel_left]
    rw [List.drop_of_length_le (by omega), List.nil_append]
    exact flat_item l i x (by simpa using h)
abbrev ic (x : OI) : List SV := [.v (.int .i64 x.1.s), .v (.int .i64 x.1.t), .v (.int .i64 x.1.p), .v (.int .i64 x.1.m), .v (.bool x.1.i), .v (.int .i64 x.1.g)]
theorem at_item {X : List OI} {i : Nat} {x : OI} (h : X[i]? = some x) : ((X.flatMap OI.cells).drop ((i : Int).toNat * 6)).take 6 = denL (ic x) := flat_item X i x h
theorem eq_item (x y : OI) : (decide ((x.1.s : Int) = y.1.s) && (decide ((x.1.t : Int) = y.1.t) && (decide ((x.1.p : Int) = y.1.p) && true)) && (decide ((x.1.m : Int) = y.1.m) && (x.1.i == y.1.i && (decide ((x.1.g : Int) = y.1.g) && true)))) = decide (x = y) := by
  obtain ⟨⟨s, t, p, m, i, g⟩, hx⟩ := x
  obtain ⟨⟨s', t', p', m', i', g'⟩, hy⟩ := y
  rw [Bool.eq_iff_iff]
  simp only [Bool.and_eq_true, decide_eq_true_eq, beq_iff_eq, Subtype.mk.injEq, It.mk.injEq, and_true]
  constructor
  · rintro ⟨⟨h1, h2, h3⟩, h4, h5, h6⟩
    exact ⟨by omega, by omega, by omega, by omega, h5, by omega⟩
  · rintro ⟨h1, h2, h3, h4, h5, h6⟩
    exact ⟨⟨by omega, by omega, by omega⟩, by omega, h5, by omega⟩
theorem take_ne {X : List OI} {i : Nat} {x y : OI} (hall : ∀ y ∈ X.take i, y ≠ x) (hy : X[i]? = some y) (h : (decide ((x.1.s : Int) = y.1.s) && (decide ((x.1.t : Int) = y.1.t) && (decide ((x.1.p : Int) = y.1.p) && true)) && (decide ((x.1.m : Int) = y.1.m) && (x.1.i == y.1.i && (decide ((x.1.g : Int) = y.1.g) && true)))) = false) : ∀ y ∈ X.take (i + 1), y ≠ x := by
  rw [eq_item] at h
  have hn : ¬ x = y := of_decide_eq_false h
  intro z hz
  rw [List.take_succ, hy] at hz
  simp only [Option.toList_some, List.mem_append, List.mem_singleton] at hz
  rcases hz with hz | rfl
  · exact hall z hz
  · exact fun e => hn e.symm
end Go.X
namespace Go.Proofs.YthmjkaljkgjicaaGreatDoor
open Go Go.X
set_option maxRecDepth 100000
set_option maxHeartbeats 0
theorem OI.itemOk (x : OI) : ItemOk x.1.s x.1.t x.1.p x.1.m x.1.i x.1.g := by
  obtain ⟨⟨s, t, p, m, i, g⟩, hx⟩ := x
  unfold It.Ok It.eff It.mov at hx
  unfold ItemOk EffOk
  dsimp only at hx ⊢
  rcases hx with ⟨h1, h2, h3, h4, h5, h6, h7, h8, h9⟩ | ⟨h1, h2, h3, h4, h5, h6, h7⟩
  · exact ⟨by omega, by omega, .inl ⟨by omega, h7, by omega⟩⟩
  · exact ⟨by omega, by omega, .inr ⟨by omega, by omega, by omega, by omega, by omega⟩⟩
theorem It.numEq (x : It) (hx : x.Ok) : (x.num : Int) = itemNum x.s x.t x.p x.m x.i x.g := by
  obtain ⟨s, t, p, m, i, g⟩ := x
  unfold It.Ok It.eff It.mov at hx
  unfold It.num itemNum
  dsimp only at hx ⊢
  rcases hx with ⟨h1, h2, h3, h4, h5, h6, h7, h8, h9⟩ | ⟨h1, h2, h3, h4, h5, h6, h7⟩
  · rw [if_pos h6, if_pos (by omega)]
    omega
  · have hm : ¬ m = 0 := by omega
    have hm' : ¬ (m : Int) = 0 := by omega
    rw [if_neg hm, if_neg hm']
    cases i
    · simp only [Bool.false_eq_true, if_false]; omega
    · simp only [if_true]; omega
theorem OI.numEq (x : OI) : (x.num : Int) = itemNum x.1.s x.1.t x.1.p x.1.m x.1.i x.1.g := It.numEq x.1 x.2
theorem number1020 {x : OI} (w : World) : Pu Tryz.prog 20 #[.agg #[.int .i64 x.1.s, .int .i64 x.1.t, .int .i64 x.1.p, .int .i64 x.1.m, .bool x.1.i, .int .i64 x.1.g]] w (.tuple #[.int .i64 x.num, .int .i64 0]) := by
  rw [OI.numEq]
  exact numOk70 (OI.itemOk x) w
theorem index1053 {X : List OI} {x : OI} {a : Option Addr} {cap : Nat} {w : World} (hr : RdS w 47 6 a X.length cap (X.flatMap OI.cells)) (hlen : X.length ≤ 1000000) :
    PuE Tryz.prog 53 #[.slice a X.length cap, .agg #[.int .i64 x.1.s, .int .i64 x.1.t, .int .i64 x.1.p, .int .i64 x.1.m, .bool x.1.i, .int .i64 x.1.g]] w (fun v => ∃ z : Int, v = .int .i64 z ∧ (0 ≤ z ↔ x ∈ X)) := by
  have sa := fun n' r H => Sees.old (c := ⟨Tryz.prog, TB, n', w, noS, r, TBok⟩) (H := H) hr.old
  refine enter_sound TBok Tryz.func53 rfl rfl Tryz.ntmps53 [.v (.slice a X.length cap), .agg (ic x)] (Kn.start w noS) rfl rfl ?_
  conv => whnf
  repeat' (first
 | with_reducible (first | refine r_seq (fun KS hS => ?_) | (refine hS _ _ ?_; clear hS KS) | (refine hA _ ?_; clear hA KA) | (refine hB _ ?_; clear hB KB) | refine r_block ?_)
 | ((with_reducible (first | refine r_region ?_ | refine r_cond (fun KA hA KB hB => ?_) | refine r_ret ?_ | refine r_skip ?_ | refine r_exit ?_ | refine And.intro rfl ?_ | intro b)); conv => whnf)
 | ((with_reducible refine WrapK.i64 ?_ ?_); (focus omega); conv => whnf)
 | ((with_reducible apply OpK.more); (focus refine sok); (conv => whnf); fail_if_success guard_target =ₛ False)
 | ((with_reducible (first | refine InAt.mk (fun K' hK => ?_) | refine AnyAt.mk (fun K' hK => ?_) | (refine hK _ ?_; clear hK K') | (refine hK _ _ ?_; clear hK K'))); conv => whnf)
 | ((refine And.intro ?_ ?_); all_goals (conv => whnf))
 | (apply r_quiet; refine mixed; kernel_rfl; kernel_rfl; kernel_rfl; conv => whnf)
 | ((first | refine if_t (by decide) ?_ | refine if_f (by decide) ?_ | refine if_decT (by omega) ?_ | refine if_decF (by omega) ?_ | refine if_ndecT (by omega) ?_ | refine if_ndecF (by omega) ?_); conv => whnf)
 | ((first | refine if_dec (fun h => ?_) (fun h => ?_) | refine if_ndec (fun h => ?_) (fun h => ?_) | refine if_cond (fun h => ?_) (fun h => ?_)); all_goals (conv => whnf))
 | with_reducible apply_assumption -symm -exfalso)
  refine r_loop (α := Nat) (fun i => [(8, .v (.int .i64 (i : Nat))), (7, .v (.int .i64 X.length)), (3, .loc b 0 0), (0, .v (.slice a X.length cap))]) (fun _ => [.blk 0 b (ic x) 47]) (fun i => i ≤ X.length ∧ ∀ y ∈ X.take i, y ≠ x) (fun i => X.length - i) 0 ⟨Nat.zero_le _, by simp⟩ (by repeat' (first | exact Sub.nil | (refine Sub.cons rfl rfl ?_))) (HSub.refl _) ?_
  rintro i ⟨hi, hall⟩ KL hL
  by_cases hlt : i < X.length
  · obtain ⟨y, hy⟩ : ∃ y, X[i]? = some y := ⟨_, List.getElem?_eq_getElem hlt⟩
    repeat' (first
 | with_reducible (first | refine r_seq (fun KS hS => ?_) | (refine hS _ _ ?_; clear hS KS) | (refine hA _ ?_; clear hA KA) | (refine hB _ ?_; clear hB KB) | refine r_block ?_)
 | ((with_reducible (first | refine r_region ?_ | refine r_cond (fun KA hA KB hB => ?_) | refine r_ret ?_ | refine r_skip ?_ | refine r_exit ?_ | refine And.intro rfl ?_ | intro b)); conv => whnf)
 | ((with_reducible refine WrapK.i64 ?_ ?_); (focus omega); conv => whnf)
 | ((with_reducible refine QK.id ?_); (first | refine QK.idx (k := 6) rfl rfl rfl rfl rfl rfl rfl (sa _ _ _) (by omega) (by omega) (at_item hy) (fun b off hp => ?_) | refine QK.ldp rfl rfl hp (List.cons_ne_nil _ _) ?_); conv => whnf)
 | ((with_reducible refine IK.id ?_); (refine IK.eqV sok rfl rfl rfl ?_); conv => whnf)
 | (refine hL (i + 1) _ _ ⟨by omega, take_ne hall hy ‹_›⟩ (by show X.length - (i + 1) < X.length - i; omega) (by repeat' (first | exact Sub.nil | (refine Sub.cons rfl rfl ?_))) (HSub.refl _))
 | ((with_reducible apply OpK.more); (focus refine sok); (conv => whnf); fail_if_success guard_target =ₛ False)
 | ((with_reducible (first | refine InAt.mk (fun K' hK => ?_) | refine AnyAt.mk (fun K' hK => ?_) | (refine hK _ ?_; clear hK K') | (refine hK _ _ ?_; clear hK K'))); conv => whnf)
 | ((refine And.intro ?_ ?_); all_goals (conv => whnf))
 | (apply r_quiet; refine mixed; kernel_rfl; kernel_rfl; kernel_rfl; conv => whnf)
 | ((first | refine if_t (by decide) ?_ | refine if_f (by decide) ?_ | refine if_decT (by omega) ?_ | refine if_decF (by omega) ?_ | refine if_ndecT (by omega) ?_ | refine if_ndecF (by omega) ?_); conv => whnf)
 | ((first | refine if_dec (fun h => ?_) (fun h => ?_) | refine if_ndec (fun h => ?_) (fun h => ?_) | refine if_cond (fun h => ?_) (fun h => ?_)); all_goals (conv => whnf))
 | with_reducible apply_assumption -symm -exfalso)
    rename_i h
    rw [eq_item] at h
    have h := of_decide_eq_true h
    subst h
    exact FinK.puE ⟨_, rfl, ⟨fun _ => List.mem_of_getElem? hy, fun _ => Int.natCast_nonneg _⟩⟩
  · obtain rfl : i = X.length := by omega
    repeat' (first
 | with_reducible (first | refine r_seq (fun KS hS => ?_) | (refine hS _ _ ?_; clear hS KS) | (refine hA _ ?_; clear hA KA) | (refine hB _ ?_; clear hB KB) | refine r_block ?_)
 | ((with_reducible (first | refine r_region ?_ | refine r_cond (fun KA hA KB hB => ?_) | refine r_ret ?_ | refine r_skip ?_ | refine r_exit ?_ | refine And.intro rfl ?_ | intro b)); conv => whnf)
 | ((with_reducible refine WrapK.i64 ?_ ?_); (focus omega); conv => whnf)
 | ((with_reducible apply OpK.more); (focus refine sok); (conv => whnf); fail_if_success guard_target =ₛ False)
 | ((with_reducible (first | refine InAt.mk (fun K' hK => ?_) | refine AnyAt.mk (fun K' hK => ?_) | (refine hK _ ?_; clear hK K') | (refine hK _ _ ?_; clear hK K'))); conv => whnf)
 | ((refine And.intro ?_ ?_); all_goals (conv => whnf))
 | (apply r_quiet; refine mixed; kernel_rfl; kernel_rfl; kernel_rfl; conv => whnf)
 | ((first | refine if_t (by decide) ?_ | refine if_f (by decide) ?_ | refine if_decT (by omega) ?_ | refine if_decF (by omega) ?_ | refine if_ndecT (by omega) ?_ | refine if_ndecF (by omega) ?_); conv => whnf)
 | ((first | refine if_dec (fun h => ?_) (fun h => ?_) | refine if_ndec (fun h => ?_) (fun h => ?_) | refine if_cond (fun h => ?_) (fun h => ?_)); all_goals (conv => whnf))
 | with_reducible apply_assumption -symm -exfalso)
    refine FinK.puE ⟨_, rfl, ⟨fun h => absurd h (by decide), fun h => ?_⟩⟩
    rw [List.take_length] at hall
    exact absurd rfl (hall x h)
theorem contains1024 {X : List OI} {x : OI} {a : Option Addr} {cap : Nat} {w : World} (hr : RdS w 47 6 a X.length cap (X.flatMap OI.cells)) (hlen : X.length ≤ 1000000) :
    Pu Tryz.prog 24 #[.slice a X.length cap, .agg #[.int .i64 x.1.s, .int .i64 x.1.t, .int .i64 x.1.p, .int .i64 x.1.m, .bool x.1.i, .int .i64 x.1.g]] w (.bool (decide (x ∈ X))) := by
  have sa := fun n' r H => Sees.old (c := ⟨Tryz.prog, TB, n', w, noS, r, TBok⟩) (H := H) hr.old
  refine enter_sound TBok Tryz.func24 rfl rfl Tryz.ntmps24 [.v (.slice a X.length cap), .agg (ic x)] (Kn.start w noS) rfl rfl ?_
  conv => whnf
  repeat' (first
 | with_reducible (first | refine r_seq (fun KS hS => ?_) | (refine hS _ _ ?_; clear hS KS) | (refine hA _ ?_; clear hA KA) | (refine hB _ ?_; clear hB KB) | refine r_block ?_)
 | ((with_reducible (first | refine r_region ?_ | refine r_cond (fun KA hA KB hB => ?_) | refine r_ret ?_ | refine r_skip ?_ | refine r_exit ?_ | refine And.intro rfl ?_ | intro b)); conv => whnf)
 | ((with_reducible refine WrapK.i64 ?_ ?_); (focus omega); conv => whnf)
 | ((with_reducible refine CallK.id ?_); refine CallK.puE (fun ms w' hk => index1053 ((sa _ _ _).rd hk) hlen) ?_; rintro v ⟨z, rfl, hz⟩; conv => whnf)
 | (refine if_cond (fun h => ?_) (fun h => ?_); conv => whnf)
 | ((with_reducible apply OpK.more); (focus refine sok); (conv => whnf); fail_if_success guard_target =ₛ False)
 | ((with_reducible (first | refine InAt.mk (fun K' hK => ?_) | refine AnyAt.mk (fun K' hK => ?_) | (refine hK _ ?_; clear hK K') | (refine hK _ _ ?_; clear hK K'))); conv => whnf)
 | ((refine And.intro ?_ ?_); all_goals (conv => whnf))
 | (apply r_quiet; refine mixed; kernel_rfl; kernel_rfl; kernel_rfl; conv => whnf)
 | ((first | refine if_t (by decide) ?_ | refine if_f (by decide) ?_ | refine if_decT (by omega) ?_ | refine if_decF (by omega) ?_ | refine if_ndecT (by omega) ?_ | refine if_ndecF (by omega) ?_); conv => whnf)
 | ((first | refine if_dec (fun h => ?_) (fun h => ?_) | refine if_ndec (fun h => ?_) (fun h => ?_) | refine if_cond (fun h => ?_) (fun h => ?_)); all_goals (conv => whnf))
 | with_reducible apply_assumption -symm -exfalso)
  exact FinK.pu (congrArg Value.bool (decide_eq_decide.2 hz))
end Go.Proofs.YthmjkaljkgjicaaGreatDoor

namespace Go.Proofs.YthmjkaljkgjicaaGreatDoor
open Go Go.X
set_option maxRecDepth 100000
set_option maxHeartbeats 0
def itS (k : Int) : Int := if k % 4 = 3 then 0 else 1 + k / 4 % 50
def itT (k : Int) : Int := if k % 4 = 3 then 0 else k / 200 % 8
def itP (k : Int) : Int := if k % 4 = 3 then 0 else 1 + k % 3
def itM (k : Int) : Int := if k % 4 = 3 then 1 + k / 4 % 64 else 0
def itI (k : Int) : Bool := if k % 4 = 3 then decide (k / 256 % 2 = 1) else false
def itG (k : Int) : Int := if k % 4 = 3 then 1 + k / 512 % 2 else 1 + k / 1600 % 2
theorem item26 {k : Int} (hk : 0 ≤ k ∧ k ≤ 65535) (w : World) : Pu Tryz.prog 23 #[.int .u16 k] w (.agg #[.int .i64 (itS k), .int .i64 (itT k), .int .i64 (itP k), .int .i64 (itM k), .bool (itI k), .int .i64 (itG k)]) := by
  refine enter_sound TBok Tryz.func23 rfl rfl Tryz.ntmps23 [.v (.int .u16 k)] (Kn.start w noS) rfl rfl ?_
  by_cases h : k % 4 = 3
  · unfold itS itT itP itM itI itG
    rw [if_pos h, if_pos h, if_pos h, if_pos h, if_pos h, if_pos h]
    conv => whnf
    repeat' (first
 | with_reducible (first | refine r_seq (fun KS hS => ?_) | (refine hS _ _ ?_; clear hS KS) | (refine hA _ ?_; clear hA KA) | (refine hB _ ?_; clear hB KB) | refine r_block ?_)
 | ((with_reducible (first | refine r_region ?_ | refine r_cond (fun KA hA KB hB => ?_) | refine r_ret ?_ | refine r_skip ?_ | refine r_exit ?_ | refine And.intro rfl ?_ | intro b)); conv => whnf)
 | ((with_reducible refine WrapK.i64 ?_ ?_); (focus omega); conv => whnf)
 | ((with_reducible refine RemK.id ?_); refine RemK.eq (by omega) (IntWalk.rem_in _ _ (by omega)) ?_; conv => whnf)
 | ((with_reducible refine QuoK.id ?_); refine QuoK.eq (by omega) (IntWalk.i64_quo _ _ (by omega)) ?_; conv => whnf)
 | ((with_reducible apply OpK.more); (focus refine sok); (conv => whnf); fail_if_success guard_target =ₛ False)
 | ((with_reducible (first | refine InAt.mk (fun K' hK => ?_) | refine AnyAt.mk (fun K' hK => ?_) | (refine hK _ ?_; clear hK K') | (refine hK _ _ ?_; clear hK K'))); conv => whnf)
 | ((refine And.intro ?_ ?_); all_goals (conv => whnf))
 | (apply r_quiet; refine mixed; kernel_rfl; kernel_rfl; kernel_rfl; conv => whnf)
 | ((first | refine if_t (by decide) ?_ | refine if_f (by decide) ?_ | refine if_decT (by omega) ?_ | refine if_decF (by omega) ?_ | refine if_ndecT (by omega) ?_ | refine if_ndecF (by omega) ?_); conv => whnf)
 | ((first | refine if_dec (fun h => ?_) (fun h => ?_) | refine if_ndec (fun h => ?_) (fun h => ?_) | refine if_cond (fun h => ?_) (fun h => ?_)); all_goals (conv => whnf))
 | with_reducible apply_assumption -symm -exfalso)
    all_goals exact FinK.pu rfl
  · unfold itS itT itP itM itI itG
    rw [if_neg h, if_neg h, if_neg h, if_neg h, if_neg h, if_neg h]
    conv => whnf
    repeat' (first
 | with_reducible (first | refine r_seq (fun KS hS => ?_) | (refine hS _ _ ?_; clear hS KS) | (refine hA _ ?_; clear hA KA) | (refine hB _ ?_; clear hB KB) | refine r_block ?_)
 | ((with_reducible (first | refine r_region ?_ | refine r_cond (fun KA hA KB hB => ?_) | refine r_ret ?_ | refine r_skip ?_ | refine r_exit ?_ | refine And.intro rfl ?_ | intro b)); conv => whnf)
 | ((with_reducible refine WrapK.i64 ?_ ?_); (focus omega); conv => whnf)
 | ((with_reducible refine RemK.id ?_); refine RemK.eq (by omega) (IntWalk.rem_in _ _ (by omega)) ?_; conv => whnf)
 | ((with_reducible refine QuoK.id ?_); refine QuoK.eq (by omega) (IntWalk.i64_quo _ _ (by omega)) ?_; conv => whnf)
 | ((with_reducible apply OpK.more); (focus refine sok); (conv => whnf); fail_if_success guard_target =ₛ False)
 | ((with_reducible (first | refine InAt.mk (fun K' hK => ?_) | refine AnyAt.mk (fun K' hK => ?_) | (refine hK _ ?_; clear hK K') | (refine hK _ _ ?_; clear hK K'))); conv => whnf)
 | ((refine And.intro ?_ ?_); all_goals (conv => whnf))
 | (apply r_quiet; refine mixed; kernel_rfl; kernel_rfl; kernel_rfl; conv => whnf)
 | ((first | refine if_t (by decide) ?_ | refine if_f (by decide) ?_ | refine if_decT (by omega) ?_ | refine if_decF (by omega) ?_ | refine if_ndecT (by omega) ?_ | refine if_ndecF (by omega) ?_); conv => whnf)
 | ((first | refine if_dec (fun h => ?_) (fun h => ?_) | refine if_ndec (fun h => ?_) (fun h => ?_) | refine if_cond (fun h => ?_) (fun h => ?_)); all_goals (conv => whnf))
 | with_reducible apply_assumption -symm -exfalso)
    all_goals exact FinK.pu rfl
theorem rlOk {e : Nat} {rn : Int} {rx : ByteArray} (he : e ≤ 18) (hrn : -2147483648 ≤ rn ∧ rn ≤ 2147483647) (hrx : rx.size ≤ 60000) : (uvar e ++ uvar (zigN rn) ++ uvar rx.size ++ rx.data.toList).length ≤ 65536 := by
  have h1 := uv1 (n := e) (by omega)
  have h2 := uvar_len (zigN rn) 4 (by unfold zigN; split <;> omega)
  have h3 := uvar_len rx.size 2 (by omega)
  have h4 : rx.data.toList.length = rx.size := str_len rx
  simp only [List.length_append]
  omega
end Go.Proofs.YthmjkaljkgjicaaGreatDoor

set_option linter.all false
namespace Go.Proofs.YthmjkaljkgjicaaGreatDoor
open Go Go.RowKit Go.Sort Go.X Go.Proofs
set_option maxRecDepth 100000
set_option maxHeartbeats 0
theorem effK75 {s t p : Nat} (h : 1 ≤ s ∧ s ≤ 50 ∧ t < 8 ∧ 1 ≤ p ∧ p ≤ 3) (W : World) : Calls Tryz.prog 75 #[.agg #[.int .i64 s, .int .i64 t, .int .i64 p]] W fun e w' => e = .returned (.int .i64 0) ∧ Gr W w' := by
  go_enter Tryz.func75, Tryz.ntmps75
  go_wp2
  all_goals first | (exfalso; omega) | skip
  go_ret
  exact ⟨rfl, (Gr.refl W).alloc _⟩
theorem itemK47 {x : It} (h : x.Ok) (W : World) : Calls Tryz.prog 47 #[.agg x.cells.toArray] W fun e w' => e = .returned (.int .i64 0) ∧ Gr W w' := by
  obtain ⟨s, t, p, m, i, g⟩ := x
  rcases h with ⟨h1, h2, h3, h4, h5, h6, h7, h8, h9⟩ | ⟨h1, h2, h3, h4, h5, h6, h7⟩
  · obtain rfl : m = 0 := h6
    obtain rfl : i = false := h7
    have h75 := fun W' => effK75 ⟨h1, h2, h3, h4, h5⟩ W'
    show Calls Tryz.prog 47 #[.agg #[.int .i64 s, .int .i64 t, .int .i64 p, .int .i64 0, .bool false, .int .i64 g]] W _
    go_enter Tryz.func47, Tryz.ntmps47
    go_wp2_with (go_at_call 75; refine (h75 _).mono ?_; rintro e w' ⟨rfl, hg⟩)
    all_goals first | (exfalso; omega) | (go_ret; exact ⟨rfl, ((Gr.refl W).alloc _).trans ‹_›⟩)
  · obtain rfl : s = 0 := h1
    obtain rfl : t = 0 := h2
    obtain rfl : p = 0 := h3
    show Calls Tryz.prog 47 #[.agg #[.int .i64 0, .int .i64 0, .int .i64 0, .int .i64 m, .bool i, .int .i64 g]] W _
    go_enter Tryz.func47, Tryz.ntmps47
    go_wp2
    all_goals first | (exfalso; omega) | (go_ret; exact ⟨rfl, (Gr.refl W).alloc _⟩)
theorem numberK20 (x : OI) (W : World) : Calls Tryz.prog 20 #[.agg x.cells.toArray] W fun e w' => e = .returned (.tuple #[.int .i64 x.num, .int .i64 0]) ∧ Gr W w' := by
  obtain ⟨⟨s, t, p, m, i, g⟩, hx⟩ := x
  have h47 := fun W' => itemK47 hx W'
  show Calls Tryz.prog 20 #[.agg #[.int .i64 s, .int .i64 t, .int .i64 p, .int .i64 m, .bool i, .int .i64 g]] W _
  change ∀ W', Calls Tryz.prog 47 #[.agg #[.int .i64 s, .int .i64 t, .int .i64 p, .int .i64 m, .bool i, .int .i64 g]] W' _ at h47
  unfold OI.num It.num
  unfold It.Ok It.eff It.mov at hx
  dsimp only at hx ⊢
  rcases hx with ⟨h1, h2, h3, h4, h5, h6, h7, h8, h9⟩ | ⟨h1, h2, h3, h4, h5, h6, h7⟩
  · obtain rfl : m = 0 := h6
    obtain rfl : i = false := h7
    simp only [if_true]
    rw [show (((((s - 1) * 8 + t) * 3 + p - 1) * 7 + g : Nat) : Int) = ((((s : Int) - 1) * 8 + t) * 3 + p - 1) * 7 + g by omega]
    go_enter Tryz.func20, Tryz.ntmps20
    go_wp2_with (go_at_call 47; refine (h47 _).mono ?_; rintro e w' ⟨rfl, hg⟩; have c0 := hg.new (j := 0) rfl; have c1 := hg.new (j := 1) rfl; have c2 := hg.new (j := 2) rfl; have c3 := hg.new (j := 3) rfl; have c4 := hg.new (j := 4) rfl; have c5 := hg.new (j := 5) rfl)
    all_goals (go_ret2; exact ⟨rfl, ((Gr.refl W).alloc _).trans hg⟩)
  · obtain rfl : s = 0 := h1
    obtain rfl : t = 0 := h2
    obtain rfl : p = 0 := h3
    have hm : ¬ m = 0 := by omega
    have hm' : ¬ (m : Int) = 0 := by omega
    rw [if_neg hm]
    cases i
    · simp only [Bool.false_eq_true, if_false]
      rw [show ((((239976 + 2 * m - 2) * 7 + g : Nat)) : Int) = (239976 + 2 * (m : Int) - 2) * 7 + g by omega]
      go_enter Tryz.func20, Tryz.ntmps20
      go_wp2_with (go_at_call 47; refine (h47 _).mono ?_; rintro e w' ⟨rfl, hg⟩; have c0 := hg.new (j := 0) rfl; have c1 := hg.new (j := 1) rfl; have c2 := hg.new (j := 2) rfl; have c3 := hg.new (j := 3) rfl; have c4 := hg.new (j := 4) rfl; have c5 := hg.new (j := 5) rfl)
      all_goals first | (exfalso; omega) | (go_ret2; exact ⟨rfl, ((Gr.refl W).alloc _).trans hg⟩)
    · simp only [if_true]
      rw [show ((((239976 + 2 * m - 1) * 7 + g : Nat)) : Int) = (239976 + 2 * (m : Int) - 1) * 7 + g by omega]
      go_enter Tryz.func20, Tryz.ntmps20
      go_wp2_with (go_at_call 47; refine (h47 _).mono ?_; rintro e w' ⟨rfl, hg⟩; have c0 := hg.new (j := 0) rfl; have c1 := hg.new (j := 1) rfl; have c2 := hg.new (j := 2) rfl; have c3 := hg.new (j := 3) rfl; have c4 := hg.new (j := 4) rfl; have c5 := hg.new (j := 5) rfl)
      all_goals first | (exfalso; omega) | (go_ret2; exact ⟨rfl, ((Gr.refl W).alloc _).trans hg⟩)
theorem setK26 (x y : OI) (W : World) : Calls Tryz.prog 26 #[.agg x.cells.toArray, .agg y.cells.toArray] W fun e w' => e = .returned (.int .i64 ((x.num : Int) - y.num)) ∧ Gr W w' := by
  obtain ⟨a, ha⟩ : ∃ a : Int, (x.num : Int) = a := ⟨_, rfl⟩
  obtain ⟨b, hb⟩ : ∃ b : Int, (y.num : Int) = b := ⟨_, rfl⟩
  have hx := It.num_lt x.2
  have hy := It.num_lt y.2
  have ha2 : 0 ≤ a ∧ a < 2000000 := by rw [← ha]; have : OI.num x < 2000000 := hx; omega
  have hb2 : 0 ≤ b ∧ b < 2000000 := by rw [← hb]; have : OI.num y < 2000000 := hy; omega
  have h20 : ∀ W', Calls Tryz.prog 20 #[.agg #[.int .i64 x.1.s, .int .i64 x.1.t, .int .i64 x.1.p, .int .i64 x.1.m, .bool x.1.i, .int .i64 x.1.g]] W' fun e w' => e = .returned (.tuple #[.int .i64 a, .int .i64 0]) ∧ Gr W' w' := fun W' => ha ▸ numberK20 x W'
  have h20' : ∀ W', Calls Tryz.prog 20 #[.agg #[.int .i64 y.1.s, .int .i64 y.1.t, .int .i64 y.1.p, .int .i64 y.1.m, .bool y.1.i, .int .i64 y.1.g]] W' fun e w' => e = .returned (.tuple #[.int .i64 b, .int .i64 0]) ∧ Gr W' w' := fun W' => hb ▸ numberK20 y W'
  rw [ha, hb]
  show Calls Tryz.prog 26 #[.agg #[.int .i64 x.1.s, .int .i64 x.1.t, .int .i64 x.1.p, .int .i64 x.1.m, .bool x.1.i, .int .i64 x.1.g], .agg #[.int .i64 y.1.s, .int .i64 y.1.t, .int .i64 y.1.p, .int .i64 y.1.m, .bool y.1.i, .int .i64 y.1.g]] W _
  clear hx hy ha hb
  generalize x.1.s = xs at *
  generalize x.1.t = xt at *
  generalize x.1.p = xp at *
  generalize x.1.m = xm at *
  generalize x.1.i = xi at *
  generalize x.1.g = xg at *
  generalize y.1.s = ys at *
  generalize y.1.t = yt at *
  generalize y.1.p = yp at *
  generalize y.1.m = ym at *
  generalize y.1.i = yi at *
  generalize y.1.g = yg at *
  go_enter Tryz.func26, Tryz.ntmps26
  go_wp2_with (go_at_call 20; refine (h20 _).mono ?_; rintro e w' ⟨rfl, hg⟩; have hW : Gr W w' := (((Gr.refl W).alloc _).alloc _).trans hg; have c0 := hg.new (j := 0) rfl; rw [heap_alloc, Array.size_push] at c0; dsimp only [List.getElem_toArray, List.getElem_cons_zero, List.getElem_cons_succ] at c0; have c1 := hg.new (j := 1) rfl; rw [heap_alloc, Array.size_push] at c1; dsimp only [List.getElem_toArray, List.getElem_cons_zero, List.getElem_cons_succ] at c1; have c2 := hg.new (j := 2) rfl; rw [heap_alloc, Array.size_push] at c2; dsimp only [List.getElem_toArray, List.getElem_cons_zero, List.getElem_cons_succ] at c2; have c3 := hg.new (j := 3) rfl; rw [heap_alloc, Array.size_push] at c3; dsimp only [List.getElem_toArray, List.getElem_cons_zero, List.getElem_cons_succ] at c3; have c4 := hg.new (j := 4) rfl; rw [heap_alloc, Array.size_push] at c4; dsimp only [List.getElem_toArray, List.getElem_cons_zero, List.getElem_cons_succ] at c4; have c5 := hg.new (j := 5) rfl; rw [heap_alloc, Array.size_push] at c5; dsimp only [List.getElem_toArray, List.getElem_cons_zero, List.getElem_cons_succ] at c5; clear hg h20)
  refine (h20' _).mono ?_
  rintro e w'' ⟨rfl, hg2⟩
  have hW2 := hW.trans hg2
  clear hg2 hW h20' c0 c1 c2 c3 c4 c5
  go_wp2
  all_goals (go_ret; exact ⟨rfl, hW2⟩)
end Go.Proofs.YthmjkaljkgjicaaGreatDoor

set_option linter.all false
namespace Go.Proofs.YthmjkaljkgjicaaGreatDoor
open Go Go.X Go.RowKit Go.Maps Go.Sort Go.Shelf Go.Proofs
def Tryz.keysW_ren : Go.Shelf.Ren := ⟨fun | 7 => 36 | 10 => 61 | n => n, fun | 23 => 78 | 26 => 3 | 3 => 85 | 28 => 96 | 0 => 0 | 27 => 95 | 33 => 137 | 4 => 4 | n => n, fun | n => n⟩
theorem Tryz.keysW : Go.Proofs.SlLaysZI.n7 Tryz.prog Tryz.keysW_ren := {
  mixed := by kernel_rfl
  f7 := ⟨Tryz.f36.name, by decide, Tryz.func36.trans (congrArg some (by kernel_rfl))⟩
  f10 := ⟨Tryz.f61.name, by decide, Tryz.func61.trans (congrArg some (by kernel_rfl))⟩
  t0 := Tryz.underlying0
  a0 := Tryz.isAgg0
  z0 := Tryz.sizeOf0
  v0 := Tryz.zeroValue0
  t4 := Tryz.underlying4
  a4 := Tryz.isAgg4
  z4 := Tryz.sizeOf4
  v4 := Tryz.zeroValue4
  t23 := Tryz.underlying78
  a23 := Tryz.isAgg78
  z23 := Tryz.sizeOf78
  v23 := Tryz.zeroValue78
  t26 := Tryz.underlying3
  a26 := Tryz.isAgg3
  z26 := Tryz.sizeOf3
  v26 := Tryz.zeroValue3
  t27 := Tryz.underlying95
  a27 := Tryz.isAgg95
  z27 := Tryz.sizeOf95
  v27 := Tryz.zeroValue95
  t28 := Tryz.underlying96
  a28 := Tryz.isAgg96
  z28 := Tryz.sizeOf96
  v28 := Tryz.zeroValue96
  t33 := Tryz.underlying137
  a33 := Tryz.isAgg137
  z33 := Tryz.sizeOf137
  v33 := Tryz.zeroValue137 }
def Tryz.keysT_ren : Go.Shelf.Ren := ⟨fun | 7 => 57 | 10 => 102 | n => n, fun | 23 => 81 | 26 => 3 | 3 => 47 | 28 => 96 | 0 => 0 | 27 => 95 | 33 => 137 | 4 => 4 | n => n, fun | n => n⟩
theorem Tryz.keysT : Go.Proofs.SlLaysZI.n7 Tryz.prog Tryz.keysT_ren := {
  mixed := by kernel_rfl
  f7 := ⟨Tryz.f57.name, by decide, Tryz.func57.trans (congrArg some (by kernel_rfl))⟩
  f10 := ⟨Tryz.f102.name, by decide, Tryz.func102.trans (congrArg some (by kernel_rfl))⟩
  t0 := Tryz.underlying0
  a0 := Tryz.isAgg0
  z0 := Tryz.sizeOf0
  v0 := Tryz.zeroValue0
  t4 := Tryz.underlying4
  a4 := Tryz.isAgg4
  z4 := Tryz.sizeOf4
  v4 := Tryz.zeroValue4
  t23 := Tryz.underlying81
  a23 := Tryz.isAgg81
  z23 := Tryz.sizeOf81
  v23 := Tryz.zeroValue81
  t26 := Tryz.underlying3
  a26 := Tryz.isAgg3
  z26 := Tryz.sizeOf3
  v26 := Tryz.zeroValue3
  t27 := Tryz.underlying95
  a27 := Tryz.isAgg95
  z27 := Tryz.sizeOf95
  v27 := Tryz.zeroValue95
  t28 := Tryz.underlying96
  a28 := Tryz.isAgg96
  z28 := Tryz.sizeOf96
  v28 := Tryz.zeroValue96
  t33 := Tryz.underlying137
  a33 := Tryz.isAgg137
  z33 := Tryz.sizeOf137
  v33 := Tryz.zeroValue137 }
def Tryz.sortedI_ren : Go.Shelf.Ren := ⟨fun | 6 => 35 | 8 => 59 | 9 => 60 | 11 => 103 | 13 => 55 | 12 => 104 | 23 => 100 | 24 => 101 | 14 => 181 | 15 => 182 | 16 => 183 | 17 => 184 | 18 => 185 | 19 => 186 | 20 => 187 | 21 => 188 | 22 => 189 | 25 => 246 | 26 => 177 | 27 => 178 | 28 => 247 | 29 => 248 | 30 => 249 | 31 => 271 | n => n, fun | 26 => 3 | 28 => 96 | 24 => 32 | 0 => 0 | 3 => 3 | 37 => 133 | 48 => 172 | 50 => 117 | 4 => 4 | 40 => 165 | 39 => 164 | 45 => 169 | 5 => 5 | 9 => 9 | 51 => 227 | 55 => 216 | 57 => 261 | 58 => 262 | 33 => 137 | n => n, fun | n => n⟩
theorem Tryz.sortedI : Go.Proofs.SlLaysZI.n6 Tryz.prog Tryz.sortedI_ren := {
  mixed := by kernel_rfl
  f6 := ⟨Tryz.f35.name, by decide, Tryz.func35.trans (congrArg some (by kernel_rfl))⟩
  f8 := ⟨Tryz.f59.name, by decide, Tryz.func59.trans (congrArg some (by kernel_rfl))⟩
  f11 := ⟨Tryz.f103.name, by decide, Tryz.func103.trans (congrArg some (by kernel_rfl))⟩
  t0 := Tryz.underlying0
  a0 := Tryz.isAgg0
  z0 := Tryz.sizeOf0
  v0 := Tryz.zeroValue0
  t24 := Tryz.underlying32
  a24 := Tryz.isAgg32
  z24 := Tryz.sizeOf32
  v24 := Tryz.zeroValue32
  t26 := Tryz.underlying3
  a26 := Tryz.isAgg3
  z26 := Tryz.sizeOf3
  v26 := Tryz.zeroValue3
  t28 := Tryz.underlying96
  a28 := Tryz.isAgg96
  z28 := Tryz.sizeOf96
  v28 := Tryz.zeroValue96
  i26 := by kernel_rfl }
def Tryz.sortI_ren : Go.Shelf.Ren := ⟨fun | 5 => 60 | 8 => 55 | 7 => 104 | 19 => 100 | 20 => 101 | 10 => 181 | 11 => 182 | 12 => 183 | 13 => 184 | 14 => 185 | 15 => 186 | 16 => 187 | 17 => 188 | 18 => 189 | 30 => 246 | 31 => 177 | 32 => 178 | 33 => 247 | 34 => 248 | 35 => 249 | 40 => 271 | n => n, fun | 23 => 32 | 25 => 3 | 3 => 3 | 32 => 133 | 22 => 32 | 0 => 0 | 44 => 172 | 46 => 117 | 4 => 4 | 36 => 165 | 35 => 164 | 41 => 169 | 5 => 5 | 9 => 9 | 53 => 227 | 57 => 216 | 63 => 261 | 64 => 262 | n => n, fun | n => n⟩
theorem Tryz.sortI : Go.Proofs.SlLaysM.n5 Tryz.prog Tryz.sortI_ren := {
  mixed := by kernel_rfl
  f5 := ⟨Tryz.f60.name, by decide, Tryz.func60.trans (congrArg some (by kernel_rfl))⟩
  f7 := ⟨Tryz.f104.name, by decide, Tryz.func104.trans (congrArg some (by kernel_rfl))⟩
  f8 := Tryz.func55.trans (congrArg some (by kernel_rfl))
  f10 := ⟨Tryz.f181.name, by decide, Tryz.func181.trans (congrArg some (by kernel_rfl))⟩
  f11 := ⟨Tryz.f182.name, by decide, Tryz.func182.trans (congrArg some (by kernel_rfl))⟩
  f12 := ⟨Tryz.f183.name, by decide, Tryz.func183.trans (congrArg some (by kernel_rfl))⟩
  f13 := ⟨Tryz.f184.name, by decide, Tryz.func184.trans (congrArg some (by kernel_rfl))⟩
  f14 := ⟨Tryz.f185.name, by decide, Tryz.func185.trans (congrArg some (by kernel_rfl))⟩
  f15 := ⟨Tryz.f186.name, by decide, Tryz.func186.trans (congrArg some (by kernel_rfl))⟩
  f16 := ⟨Tryz.f187.name, by decide, Tryz.func187.trans (congrArg some (by kernel_rfl))⟩
  f17 := ⟨Tryz.f188.name, by decide, Tryz.func188.trans (congrArg some (by kernel_rfl))⟩
  f18 := ⟨Tryz.f189.name, by decide, Tryz.func189.trans (congrArg some (by kernel_rfl))⟩
  f19 := Tryz.func100.trans (congrArg some (by kernel_rfl))
  f20 := Tryz.func101.trans (congrArg some (by kernel_rfl))
  f30 := ⟨Tryz.f246.name, by decide, Tryz.func246.trans (congrArg some (by kernel_rfl))⟩
  f31 := Tryz.func177.trans (congrArg some (by kernel_rfl))
  f32 := Tryz.func178.trans (congrArg some (by kernel_rfl))
  f33 := ⟨Tryz.f247.name, by decide, Tryz.func247.trans (congrArg some (by kernel_rfl))⟩
  f34 := ⟨Tryz.f248.name, by decide, Tryz.func248.trans (congrArg some (by kernel_rfl))⟩
  f35 := ⟨Tryz.f249.name, by decide, Tryz.func249.trans (congrArg some (by kernel_rfl))⟩
  f40 := ⟨Tryz.f271.name, by decide, Tryz.func271.trans (congrArg some (by kernel_rfl))⟩
  t0 := Tryz.underlying0
  a0 := Tryz.isAgg0
  z0 := Tryz.sizeOf0
  v0 := Tryz.zeroValue0
  t3 := Tryz.underlying3
  a3 := Tryz.isAgg3
  z3 := Tryz.sizeOf3
  v3 := Tryz.zeroValue3
  t4 := Tryz.underlying4
  a4 := Tryz.isAgg4
  z4 := Tryz.sizeOf4
  v4 := Tryz.zeroValue4
  t5 := Tryz.underlying5
  a5 := Tryz.isAgg5
  z5 := Tryz.sizeOf5
  v5 := Tryz.zeroValue5
  t9 := Tryz.underlying9
  a9 := Tryz.isAgg9
  z9 := Tryz.sizeOf9
  v9 := Tryz.zeroValue9
  t22 := Tryz.underlying32
  a22 := Tryz.isAgg32
  z22 := Tryz.sizeOf32
  v22 := Tryz.zeroValue32
  t23 := Tryz.underlying32
  a23 := Tryz.isAgg32
  z23 := Tryz.sizeOf32
  v23 := Tryz.zeroValue32
  t25 := Tryz.underlying3
  a25 := Tryz.isAgg3
  z25 := Tryz.sizeOf3
  v25 := Tryz.zeroValue3
  t32 := Tryz.underlying133
  a32 := Tryz.isAgg133
  z32 := Tryz.sizeOf133
  v32 := Tryz.zeroValue133
  t35 := Tryz.underlying164
  a35 := Tryz.isAgg164
  z35 := Tryz.sizeOf164
  v35 := Tryz.zeroValue164
  t36 := Tryz.underlying165
  a36 := Tryz.isAgg165
  z36 := Tryz.sizeOf165
  v36 := Tryz.zeroValue165
  t41 := Tryz.underlying169
  a41 := Tryz.isAgg169
  z41 := Tryz.sizeOf169
  v41 := Tryz.zeroValue169
  t44 := Tryz.underlying172
  a44 := Tryz.isAgg172
  z44 := Tryz.sizeOf172
  v44 := Tryz.zeroValue172
  t46 := Tryz.underlying117
  a46 := Tryz.isAgg117
  z46 := Tryz.sizeOf117
  v46 := Tryz.zeroValue117
  t53 := Tryz.underlying227
  a53 := Tryz.isAgg227
  z53 := Tryz.sizeOf227
  v53 := Tryz.zeroValue227
  t57 := Tryz.underlying216
  a57 := Tryz.isAgg216
  z57 := Tryz.sizeOf216
  v57 := Tryz.zeroValue216
  t63 := Tryz.underlying261
  a63 := Tryz.isAgg261
  z63 := Tryz.sizeOf261
  v63 := Tryz.zeroValue261
  t64 := Tryz.underlying262
  a64 := Tryz.isAgg262
  z64 := Tryz.sizeOf262
  v64 := Tryz.zeroValue262 }
def Tryz.sortF_ren : Go.Shelf.Ren := ⟨fun | 6 => 25 | 15 => 55 | 14 => 54 | 28 => 100 | 29 => 101 | 20 => 92 | 21 => 93 | 22 => 94 | 23 => 95 | 24 => 96 | 25 => 97 | 26 => 98 | 27 => 99 | 46 => 176 | 47 => 177 | 48 => 178 | 49 => 179 | 50 => 180 | 57 => 245 | n => n, fun | 22 => 23 | 24 => 47 | 25 => 77 | 3 => 3 | 39 => 133 | 0 => 0 | 53 => 172 | 55 => 117 | 4 => 4 | 46 => 165 | 45 => 164 | 50 => 169 | 5 => 5 | 9 => 9 | 66 => 227 | 70 => 216 | 76 => 261 | 77 => 262 | n => n, fun | n => n⟩
theorem Tryz.sortF : Go.Proofs.SlLaysF0.n6 Tryz.prog Tryz.sortF_ren := {
  mixed := by kernel_rfl
  f6 := ⟨Tryz.f25.name, by decide, Tryz.func25.trans (congrArg some (by kernel_rfl))⟩
  f14 := ⟨Tryz.f54.name, by decide, Tryz.func54.trans (congrArg some (by kernel_rfl))⟩
  f15 := Tryz.func55.trans (congrArg some (by kernel_rfl))
  f20 := ⟨Tryz.f92.name, by decide, Tryz.func92.trans (congrArg some (by kernel_rfl))⟩
  f21 := ⟨Tryz.f93.name, by decide, Tryz.func93.trans (congrArg some (by kernel_rfl))⟩
  f22 := ⟨Tryz.f94.name, by decide, Tryz.func94.trans (congrArg some (by kernel_rfl))⟩
  f23 := ⟨Tryz.f95.name, by decide, Tryz.func95.trans (congrArg some (by kernel_rfl))⟩
  f24 := ⟨Tryz.f96.name, by decide, Tryz.func96.trans (congrArg some (by kernel_rfl))⟩
  f25 := ⟨Tryz.f97.name, by decide, Tryz.func97.trans (congrArg some (by kernel_rfl))⟩
  f26 := ⟨Tryz.f98.name, by decide, Tryz.func98.trans (congrArg some (by kernel_rfl))⟩
  f27 := ⟨Tryz.f99.name, by decide, Tryz.func99.trans (congrArg some (by kernel_rfl))⟩
  f28 := Tryz.func100.trans (congrArg some (by kernel_rfl))
  f29 := Tryz.func101.trans (congrArg some (by kernel_rfl))
  f46 := ⟨Tryz.f176.name, by decide, Tryz.func176.trans (congrArg some (by kernel_rfl))⟩
  f47 := Tryz.func177.trans (congrArg some (by kernel_rfl))
  f48 := Tryz.func178.trans (congrArg some (by kernel_rfl))
  f49 := ⟨Tryz.f179.name, by decide, Tryz.func179.trans (congrArg some (by kernel_rfl))⟩
  f50 := ⟨Tryz.f180.name, by decide, Tryz.func180.trans (congrArg some (by kernel_rfl))⟩
  f57 := ⟨Tryz.f245.name, by decide, Tryz.func245.trans (congrArg some (by kernel_rfl))⟩
  t0 := Tryz.underlying0
  a0 := Tryz.isAgg0
  z0 := Tryz.sizeOf0
  v0 := Tryz.zeroValue0
  t3 := Tryz.underlying3
  a3 := Tryz.isAgg3
  z3 := Tryz.sizeOf3
  v3 := Tryz.zeroValue3
  t4 := Tryz.underlying4
  a4 := Tryz.isAgg4
  z4 := Tryz.sizeOf4
  v4 := Tryz.zeroValue4
  t5 := Tryz.underlying5
  a5 := Tryz.isAgg5
  z5 := Tryz.sizeOf5
  v5 := Tryz.zeroValue5
  t9 := Tryz.underlying9
  a9 := Tryz.isAgg9
  z9 := Tryz.sizeOf9
  v9 := Tryz.zeroValue9
  t22 := Tryz.underlying23
  a22 := Tryz.isAgg23
  z22 := Tryz.sizeOf23
  v22 := Tryz.zeroValue23
  t25 := Tryz.underlying77
  a25 := Tryz.isAgg77
  z25 := Tryz.sizeOf77
  v25 := Tryz.zeroValue77
  t39 := Tryz.underlying133
  a39 := Tryz.isAgg133
  z39 := Tryz.sizeOf133
  v39 := Tryz.zeroValue133
  t45 := Tryz.underlying164
  a45 := Tryz.isAgg164
  z45 := Tryz.sizeOf164
  v45 := Tryz.zeroValue164
  t46 := Tryz.underlying165
  a46 := Tryz.isAgg165
  z46 := Tryz.sizeOf165
  v46 := Tryz.zeroValue165
  t50 := Tryz.underlying169
  a50 := Tryz.isAgg169
  z50 := Tryz.sizeOf169
  v50 := Tryz.zeroValue169
  t53 := Tryz.underlying172
  a53 := Tryz.isAgg172
  z53 := Tryz.sizeOf172
  v53 := Tryz.zeroValue172
  t55 := Tryz.underlying117
  a55 := Tryz.isAgg117
  z55 := Tryz.sizeOf117
  v55 := Tryz.zeroValue117
  t66 := Tryz.underlying227
  a66 := Tryz.isAgg227
  z66 := Tryz.sizeOf227
  v66 := Tryz.zeroValue227
  t70 := Tryz.underlying216
  a70 := Tryz.isAgg216
  z70 := Tryz.sizeOf216
  v70 := Tryz.zeroValue216
  t76 := Tryz.underlying261
  a76 := Tryz.isAgg261
  z76 := Tryz.sizeOf261
  v76 := Tryz.zeroValue261
  t77 := Tryz.underlying262
  a77 := Tryz.isAgg262
  z77 := Tryz.sizeOf262
  v77 := Tryz.zeroValue262 }
def Tryz.cloneF_ren : Go.Shelf.Ren := ⟨fun | 5 => 43 | 7 => 73 | n => n, fun | 23 => 78 | 25 => 3 | 3 => 85 | 4 => 4 | 20 => 20 | n => n, fun | n => n⟩
theorem Tryz.cloneF : Go.Proofs.SlLaysW.n5 Tryz.prog Tryz.cloneF_ren := {
  mixed := by kernel_rfl
  f5 := ⟨Tryz.f43.name, by decide, Tryz.func43.trans (congrArg some (by kernel_rfl))⟩
  f7 := Tryz.func73.trans (congrArg some (by kernel_rfl))
  t4 := Tryz.underlying4
  a4 := Tryz.isAgg4
  z4 := Tryz.sizeOf4
  v4 := Tryz.zeroValue4
  t20 := Tryz.underlying20
  a20 := Tryz.isAgg20
  z20 := Tryz.sizeOf20
  v20 := Tryz.zeroValue20
  t23 := Tryz.underlying78
  a23 := Tryz.isAgg78
  z23 := Tryz.sizeOf78
  v23 := Tryz.zeroValue78 }
theorem sortsI (m : Nat) : AnyZI.SortsIn Tryz.prog Tryz.sortedI_ren Fence.wide m :=
  ⟨fun blk off cap ss W hH hblk hsz => callsIn_wide.2 (AnyM.slices_Sort_int Tryz.sortI blk off cap ss W hH hblk hsz),
   fun p cap W => callsIn_wide.2 (AnyM.slices_Sort_int_none Tryz.sortI p cap W)⟩
theorem keysOkW : KeysOk Tryz.prog 35 61 3 := keysOk_of (ρk := Tryz.keysW_ren) (ρs := Tryz.sortedI_ren) { Tryz.keysW with } Tryz.sortedI sortsI (enters_of Tryz.func60 (by kernel_rfl) rfl) (enters_of Tryz.func61 (by kernel_rfl) rfl) ⟨_, Tryz.func35, by kernel_rfl, by kernel_rfl⟩ Tryz.underlying3
theorem keysOkT : KeysOk Tryz.prog 35 102 3 := keysOk_of (ρk := Tryz.keysT_ren) (ρs := Tryz.sortedI_ren) { Tryz.keysT with } Tryz.sortedI sortsI (enters_of Tryz.func60 (by kernel_rfl) rfl) (enters_of Tryz.func102 (by kernel_rfl) rfl) ⟨_, Tryz.func35, by kernel_rfl, by kernel_rfl⟩ Tryz.underlying3
theorem swoNum : SWO (ltOf fun x y : OI => (x.num : Int) - y.num) := {
  irrefl := fun x => by simp [ltOf]
  trans := fun x y z h1 h2 => by simp [ltOf] at *; omega
  ntrans := fun x y z h1 h2 => by simp [ltOf] at *; omega }
theorem sortOk25 {cap : Nat} {a : Option Addr} (l : List OI) (hsz : l.length ≤ 1000000) (w : World) :
    FrZ Tryz.prog 25 #[.slice a l.length cap, .func (.func 26) #[] #[]] w (SlA 47 6 a l.length cap (l.flatMap OI.cells)) (fun _ : {l' : List OI // l'.Perm l ∧ l'.Pairwise fun x y => ltOf (fun x y : OI => (x.num : Int) - y.num) y x = false} => .tuple #[]) (fun l' => SlA 47 6 a l.length cap (l'.1.flatMap OI.cells)) :=
  sortOk_of (k := 6) (ρ := Tryz.sortF_ren) Tryz.sortF ⟨_, Tryz.func25, by kernel_rfl, by kernel_rfl⟩ Tryz.isAgg47 Tryz.sizeOf47 OI.cells_length (by decide) (fun x v hv => by
    have : v ∈ [Value.int .i64 x.1.s, .int .i64 x.1.t, .int .i64 x.1.p, .int .i64 x.1.m, .bool x.1.i, .int .i64 x.1.g] := hv
    simp only [List.mem_cons, List.not_mem_nil, or_false] at this
    rcases this with rfl | rfl | rfl | rfl | rfl | rfl <;> rfl) _ swoNum 26 #[] (enters_of Tryz.func26 (by kernel_rfl) rfl) (fun x y W => setK26 x y W) l hsz w
theorem cloneOk43 : CloneOk Tryz.prog 43 := fun b es clk w hb => by
  unfold CT
  exact ⟨⟨_, Tryz.func43, by kernel_rfl, by kernel_rfl⟩, AnyW.maps_Clone Tryz.cloneF b es clk w hb⟩
end Go.Proofs.YthmjkaljkgjicaaGreatDoor

set_option linter.all false
namespace Go.X
open Go Go.Sort Go.Proofs
theorem HSub.addSl {i e k : Nat} {L' L : List Blk} (h : HSub L' L) : HSub (.ext i (SlA e k Option.none 0 0 []) :: L') L := fun w S hS =>
  let ⟨S', h1, h2⟩ := h w S hS
  ⟨fun k => False ∨ S' k, .cons (x := .ext i (SlA e k Option.none 0 0 [])) (S := fun _ => False) (.inl ⟨rfl, rfl, rfl, rfl⟩) (fun _ h => h.elim) h1 (fun _ h => h.elim), fun k hk => hk.elim False.elim (h2 k)⟩
def OI.of (k : Nat) : OI := ⟨It.of k, It.of_ok k⟩
theorem flat_snoc (Y : List OI) (x : OI) : Y.flatMap OI.cells ++ denL (ic x) = (Y ++ [x]).flatMap OI.cells := by
  rw [List.flatMap_append, List.flatMap_singleton]; rfl
theorem big_ok {n m b : Nat} (h : n + m ≤ 1000000) (hb : b ≤ 100000) : (n + m) * (b + 1) ≤ 140737488355328 :=
  Nat.le_trans (Nat.mul_le_mul h (Nat.add_le_add_right hb 1)) (by decide)
theorem nodup_snoc {Y : List OI} {x : OI} (hY : Y.Nodup) (h : ¬ x ∈ Y) : (Y ++ [x]).Nodup := by
  rw [List.nodup_append]
  refine ⟨hY, by simp, ?_⟩
  intro a ha b hb
  have : b = x := by simpa using hb
  subst this
  rintro rfl
  exact h ha
theorem asc_of {Y Z : List OI} (hY : Y.Nodup) (hp : Z.Perm Y) (hs : Z.Pairwise fun x y => ltOf (fun x y : OI => (x.num : Int) - y.num) y x = false) : Asc Z := by
  have hZ : Z.Nodup := hp.nodup_iff.2 hY
  refine (hs.and hZ).imp ?_
  rintro x y ⟨h1, h2⟩
  have h3 : ¬ ((y.num : Int) - x.num < 0) := by simpa [ltOf] using h1
  rcases Nat.lt_or_ge x.num y.num with h | h
  · exact h
  · exact absurd (OI.inj (by omega)) h2
end Go.X
namespace Go.Proofs.YthmjkaljkgjicaaGreatDoor
open Go Go.X
set_option maxRecDepth 100000
set_option maxHeartbeats 0
theorem itemC1023 {k : Nat} (hk : k ≤ 65535) (w : World) : Pu Tryz.prog 23 #[.int .u16 k] w (.agg #[.int .i64 (OI.of k).1.s, .int .i64 (OI.of k).1.t, .int .i64 (OI.of k).1.p, .int .i64 (OI.of k).1.m, .bool (OI.of k).1.i, .int .i64 (OI.of k).1.g]) := by
  have h := item26 (k := k) (by omega) w
  refine h.congr ?_
  unfold OI.of It.of itS itT itP itM itI itG
  dsimp only
  by_cases h3 : k % 4 = 3
  · have h3' : (k : Int) % 4 = 3 := by omega
    rw [if_pos h3, if_pos h3', if_pos h3', if_pos h3', if_pos h3', if_pos h3', if_pos h3']
    have e : decide ((k : Int) / 256 % 2 = 1) = (k / 256 % 2 == 1) := by rw [Bool.eq_iff_iff]; simp; omega
    rw [e]
    congr
  · have h3' : ¬ (k : Int) % 4 = 3 := by omega
    rw [if_neg h3, if_neg h3', if_neg h3', if_neg h3', if_neg h3', if_neg h3', if_neg h3']
    congr
abbrev Set5 := {Z : List OI // Asc Z ∧ Z.length ≤ 20}
theorem set1005 {ks : List Nat} {a : Option Addr} {cap : Nat} {w : World} (hr : RdB w a (ks.map fun (k : Nat) => Value.int .u16 k)) (hk : ∀ k ∈ ks, k ≤ 65535) (hlen : ks.length ≤ 20) :
    FrZ Tryz.prog 5 #[.slice a ks.length cap] w emp (fun z : Option Addr × Nat × Set5 => .slice z.1 z.2.2.1.length z.2.1) (fun z => SlA 47 6 z.1 z.2.2.1.length z.2.1 (z.2.2.1.flatMap OI.cells)) := by
  refine enter_frZ TBok (H := []) emp_foot Tryz.func5 rfl rfl Tryz.ntmps5 [.v (.slice a ks.length cap)] rfl rfl ?_
  intro S hS _
  have sa := fun n' r H => SeesB.old (c := ⟨Tryz.prog, TB, n', w, S, r, TBok⟩) (H := H) hr hS
  conv => whnf
  repeat' (first
 | with_reducible (first | refine r_seq (fun KS hS => ?_) | (refine hS _ _ ?_; clear hS KS) | (refine hA _ ?_; clear hA KA) | (refine hB _ ?_; clear hB KB) | refine r_block ?_)
 | ((with_reducible (first | refine r_region ?_ | refine r_cond (fun KA hA KB hB => ?_) | refine r_ret ?_ | refine r_skip ?_ | refine r_exit ?_ | refine And.intro rfl ?_ | intro b)); conv => whnf)
 | ((with_reducible refine WrapK.i64 ?_ ?_); (focus omega); conv => whnf)
 | ((with_reducible apply OpK.more); (focus refine sok); (conv => whnf); fail_if_success guard_target =ₛ False)
 | ((with_reducible (first | refine InAt.mk (fun K' hK => ?_) | refine AnyAt.mk (fun K' hK => ?_) | (refine hK _ ?_; clear hK K') | (refine hK _ _ ?_; clear hK K'))); conv => whnf)
 | ((refine And.intro ?_ ?_); all_goals (conv => whnf))
 | (apply r_quiet; refine mixed; kernel_rfl; kernel_rfl; kernel_rfl; conv => whnf)
 | ((first | refine if_t (by decide) ?_ | refine if_f (by decide) ?_ | refine if_decT (by omega) ?_ | refine if_decF (by omega) ?_ | refine if_ndecT (by omega) ?_ | refine if_ndecF (by omega) ?_); conv => whnf)
 | ((first | refine if_dec (fun h => ?_) (fun h => ?_) | refine if_ndec (fun h => ?_) (fun h => ?_) | refine if_cond (fun h => ?_) (fun h => ?_)); all_goals (conv => whnf))
 | with_reducible apply_assumption -symm -exfalso)
  refine r_loop (α := Nat × List OI × Option Addr × Nat) (fun z => [(9, .v (.int .i64 (z.1 : Nat))), (8, .v (.int .i64 ks.length)), (7, .v (.slice a ks.length cap)), (3, .v (.slice z.2.2.1 z.2.1.length z.2.2.2))]) (fun z => [.ext 50 (SlA 47 6 z.2.2.1 z.2.1.length z.2.2.2 (z.2.1.flatMap OI.cells))]) (fun z => z.1 ≤ ks.length ∧ z.2.1.Nodup ∧ z.2.1.length ≤ z.1) (fun z => ks.length - z.1) (0, [], none, 0) ⟨Nat.zero_le _, by simp, Nat.le_refl _⟩ (by repeat' (first | exact Sub.nil | (refine Sub.cons rfl rfl ?_))) (HSub.addSl HSub.nil) ?_
  rintro ⟨i, Y, a', cap'⟩ ⟨hi, hnd, hYl⟩ KL hL
  dsimp only at hi hnd hYl ⊢
  by_cases hlt : i < ks.length
  · obtain ⟨k, hki⟩ : ∃ k, ks[i]? = some k := ⟨_, List.getElem?_eq_getElem hlt⟩
    have hk6 := hk k (List.mem_of_getElem? hki)
    have hcell : (ks.map fun (k : Nat) => Value.int .u16 k)[i]? = some (den (.v (.int .u16 k))) := by rw [List.getElem?_map, hki]; rfl
    repeat' (first
 | with_reducible (first | refine r_seq (fun KS hS => ?_) | (refine hS _ _ ?_; clear hS KS) | (refine hA _ ?_; clear hA KA) | (refine hB _ ?_; clear hB KB) | refine r_block ?_)
 | ((with_reducible (first | refine r_region ?_ | refine r_cond (fun KA hA KB hB => ?_) | refine r_ret ?_ | refine r_skip ?_ | refine r_exit ?_ | refine And.intro rfl ?_ | intro b)); conv => whnf)
 | ((with_reducible refine WrapK.i64 ?_ ?_); (focus omega); conv => whnf)
 | ((with_reducible refine OpK.id ?_); (first | refine OpK.idxB rfl rfl rfl rfl rfl rfl rfl (sa _ _ _) (by omega) hcell (fun b off hp => ?_) | refine OpK.ldp rfl rfl hp (List.cons_ne_nil _ _) ?_); conv => whnf)
 | ((with_reducible refine CallK.at 23 ?_); refine CallK.pu (fun w => itemC1023 hk6 w) ?_; conv => whnf)
 | ((with_reducible refine CallK.at 24 ?_); refine CallK.puW (fun ms w hk => contains1024 (x := OI.of k) ((Sees.ext (by repeat (first | with_reducible apply At.head | apply At.tail))).rd hk) (by omega)) ?_; conv => whnf)
 | ((with_reducible refine OpK.id ?_); refine OpK.app (k := 6) rfl rfl rfl rfl rfl rfl rfl rfl (by repeat (first | with_reducible apply At.head | apply At.tail)) (SrcK.slc rfl rfl (by repeat (first | constructor | apply List.Mem.tail)) (Nat.le_refl _) rfl) (big_ok (by omega) (by decide)) (fun a2 cap2 => ?_); conv => whnf)
 | (refine hL (i + 1, Y ++ [OI.of k], a2, cap2) _ _ ⟨by show i + 1 ≤ _; omega, nodup_snoc hnd ‹_›, by show (Y ++ [OI.of k]).length ≤ i + 1; simp; omega⟩ (by show ks.length - (i + 1) < ks.length - i; omega) (by repeat' (first | exact Sub.nil | (refine Sub.cons rfl (by first | rfl | (rw [List.length_append]; rfl)) ?_))) (HSub.trans (HSub.ext (fun _ _ hx => by rw [← flat_snoc, List.length_append]; exact hx) HSub.nil) (by (try dsimp only [List.cons_append, List.nil_append, den, denL]); refine SelI.spec ?_; (repeat (first | refine SelI.blk (by repeat (first | with_reducible apply Rm.head | apply Rm.tail)) ?_ | refine SelI.ext (by repeat (first | with_reducible apply Rm.head | apply Rm.tail)) ?_ | (refine SelI.blk' (by repeat (first | with_reducible apply Rm.head | apply Rm.tail)) ?_ ?_; focus rfl) | (refine SelI.ext' (by repeat (first | with_reducible apply Rm.head | apply Rm.tail)) ?_ ?_; focus rfl))); exact SelI.nil)))
 | (refine hL (i + 1, Y, a', cap') _ _ ⟨by show i + 1 ≤ _; omega, hnd, by show Y.length ≤ i + 1; omega⟩ (by show ks.length - (i + 1) < ks.length - i; omega) (by repeat' (first | exact Sub.nil | (refine Sub.cons rfl rfl ?_))) (by (try dsimp only [List.cons_append, List.nil_append, den, denL]); refine SelI.spec ?_; (repeat (first | refine SelI.blk (by repeat (first | with_reducible apply Rm.head | apply Rm.tail)) ?_ | refine SelI.ext (by repeat (first | with_reducible apply Rm.head | apply Rm.tail)) ?_ | (refine SelI.blk' (by repeat (first | with_reducible apply Rm.head | apply Rm.tail)) ?_ ?_; focus rfl) | (refine SelI.ext' (by repeat (first | with_reducible apply Rm.head | apply Rm.tail)) ?_ ?_; focus rfl))); exact SelI.nil))
 | ((with_reducible apply OpK.more); (focus refine sok); (conv => whnf); fail_if_success guard_target =ₛ False)
 | ((with_reducible (first | refine InAt.mk (fun K' hK => ?_) | refine AnyAt.mk (fun K' hK => ?_) | (refine hK _ ?_; clear hK K') | (refine hK _ _ ?_; clear hK K'))); conv => whnf)
 | ((refine And.intro ?_ ?_); all_goals (conv => whnf))
 | (apply r_quiet; refine mixed; kernel_rfl; kernel_rfl; kernel_rfl; conv => whnf)
 | ((first | refine if_t (by decide) ?_ | refine if_f (by decide) ?_ | refine if_decT (by omega) ?_ | refine if_decF (by omega) ?_ | refine if_ndecT (by omega) ?_ | refine if_ndecF (by omega) ?_); conv => whnf)
 | ((first | refine if_dec (fun h => ?_) (fun h => ?_) | refine if_ndec (fun h => ?_) (fun h => ?_) | refine if_cond (fun h => ?_) (fun h => ?_)); all_goals (conv => whnf))
 | with_reducible apply_assumption -symm -exfalso)
  · obtain rfl : i = ks.length := by omega
    repeat' (first
 | with_reducible (first | refine r_seq (fun KS hS => ?_) | (refine hS _ _ ?_; clear hS KS) | (refine hA _ ?_; clear hA KA) | (refine hB _ ?_; clear hB KB) | refine r_block ?_)
 | ((with_reducible (first | refine r_region ?_ | refine r_cond (fun KA hA KB hB => ?_) | refine r_ret ?_ | refine r_skip ?_ | refine r_exit ?_ | refine And.intro rfl ?_ | intro b)); conv => whnf)
 | ((with_reducible refine WrapK.i64 ?_ ?_); (focus omega); conv => whnf)
 | ((with_reducible refine CallK.id ?_); refine CallK.frZE (by repeat (first | with_reducible apply At.head | apply At.tail)) (fun w => sortOk25 Y (by omega) w) (fun z => ?_); conv => whnf)
 | ((with_reducible apply OpK.more); (focus refine sok); (conv => whnf); fail_if_success guard_target =ₛ False)
 | ((with_reducible (first | refine InAt.mk (fun K' hK => ?_) | refine AnyAt.mk (fun K' hK => ?_) | (refine hK _ ?_; clear hK K') | (refine hK _ _ ?_; clear hK K'))); conv => whnf)
 | ((refine And.intro ?_ ?_); all_goals (conv => whnf))
 | (apply r_quiet; refine mixed; kernel_rfl; kernel_rfl; kernel_rfl; conv => whnf)
 | ((first | refine if_t (by decide) ?_ | refine if_f (by decide) ?_ | refine if_decT (by omega) ?_ | refine if_decF (by omega) ?_ | refine if_ndecT (by omega) ?_ | refine if_ndecF (by omega) ?_); conv => whnf)
 | ((first | refine if_dec (fun h => ?_) (fun h => ?_) | refine if_ndec (fun h => ?_) (fun h => ?_) | refine if_cond (fun h => ?_) (fun h => ?_)); all_goals (conv => whnf))
 | with_reducible apply_assumption -symm -exfalso)
    have hpl := z.2.1.length_eq
    refine FinK.frZ (i := 50) (a', cap', ⟨z.1, asc_of hnd z.2.1 z.2.2, by omega⟩) (by show Value.slice a' Y.length cap' = .slice a' z.1.length cap'; rw [hpl]) ?_
    refine HSub.ext (fun _ _ hx => ?_) HSub.nil
    rw [← hpl] at hx
    exact hx
end Go.Proofs.YthmjkaljkgjicaaGreatDoor

set_option linter.all false
namespace Go.Proofs.YthmjkaljkgjicaaGreatDoor
open Go Go.X Go.RowKit Go.Maps Go.Sort Go.Shelf Go.Proofs
set_option maxRecDepth 100000
set_option maxHeartbeats 0
/-- a pair of numbers -/
def waitB (v : Value) : Bool := match v with
  | .agg a => match a.toList with
    | [.int .i64 _, .int .i64 _] => true
    | _ => false
  | _ => false
theorem waitB_of {v : Value} (h : waitB v = true) : ∃ a l : Int, v = .agg #[.int .i64 a, .int .i64 l] := by
  unfold waitB at h
  split at h
  · rename_i a
    split at h
    · rename_i x y hl
      exact ⟨x, y, by congr 1; apply Array.ext'; simpa using hl⟩
    · cases h
  · cases h
set_option maxHeartbeats 4000000 in
theorem delC29 (pd : Lit → DataW Value → Bool) (g : Nat) (cb : Array Value) (b n : Nat) (D : DataW Value) (w : World)
    (eg : ∀ args w, (callFunc g args).run Tryz.prog w = .ok (.enter g args) w) (hown : w.ownsMap Tryz.prog 3 (RVb waitB) b n D)
    (hdel : ∀ (W : World) (key val : Value) (kl : Lit) (yd : DataW Value) (yp : List MemPlace), w.grownBy W (some b) → keyOf Tryz.prog 3 key = some kl → RVb waitB val = some (yd, yp) →
      Calls Tryz.prog g (#[key, val] ++ cb) W fun e w' => e = .returned (.bool (pd kl yd)) ∧ W.grownBy w' none) :
    Calls Tryz.prog 29 #[.map (some b), .func (.func g) #[] cb] w fun e w' => e = .returned (.tuple #[]) ∧ w'.ownsMap Tryz.prog 3 (RVb waitB) b n (Lib.deleteFuncD pd D) ∧ w.grownBy w' (some b) := by
  have K : Keyed Tryz.prog 3 := int_keyed Tryz.underlying3
  obtain ⟨es0, rfl, hap, hkeys⟩ := hown.entries K
  have HD : Aside _ := hdel
  clear hdel
  go_enter Tryz.func29, Tryz.ntmps29
  go_wp2_with (first
    | (at_range; refine wpList_range_own _ rfl _ 78 rfl 3 85 K Tryz.underlying78 (RVb waitB) b n _ rfl hown ?_; intro w0 hrg0 hg0 hs0)
    | go_in)
  go_frame
  go_loopw [8] (fun _ wr => ∃ (left : Lit → Bool) (cnt : Nat), wr.ranges Tryz.prog 3 (RVb waitB) b w.heap.size n (Fk pd es0 left) left cnt ∧ w.grownBy wr (some b))
    (fun _ wr => wr.rangeLeft b w.heap.size)
  case atStart => exact ⟨_, _, by rw [Fk_start hkeys]; exact hrg0, hg0.but _⟩
  case round =>
    obtain ⟨left, cnt, hrg, hgw⟩ := hrel
    go_wp2_with (first
      | (at_next; refine wpList_next_ranges _ rfl _ rfl 3 K (RVb waitB) id id (fun key _ _ => ⟨key, rfl⟩) (fun v _ _ => ⟨v, rfl⟩) b w.heap.size n _ _ _ rfl hrg ?_ ?_)
      | go_in)
    · -- NOTHING IS LEFT
      intro _ hl0
      go_wp2
      go_end0
      exact ⟨rfl, by rw [← Fk_end hl0]; exact hrg.owns, hgw⟩
    · -- AN ENTRY HAS COME
      intro x c kl yd yp w1 cnt1 hkey hlx hv hat hrg1 hlt hg1 hs1 hen
      have hgw1 := hgw.andThen hg1 (fun j hj => by cases hj; exact Or.inl (Nat.le_refl _))
      obtain ⟨ca, cl, rfl⟩ : ∃ a l : Int, c = .agg #[.int .i64 a, .int .i64 l] := by
        simp only [RVb] at hv
        split at hv
        · rename_i h; exact waitB_of h
        · cases hv
      have hbl := hrg1.owns.lt
      have hrl := hrg1.lt
      have hrg1' := hrg1.alloc (.cells #[Value.int IntKind.i64 ca, Value.int IntKind.i64 cl] 85)
      have hgw1' := hgw1.andThen (World.grownBy_alloc w1 (.cells #[Value.int IntKind.i64 ca, Value.int IntKind.i64 cl] 85) none) (fun j hj => by cases hj)
      have hc := HD.out _ x _ kl yd yp hgw1' hkey hv
      cases hp : pd kl yd <;> rw [hp] at hc
      · go_wp2_with (first
          | (go_at_fn g; refine hc.mono ?_; rintro e w2 ⟨rfl, hg2⟩)
          | go_in)
        have hrg2 := hrg1'.kept hg2 (by simp) (by simp)
        go_roundw
        case rel => exact ⟨_, cnt1, by rw [← Fk_stays hap (K.key hkey) hlx hp hat]; exact hrg2, hgw1'.andThen hg2 (fun j hj => by cases hj)⟩
        case measure => rw [hrg2.left_eq, hrg.left_eq]; exact hlt
      · go_wp2_with (first
          | (go_at_fn g; refine hc.mono ?_; rintro e w2 ⟨rfl, hg2⟩; have hrg2 := hrg1'.kept hg2 (by simp) (by simp))
          | (at_delete; refine wpList_delete_ranges _ rfl _ _ 78 3 rfl 85 K Tryz.underlying78 (RVb waitB) b w.heap.size n _ _ _ rfl hrg2 _ _ rfl hkey ?_; intro w3 cnt3 hrg3 hle hturn; go_frame)
          | go_in)
        rw [strike_twice] at hrg3
        go_roundw
        case rel => exact ⟨_, cnt3, by rw [← Fk_struck hap (K.key hkey) hlx hp hat]; exact hrg3, (hgw1'.andThen hg2 (fun j hj => by cases hj)).andThen hturn.grown (fun j hj => by cases hj; exact Or.inr rfl)⟩
        case measure => rw [hrg3.left_eq, hrg.left_eq]; omega
theorem delOk29 : DelOkV Tryz.prog 29 waitB := delOkV_of Tryz.underlying3 ⟨_, Tryz.func29, by kernel_rfl, by kernel_rfl⟩ delC29
end Go.Proofs.YthmjkaljkgjicaaGreatDoor
