/- Contracts and lemmas for the claim (part 10); no condition of its own. -/
import Derived.Test.YthmjkaljkgjicaaGreatDoorYDC1209
import Derived.Test.YthmjkaljkgjicaaGreatDoorYDC1203
set_option linter.all false
set_option linter.unusedVariables false
set_option linter.unusedSimpArgs false
set_option linter.unnecessarySimpa false
set_option linter.all false
namespace Go.X
open Go Go.Sort Go.Proofs
/-- the items by their numbers -/
def mapOf (X : List OI) : Int → Option Value := fun z => (X.find? fun x => decide ((x.num : Int) = z)).map fun x => .agg (denL (ic x)).toArray
theorem Asc.take {X : List OI} (h : Asc X) (i : Nat) : Asc (X.take i) := h.sublist (List.take_sublist _ _)
theorem Asc.at {X : List OI} (h : Asc X) {i j : Nat} {x y : OI} (hi : X[i]? = some x) (hj : X[j]? = some y) (hij : i < j) : x.num < y.num := by
  obtain ⟨h1, rfl⟩ := List.getElem?_eq_some_iff.1 hi
  obtain ⟨h2, rfl⟩ := List.getElem?_eq_some_iff.1 hj
  exact List.pairwise_iff_getElem.1 h i j h1 h2 hij
theorem mapOf_snoc {X : List OI} (h : Asc X) {i : Nat} {x : OI} (hx : X[i]? = some x) : putK (mapOf (X.take i)) x.num (den (.agg (ic x))) = mapOf (X.take (i + 1)) := by
  funext z
  have hlt := (List.getElem?_eq_some_iff.1 hx).1
  unfold putK mapOf
  rw [List.take_succ, hx, Option.toList_some, List.find?_append]
  by_cases hz : z = x.num
  · subst hz
    have : (X.take i).find? (fun y => decide ((y.num : Int) = x.num)) = none := by
      rw [List.find?_eq_none]
      intro y hy
      obtain ⟨j, hj⟩ := List.mem_iff_getElem?.1 hy
      rw [List.getElem?_take] at hj
      split at hj
      · have := h.at hj hx ‹_›
        simp; omega
      · cases hj
    rw [this]
    simp [den]
  · rw [if_neg hz]
    have : [x].find? (fun y => decide ((y.num : Int) = z)) = none := by
      rw [List.find?_eq_none]; simp; omega
    rw [this, Option.or_none]
theorem mapOf_some {X : List OI} {z : Int} {v : Value} (h : mapOf X z = some v) : ∃ x ∈ X, (x.num : Int) = z ∧ v = .agg (denL (ic x)).toArray := by
  unfold mapOf at h
  obtain ⟨x, h1, h2⟩ := Option.map_eq_some_iff.1 h
  exact ⟨x, List.mem_of_find?_eq_some h1, by simpa using List.find?_some h1, h2.symm⟩
theorem mapOf_in {X : List OI} (hX : Asc X) {x : OI} (h : x ∈ X) : mapOf X x.num = some (.agg (denL (ic x)).toArray) := by
  cases hm : mapOf X x.num with
  | none =>
    unfold mapOf at hm
    rw [Option.map_eq_none_iff, List.find?_eq_none] at hm
    exact absurd (hm x h) (by simp)
  | some v =>
    obtain ⟨y, h1, h2, rfl⟩ := mapOf_some hm
    have : y = x := OI.inj (by omega)
    rw [this]
theorem mapOf_keys {X : List OI} (hX : Asc X) (hl : X.length ≤ 1000000) : KeysOf (mapOf X) (keys X) := by
  refine ⟨hX.keysLt, fun z => ?_, by simpa [keys] using hl⟩
  constructor
  · intro hz
    obtain ⟨x, h1, rfl⟩ := List.mem_map.1 hz
    rw [mapOf_in hX h1]; rfl
  · intro hz
    obtain ⟨v, hv⟩ := Option.isSome_iff_exists.1 hz
    obtain ⟨x, h1, h2, _⟩ := mapOf_some hv
    exact List.mem_map.2 ⟨x, h1, h2⟩
end Go.X
namespace Go.Proofs.YthmjkaljkgjicaaGreatDoor
open Go Go.X
set_option maxRecDepth 100000
set_option maxHeartbeats 0
end Go.Proofs.YthmjkaljkgjicaaGreatDoor

set_option linter.all false
namespace Go.Proofs.YthmjkaljkgjicaaGreatDoor
open Go Go.X
set_option maxRecDepth 100000
set_option maxHeartbeats 0
theorem cmdForOI (x : OI) : ∃ (enc : List UInt8) (kd : Int) (key : ByteArray) (dl : Int) (fr data : ByteArray), CmdFor x.1.s x.1.t x.1.p x.1.m x.1.i x.1.g kd key dl fr data x.num enc := by
  obtain ⟨⟨s, t, p, m, i, g⟩, hx⟩ := x
  show ∃ (enc : List UInt8) (kd : Int) (key : ByteArray) (dl : Int) (fr data : ByteArray), CmdFor s t p m i g kd key dl fr data (It.num ⟨s, t, p, m, i, g⟩) enc
  unfold It.Ok It.eff It.mov at hx
  unfold It.num
  dsimp only at hx ⊢
  rcases hx with ⟨h1, h2, h3, h4, h5, h6, h7, h8, h9⟩ | ⟨h1, h2, h3, h4, h5, h6, h7⟩
  · subst h6 h7
    rw [if_pos rfl]
    exact ⟨_, _, _, _, _, _, forEff (by unfold EffOk; omega) (by omega)⟩
  · subst h1 h2 h3
    rw [if_neg (by omega)]
    cases i
    · exact ⟨_, _, _, _, _, _, forOut (by omega) (by omega)⟩
    · exact ⟨_, _, _, _, _, _, forIn (by omega) (by omega)⟩
noncomputable def encOf (x : OI) : List UInt8 := (cmdForOI x).choose
theorem cmdOf (x : OI) : ∃ (kd : Int) (key : ByteArray) (dl : Int) (fr data : ByteArray), CmdFor x.1.s x.1.t x.1.p x.1.m x.1.i x.1.g kd key dl fr data x.num (encOf x) := (cmdForOI x).choose_spec
theorem OI.g2 (x : OI) : 1 ≤ x.1.g ∧ x.1.g ≤ 2 := by
  rcases x.2 with h | h
  · exact ⟨h.2.2.2.2.2.2.2.1, h.2.2.2.2.2.2.2.2⟩
  · exact ⟨h.2.2.2.2.2.1, h.2.2.2.2.2.2⟩
theorem OI.zok (x : OI) : Zok (x.num : Int) := by
  have : x.num < 2000000 := It.num_lt x.2
  exact ⟨by omega, by omega⟩
theorem numbered1028 {X : List OI} (hX : Asc X) {a : Option Addr} {cap d mp : Nat} {n gs tk : Int} {w : World} (hd : DAt w d n gs tk mp) (hn : 1 ≤ n ∧ n ≤ 7) (hgs : 2 < gs) (hr : RdS w 47 6 a X.length cap (X.flatMap OI.cells)) (hlen : X.length ≤ 1000) :
    FrZ Tryz.prog 28 #[pv d, .slice a X.length cap] w emp (fun m : Nat => .map (some m)) (fun m => MpK m (mapOf X)) := by
  refine enter_frZ TBok (H := []) emp_foot Tryz.func28 rfl rfl Tryz.ntmps28 [.v (pv d), .v (.slice a X.length cap)] rfl rfl ?_
  intro S hemp _
  have sa := fun n' r H => Sees.old (c := ⟨Tryz.prog, TB, n', w, S, r, TBok⟩) (H := H) (hr.oldE hemp)
  conv => whnf
  repeat' (first
 | with_reducible (first | refine r_seq (fun KS hS => ?_) | (refine hS _ _ ?_; clear hS KS) | (refine hA _ ?_; clear hA KA) | (refine hB _ ?_; clear hB KB) | refine r_block ?_)
 | ((with_reducible (first | refine r_region ?_ | refine r_cond (fun KA hA KB hB => ?_) | refine r_ret ?_ | refine r_skip ?_ | refine r_exit ?_ | refine And.intro rfl ?_ | intro b)); conv => whnf)
 | ((with_reducible refine WrapK.i64 ?_ ?_); (focus omega); conv => whnf)
 | ((with_reducible refine OpK.id ?_); refine OpK.mkMK rfl ?_; conv => whnf)
 | (intro m; conv => whnf)
 | ((with_reducible apply OpK.more); (focus refine sok); (conv => whnf); fail_if_success guard_target =ₛ False)
 | ((with_reducible (first | refine InAt.mk (fun K' hK => ?_) | refine AnyAt.mk (fun K' hK => ?_) | (refine hK _ ?_; clear hK K') | (refine hK _ _ ?_; clear hK K'))); conv => whnf)
 | ((refine And.intro ?_ ?_); all_goals (conv => whnf))
 | (apply r_quiet; refine mixed; kernel_rfl; kernel_rfl; kernel_rfl; conv => whnf)
 | ((first | refine if_t (by decide) ?_ | refine if_f (by decide) ?_ | refine if_decT (by omega) ?_ | refine if_decF (by omega) ?_ | refine if_ndecT (by omega) ?_ | refine if_ndecF (by omega) ?_); conv => whnf)
 | ((first | refine if_dec (fun h => ?_) (fun h => ?_) | refine if_ndec (fun h => ?_) (fun h => ?_) | refine if_cond (fun h => ?_) (fun h => ?_)); all_goals (conv => whnf))
 | with_reducible apply_assumption -symm -exfalso)
  refine r_loop (α := Nat) (fun i => [(15, .v (.int .i64 (i : Nat))), (14, .v (.int .i64 X.length)), (13, .v (.slice a X.length cap)), (5, .v (.map (some b))), (0, .v (pv d))]) (fun i => [.ext 0 (MpK b (mapOf (X.take i)))]) (fun i => i ≤ X.length) (fun i => X.length - i) 0 (Nat.zero_le _) (by repeat' (first | exact Sub.nil | (refine Sub.cons rfl rfl ?_))) (HSub.refl _) ?_
  intro i hi KL hL
  by_cases hlt : i < X.length
  · obtain ⟨y, hy⟩ : ∃ y, X[i]? = some y := ⟨_, List.getElem?_eq_getElem hlt⟩
    have hg := OI.g2 y
    repeat' (first
 | with_reducible (first | refine r_seq (fun KS hS => ?_) | (refine hS _ _ ?_; clear hS KS) | (refine hA _ ?_; clear hA KA) | (refine hB _ ?_; clear hB KB) | refine r_block ?_)
 | ((with_reducible (first | refine r_region ?_ | refine r_cond (fun KA hA KB hB => ?_) | refine r_ret ?_ | refine r_skip ?_ | refine r_exit ?_ | refine And.intro rfl ?_ | intro b)); conv => whnf)
 | ((with_reducible refine WrapK.i64 ?_ ?_); (focus omega); conv => whnf)
 | ((with_reducible refine OpK.id ?_); (first | refine OpK.idx (k := 6) rfl rfl rfl rfl rfl rfl rfl (sa _ _ _) (by omega) (by omega) (at_item hy) (fun b off hp => ?_) | refine OpK.ldp rfl rfl hp (List.cons_ne_nil _ _) ?_); conv => whnf)
 | ((with_reducible refine CallK.at 33 ?_); refine CallK.puW (fun ms w' hk => target20 (hk.oldO hd (hemp d)) (OI.itemOk y) hn (by omega) (by omega)) ?_; conv => whnf)
 | ((with_reducible refine CallK.at 20 ?_); refine CallK.pu (fun w => number1020 (x := y) w) ?_; conv => whnf)
 | ((with_reducible refine OpK.id ?_); refine OpK.upK rfl rfl rfl rfl rfl rfl rfl rfl (by repeat (first | with_reducible apply At.head | apply At.tail)) (OI.zok y) ?_; rw [mapOf_snoc hX hy]; conv => whnf)
 | (refine hL (i + 1) _ _ (by show i + 1 ≤ _; omega) (by show X.length - (i + 1) < X.length - i; omega) (by repeat' (first | exact Sub.nil | (refine Sub.cons rfl rfl ?_))) (by (try dsimp only [List.cons_append, List.nil_append, den, denL]); refine SelI.spec ?_; (repeat (first | refine SelI.blk (by repeat (first | with_reducible apply Rm.head | apply Rm.tail)) ?_ | refine SelI.ext (by repeat (first | with_reducible apply Rm.head | apply Rm.tail)) ?_ | (refine SelI.blk' (by repeat (first | with_reducible apply Rm.head | apply Rm.tail)) ?_ ?_; focus rfl) | (refine SelI.ext' (by repeat (first | with_reducible apply Rm.head | apply Rm.tail)) ?_ ?_; focus rfl))); exact SelI.nil))
 | ((with_reducible apply OpK.more); (focus refine sok); (conv => whnf); fail_if_success guard_target =ₛ False)
 | ((with_reducible (first | refine InAt.mk (fun K' hK => ?_) | refine AnyAt.mk (fun K' hK => ?_) | (refine hK _ ?_; clear hK K') | (refine hK _ _ ?_; clear hK K'))); conv => whnf)
 | ((refine And.intro ?_ ?_); all_goals (conv => whnf))
 | (apply r_quiet; refine mixed; kernel_rfl; kernel_rfl; kernel_rfl; conv => whnf)
 | ((first | refine if_t (by decide) ?_ | refine if_f (by decide) ?_ | refine if_decT (by omega) ?_ | refine if_decF (by omega) ?_ | refine if_ndecT (by omega) ?_ | refine if_ndecF (by omega) ?_); conv => whnf)
 | ((first | refine if_dec (fun h => ?_) (fun h => ?_) | refine if_ndec (fun h => ?_) (fun h => ?_) | refine if_cond (fun h => ?_) (fun h => ?_)); all_goals (conv => whnf))
 | with_reducible apply_assumption -symm -exfalso)
  · obtain rfl : i = X.length := by omega
    repeat' (first
 | with_reducible (first | refine r_seq (fun KS hS => ?_) | (refine hS _ _ ?_; clear hS KS) | (refine hA _ ?_; clear hA KA) | (refine hB _ ?_; clear hB KB) | refine r_block ?_)
 | ((with_reducible (first | refine r_region ?_ | refine r_cond (fun KA hA KB hB => ?_) | refine r_ret ?_ | refine r_skip ?_ | refine r_exit ?_ | refine And.intro rfl ?_ | intro b)); conv => whnf)
 | ((with_reducible refine WrapK.i64 ?_ ?_); (focus omega); conv => whnf)
 | ((with_reducible apply OpK.more); (focus refine sok); (conv => whnf); fail_if_success guard_target =ₛ False)
 | ((with_reducible (first | refine InAt.mk (fun K' hK => ?_) | refine AnyAt.mk (fun K' hK => ?_) | (refine hK _ ?_; clear hK K') | (refine hK _ _ ?_; clear hK K'))); conv => whnf)
 | ((refine And.intro ?_ ?_); all_goals (conv => whnf))
 | (apply r_quiet; refine mixed; kernel_rfl; kernel_rfl; kernel_rfl; conv => whnf)
 | ((first | refine if_t (by decide) ?_ | refine if_f (by decide) ?_ | refine if_decT (by omega) ?_ | refine if_decF (by omega) ?_ | refine if_ndecT (by omega) ?_ | refine if_ndecF (by omega) ?_); conv => whnf)
 | ((first | refine if_dec (fun h => ?_) (fun h => ?_) | refine if_ndec (fun h => ?_) (fun h => ?_) | refine if_cond (fun h => ?_) (fun h => ?_)); all_goals (conv => whnf))
 | with_reducible apply_assumption -symm -exfalso)
    rw [List.take_length]
    exact FinK.frZ (i := 0) b rfl (HSub.refl _)
theorem tickDel1030 {X : List OI} {b mi : Nat} {W : World} (hb : OldC W b 0 [.v (.map (some mi))]) (hm : OldM W mi (mapOf X)) (z : Int) (v : Value) (hv : waitB v = true) : Pu Tryz.prog 30 #[.int .i64 z, v, pv b] W (.bool (!(mapOf X z).isSome)) := by
  obtain ⟨a, l, rfl⟩ := waitB_of hv
  refine enter_sound TBok Tryz.func30 rfl rfl Tryz.ntmps30 [.v (.int .i64 z), .agg [.v (.int .i64 a), .v (.int .i64 l)], .v (pv b)] (Kn.start W noS) rfl rfl ?_
  cases hz : mapOf X z with
  | none =>
    conv => whnf
    repeat' (first
 | with_reducible (first | refine r_seq (fun KS hS => ?_) | (refine hS _ _ ?_; clear hS KS) | (refine hA _ ?_; clear hA KA) | (refine hB _ ?_; clear hB KB) | refine r_block ?_)
 | ((with_reducible (first | refine r_region ?_ | refine r_cond (fun KA hA KB hB => ?_) | refine r_ret ?_ | refine r_skip ?_ | refine r_exit ?_ | refine And.intro rfl ?_ | intro b)); conv => whnf)
 | ((with_reducible refine WrapK.i64 ?_ ?_); (focus omega); conv => whnf)
 | ((with_reducible refine OpK.id ?_); (first | refine OpK.ldp rfl rfl (hb.pc id) (List.cons_ne_nil _ _) ?_ | refine OpK.lkMn rfl rfl rfl rfl rfl rfl rfl rfl (SeesM.old hm id) hz ?_); conv => whnf)
 | ((with_reducible apply OpK.more); (focus refine sok); (conv => whnf); fail_if_success guard_target =ₛ False)
 | ((with_reducible (first | refine InAt.mk (fun K' hK => ?_) | refine AnyAt.mk (fun K' hK => ?_) | (refine hK _ ?_; clear hK K') | (refine hK _ _ ?_; clear hK K'))); conv => whnf)
 | ((refine And.intro ?_ ?_); all_goals (conv => whnf))
 | (apply r_quiet; refine mixed; kernel_rfl; kernel_rfl; kernel_rfl; conv => whnf)
 | ((first | refine if_t (by decide) ?_ | refine if_f (by decide) ?_ | refine if_decT (by omega) ?_ | refine if_decF (by omega) ?_ | refine if_ndecT (by omega) ?_ | refine if_ndecF (by omega) ?_); conv => whnf)
 | ((first | refine if_dec (fun h => ?_) (fun h => ?_) | refine if_ndec (fun h => ?_) (fun h => ?_) | refine if_cond (fun h => ?_) (fun h => ?_)); all_goals (conv => whnf))
 | with_reducible apply_assumption -symm -exfalso)
    exact FinK.pu rfl
  | some v =>
    obtain ⟨x, _, _, rfl⟩ := mapOf_some hz
    conv => whnf
    repeat' (first
 | with_reducible (first | refine r_seq (fun KS hS => ?_) | (refine hS _ _ ?_; clear hS KS) | (refine hA _ ?_; clear hA KA) | (refine hB _ ?_; clear hB KB) | refine r_block ?_)
 | ((with_reducible (first | refine r_region ?_ | refine r_cond (fun KA hA KB hB => ?_) | refine r_ret ?_ | refine r_skip ?_ | refine r_exit ?_ | refine And.intro rfl ?_ | intro b)); conv => whnf)
 | ((with_reducible refine WrapK.i64 ?_ ?_); (focus omega); conv => whnf)
 | ((with_reducible refine OpK.id ?_); (first | refine OpK.ldp rfl rfl (hb.pc id) (List.cons_ne_nil _ _) ?_ | refine OpK.lkMs rfl rfl rfl rfl rfl rfl rfl rfl (SeesM.old hm id) hz ?_); conv => whnf)
 | ((with_reducible apply OpK.more); (focus refine sok); (conv => whnf); fail_if_success guard_target =ₛ False)
 | ((with_reducible (first | refine InAt.mk (fun K' hK => ?_) | refine AnyAt.mk (fun K' hK => ?_) | (refine hK _ ?_; clear hK K') | (refine hK _ _ ?_; clear hK K'))); conv => whnf)
 | ((refine And.intro ?_ ?_); all_goals (conv => whnf))
 | (apply r_quiet; refine mixed; kernel_rfl; kernel_rfl; kernel_rfl; conv => whnf)
 | ((first | refine if_t (by decide) ?_ | refine if_f (by decide) ?_ | refine if_decT (by omega) ?_ | refine if_decF (by omega) ?_ | refine if_ndecT (by omega) ?_ | refine if_ndecF (by omega) ?_); conv => whnf)
 | ((first | refine if_dec (fun h => ?_) (fun h => ?_) | refine if_ndec (fun h => ?_) (fun h => ?_) | refine if_cond (fun h => ?_) (fun h => ?_)); all_goals (conv => whnf))
 | with_reducible apply_assumption -symm -exfalso)
    exact FinK.pu rfl
theorem waiting1009 {f : Int → Option Value} {ks : List Int} (hks : KeysOf f ks) {n gs tk : Int} {d mp : Nat} (w : World) :
    FrZ Tryz.prog 9 #[pv d] w (AssL [.ext 4 (MpK mp f), .blk 3 d (DC n gs tk mp) 80]) (fun z : Option Addr × Nat => .slice z.1 ks.length z.2) (fun z => AssL [.ext 60 (SlA 3 1 z.1 ks.length z.2 (ks.map (Value.int .i64))), .ext 4 (MpK mp f), .blk 3 d (DC n gs tk mp) 80]) := by
  refine enter_frZ TBok (H := [.ext 4 (MpK mp f), .blk 3 d (DC n gs tk mp) 80]) all_foot Tryz.func9 rfl rfl Tryz.ntmps9 [.loc d 3 0] rfl rfl ?_
  intro S _ _
  unfold DC
  conv => whnf
  repeat' (first
 | with_reducible (first | refine r_seq (fun KS hS => ?_) | (refine hS _ _ ?_; clear hS KS) | (refine hA _ ?_; clear hA KA) | (refine hB _ ?_; clear hB KB) | refine r_block ?_)
 | ((with_reducible (first | refine r_region ?_ | refine r_cond (fun KA hA KB hB => ?_) | refine r_ret ?_ | refine r_skip ?_ | refine r_exit ?_ | refine And.intro rfl ?_ | intro b)); conv => whnf)
 | ((with_reducible refine WrapK.i64 ?_ ?_); (focus omega); conv => whnf)
 | (apply in64; rfl; rfl; rfl; intro A; conv => whnf)
 | ((with_reducible refine CallK.at 27 ?_); refine CallK.puW (fun ms w hk => made45 (hk.got (by repeat (first | constructor | apply List.Mem.tail)))) ?_; conv => whnf)
 | ((with_reducible refine CallK.id ?_); refine CallK.keys (tb := 78) (cs := [.v (.map (some mp))]) keysOkW (by repeat (first | constructor | apply List.Mem.tail)) rfl (SeesM.ext (by repeat (first | with_reducible apply At.head | apply At.tail))) hks ?_; conv => whnf)
 | (intro z; conv => whnf)
 | ((with_reducible apply OpK.more); (focus refine sok); (conv => whnf); fail_if_success guard_target =ₛ False)
 | with_reducible (first | refine Rounds.step (fun KL hL => ?_) | (refine hL _ _ ?_; clear hL KL) | refine r_rounds 100 ?_)
 | ((with_reducible (first | refine InAt.mk (fun K' hK => ?_) | refine AnyAt.mk (fun K' hK => ?_) | (refine hK _ ?_; clear hK K') | (refine hK _ _ ?_; clear hK K'))); conv => whnf)
 | ((refine And.intro ?_ ?_); all_goals (conv => whnf))
 | (apply r_quiet; refine mixed; kernel_rfl; kernel_rfl; kernel_rfl; conv => whnf)
 | ((first | refine if_t (by decide) ?_ | refine if_f (by decide) ?_ | refine if_decT (by omega) ?_ | refine if_decF (by omega) ?_ | refine if_ndecT (by omega) ?_ | refine if_ndecF (by omega) ?_); conv => whnf)
 | ((first | refine if_dec (fun h => ?_) (fun h => ?_) | refine if_ndec (fun h => ?_) (fun h => ?_) | refine if_cond (fun h => ?_) (fun h => ?_)); all_goals (conv => whnf))
 | with_reducible apply_assumption -symm -exfalso)
  exact FinK.frZL b rfl (by (try dsimp only [List.cons_append, List.nil_append, den, denL]); refine SelI.spec ?_; (repeat (first | refine SelI.blk (by repeat (first | with_reducible apply Rm.head | apply Rm.tail)) ?_ | refine SelI.ext (by repeat (first | with_reducible apply Rm.head | apply Rm.tail)) ?_ | (refine SelI.blk' (by repeat (first | with_reducible apply Rm.head | apply Rm.tail)) ?_ ?_; focus rfl) | (refine SelI.ext' (by repeat (first | with_reducible apply Rm.head | apply Rm.tail)) ?_ ?_; focus rfl))); exact SelI.nil)
end Go.Proofs.YthmjkaljkgjicaaGreatDoor

set_option linter.all false
namespace Go.X
open Go
/-- what is known of the items that are waited for: how often they were asked for, and when last -/
abbrev WG := Int → Option (Nat × Nat)
def wf (g : WG) : Int → Option Value := fun z => (g z).map fun p => .agg #[.int .i64 p.1, .int .i64 p.2]
theorem wf_none {g : WG} {z : Int} (h : g z = none) : wf g z = none := by unfold wf; rw [h]; rfl
theorem wf_some {g : WG} {z : Int} {a l : Nat} (h : g z = some (a, l)) : wf g z = some (.agg #[.int .i64 a, .int .i64 l]) := by unfold wf; rw [h]; rfl
/-- whether an item is due at tick t -/
def dueB (g : WG) (t : Nat) (x : OI) : Bool := match g x.num with
  | none => true
  | some (_, l) => decide (4 ≤ t - l)
def askedN (g : WG) (x : OI) : Nat := match g x.num with
  | none => 0
  | some (a, _) => a
def lastN (g : WG) (x : OI) : Nat := match g x.num with
  | none => 0
  | some (_, l) => l
def dueX (g : WG) (t : Nat) (x : OI) : List SV := [.v (.int .i64 x.num), .v (.agg #[.int .i64 (askedN g x), .int .i64 (lastN g x)])]
theorem filter_at {α : Type} {D : α → Bool} : ∀ {X : List α} {j : Nat} {x : α}, X[j]? = some x → D x = true → (X.filter D)[((X.take j).filter D).length]? = some x
  | [], _, _, h, _ => by simp at h
  | y :: X, 0, x, h, hD => by
    have : y = x := by simpa using h
    subst this
    simp [hD]
  | y :: X, j + 1, x, h, hD => by
    have h' : X[j]? = some x := by simpa using h
    have := filter_at h' hD
    rw [List.take_succ_cons]
    by_cases hy : D y = true
    · rw [List.filter_cons_of_pos hy, List.filter_cons_of_pos hy, List.length_cons, List.getElem?_cons_succ]; exact this
    · rw [List.filter_cons_of_neg hy, List.filter_cons_of_neg hy]; exact this
theorem filter_step {α : Type} {D : α → Bool} {X : List α} {j : Nat} {x : α} (h : X[j]? = some x) : ((X.take (j + 1)).filter D).length = ((X.take j).filter D).length + if D x then 1 else 0 := by
  rw [List.take_succ, h, Option.toList_some, List.filter_append, List.length_append]
  by_cases hD : D x = true
  · rw [if_pos hD, List.filter_cons_of_pos hD]; rfl
  · rw [if_neg hD, List.filter_cons_of_neg hD]; rfl
theorem keys_at {X : List OI} {j : Nat} {x : OI} (h : X[j]? = some x) : (((keys X).map (Value.int .i64)).drop ((j : Int).toNat * 1)).take 1 = denL [.v (.int .i64 x.num)] := by
  have hlt := (List.getElem?_eq_some_iff.1 h).1
  have hx := (List.getElem?_eq_some_iff.1 h).2
  rw [Nat.mul_one, Int.toNat_natCast]
  unfold keys
  rw [List.map_map, ← List.map_drop, ← List.map_take, List.drop_eq_getElem_cons hlt]
  simp [hx, denL, den]
theorem keys_length (X : List OI) : (keys X).length = X.length := by simp [keys]
end Go.X
namespace Go.Proofs.YthmjkaljkgjicaaGreatDoor
open Go Go.X
set_option maxRecDepth 100000
set_option maxHeartbeats 0
theorem due1056 {X : List OI} (hX : Asc X) (hXl : X.length ≤ 1000) {g0 : WG} {G : Nat → WG} {t : Nat} {n gs : Int} {d mp th bth bd : Nat} (ht : t ≤ 1000000) (hgt : ∀ x ∈ X, ∀ a l, g0 x.num = some (a, l) → l ≤ t ∧ a ≤ 1000000) (hG : ∀ j x, X[j]? = some x → G ((X.take j).filter (dueB g0 t)).length x.num = g0 x.num)
    (XX : Nat → Ass) (HH : Nat → List Blk) (h0 : ∀ q, HH q = [.blk 3 d (DC n gs t mp) 80, .ext 4 (MpK mp (wf (G q))), .ext 5 (MpK th (mapOf X)), .ext 9 (XX q)]) (A0 : Ass) (yv : Value)
    (hy : ∀ q x, ((X.filter (dueB g0 t)).map (dueX g0 t))[q]? = some x → YS Tryz.prog yv (denL x) (AssL (.ext 100 A0 :: HH q)) (AssL (.ext 100 A0 :: HH (q + 1)))) (w : World) :
    Fr Tryz.prog 56 (yv :: denL [.loc bth 1 0, .loc bd 2 0]).toArray w (AssL (.ext 0 (AssL (.ext 100 A0 :: HH 0)) :: [.blk 1 bth [.v (.map (some th))] 81, .blk 2 bd [.loc d 3 0] 25])) (.tuple #[]) (AssL (.ext 0 (AssL (.ext 100 A0 :: HH (X.filter (dueB g0 t)).length)) :: [.blk 1 bth [.v (.map (some th))] 81, .blk 2 bd [.loc d 3 0] 25])) := by
  show Fr Tryz.prog 56 (denL [.v yv, .loc bth 1 0, .loc bd 2 0]).toArray w _ _ _
  refine enter_fr TBok (H := .ext 0 (AssL (.ext 100 A0 :: HH 0)) :: [.blk 1 bth [.v (.map (some th))] 81, .blk 2 bd [.loc d 3 0] 25]) all_foot Tryz.func56 rfl rfl Tryz.ntmps56 [.v yv, .loc bth 1 0, .loc bd 2 0] rfl rfl ?_
  intro S
  refine Run.unj ?_
  rw [h0]
  unfold DC
  conv => whnf
  repeat' (first
 | with_reducible (first | refine r_seq (fun KS hS => ?_) | (refine hS _ _ ?_; clear hS KS) | (refine hA _ ?_; clear hA KA) | (refine hB _ ?_; clear hB KB) | refine r_block ?_)
 | ((with_reducible (first | refine r_region ?_ | refine r_cond (fun KA hA KB hB => ?_) | refine r_ret ?_ | refine r_skip ?_ | refine r_exit ?_ | refine And.intro rfl ?_ | intro b)); conv => whnf)
 | ((with_reducible refine WrapK.i64 ?_ ?_); (focus omega); conv => whnf)
 | (apply in101; rfl; rfl; rfl; intro A; conv => whnf)
 | ((with_reducible refine CallK.id ?_); refine CallK.keys (tb := 81) (cs := [.v (.map (some th))]) keysOkT (by repeat (first | constructor | apply List.Mem.tail)) rfl (SeesM.ext (by repeat (first | with_reducible apply At.head | apply At.tail))) (mapOf_keys hX (by omega)) ?_; conv => whnf)
 | (intro z; conv => whnf)
 | ((with_reducible apply OpK.more); (focus refine sok); (conv => whnf); fail_if_success guard_target =ₛ False)
 | ((with_reducible (first | refine InAt.mk (fun K' hK => ?_) | refine AnyAt.mk (fun K' hK => ?_) | (refine hK _ ?_; clear hK K') | (refine hK _ _ ?_; clear hK K'))); conv => whnf)
 | ((refine And.intro ?_ ?_); all_goals (conv => whnf))
 | (apply r_quiet; refine mixed; kernel_rfl; kernel_rfl; kernel_rfl; conv => whnf)
 | ((first | refine if_t (by decide) ?_ | refine if_f (by decide) ?_ | refine if_decT (by omega) ?_ | refine if_decF (by omega) ?_ | refine if_ndecT (by omega) ?_ | refine if_ndecF (by omega) ?_); conv => whnf)
 | ((first | refine if_dec (fun h => ?_) (fun h => ?_) | refine if_ndec (fun h => ?_) (fun h => ?_) | refine if_cond (fun h => ?_) (fun h => ?_)); all_goals (conv => whnf))
 | with_reducible apply_assumption -symm -exfalso)
  obtain ⟨ka, kc⟩ := b
  dsimp only
  refine r_loop (α := Nat) (fun j => [(12, .v (.int .i64 (j : Nat))), (11, .v (.int .i64 (keys X).length)), (10, .v (.slice ka (keys X).length kc)), (0, .v yv), (1, .loc bth 1 0), (2, .loc bd 2 0)]) (fun j => [.ext 200 (SlA 3 1 ka (keys X).length kc ((keys X).map (Value.int .i64))), .ext 100 A0, .blk 3 d [.v (.int .i64 n), .v (.int .i64 gs), .v (.int .i64 t), .v (.map (some mp))] 80, .ext 4 (MpK mp (wf (G ((X.take j).filter (dueB g0 t)).length))), .ext 5 (MpK th (mapOf X)), .ext 9 (XX ((X.take j).filter (dueB g0 t)).length), .blk 1 bth [.v (.map (some th))] 81, .blk 2 bd [.loc d 3 0] 25]) (fun j => j ≤ X.length) (fun j => X.length - j) 0 (Nat.zero_le _) (by repeat' (first | exact Sub.nil | (refine Sub.cons rfl rfl ?_))) (by (try dsimp only [List.cons_append, List.nil_append, den, denL]); refine SelI.spec ?_; (repeat (first | refine SelI.blk (by repeat (first | with_reducible apply Rm.head | apply Rm.tail)) ?_ | refine SelI.ext (by repeat (first | with_reducible apply Rm.head | apply Rm.tail)) ?_ | (refine SelI.blk' (by repeat (first | with_reducible apply Rm.head | apply Rm.tail)) ?_ ?_; focus rfl) | (refine SelI.ext' (by repeat (first | with_reducible apply Rm.head | apply Rm.tail)) ?_ ?_; focus rfl))); exact SelI.nil) ?_
  intro j hj KL hL
  have hkl := keys_length X
  by_cases hlt : j < X.length
  · obtain ⟨x, hx⟩ : ∃ x, X[j]? = some x := ⟨_, List.getElem?_eq_getElem hlt⟩
    have hgx := hG j x hx
    have hst := filter_step (D := dueB g0 t) hx
    have hxm := List.mem_of_getElem? hx
    cases hg0 : g0 x.num with
    | none =>
      have hD : dueB g0 t x = true := by unfold dueB; rw [hg0]
      rw [if_pos hD] at hst
      have hy' := hy _ (dueX g0 t x) (by rw [List.getElem?_map, filter_at hx hD]; rfl)
      rw [show denL (dueX g0 t x) = [.int .i64 x.num, .agg #[.int .i64 0, .int .i64 0]] by unfold dueX askedN lastN; rw [hg0]; rfl] at hy'
      repeat' (first
 | with_reducible (first | refine r_seq (fun KS hS => ?_) | (refine hS _ _ ?_; clear hS KS) | (refine hA _ ?_; clear hA KA) | (refine hB _ ?_; clear hB KB) | refine r_block ?_)
 | ((with_reducible (first | refine r_region ?_ | refine r_cond (fun KA hA KB hB => ?_) | refine r_ret ?_ | refine r_skip ?_ | refine r_exit ?_ | refine And.intro rfl ?_ | intro b)); conv => whnf)
 | ((with_reducible refine WrapK.i64 ?_ ?_); (focus omega); conv => whnf)
 | ((with_reducible refine OpK.id ?_); (first | (refine OpK.idx (k := 1) rfl rfl rfl rfl rfl rfl rfl (Sees.ext (by repeat (first | with_reducible apply At.head | apply At.tail))) (by omega) (by rw [keys_length]; omega) (keys_at hx) (fun b off hp => ?_)) | refine OpK.ldp rfl rfl hp (List.cons_ne_nil _ _) ?_ | refine OpK.lkMn rfl rfl rfl rfl rfl rfl rfl rfl (SeesM.ext (by repeat (first | with_reducible apply At.head | apply At.tail))) (wf_none (hgx.trans hg0)) ?_); conv => whnf)
 | ((with_reducible refine CallV.id ?_); refine CallV.weak (H' := .ext 0 (AssL (.ext 100 A0 :: HH ((X.take j).filter (dueB g0 t)).length)) :: [.ext 200 (SlA 3 1 ka (keys X).length kc ((keys X).map (Value.int .i64))), .blk 1 bth [.v (.map (some th))] 81, .blk 2 bd [.loc d 3 0] 25]) (by rw [h0]; exact HSub.trans ((HSub.join (i := 0)).app2 (A := [_, _, _, _, _]) (HSub.refl _)) (by (try dsimp only [List.cons_append, List.nil_append, den, denL]); refine SelI.spec ?_; (repeat (first | refine SelI.blk (by repeat (first | with_reducible apply Rm.head | apply Rm.tail)) ?_ | refine SelI.ext (by repeat (first | with_reducible apply Rm.head | apply Rm.tail)) ?_ | (refine SelI.blk' (by repeat (first | with_reducible apply Rm.head | apply Rm.tail)) ?_ ?_; focus rfl) | (refine SelI.ext' (by repeat (first | with_reducible apply Rm.head | apply Rm.tail)) ?_ ?_; focus rfl))); exact SelI.nil)) ?_; refine CallV.fr .head (v := .bool true) (y := .ext 0 (AssL (.ext 100 A0 :: HH (((X.take j).filter (dueB g0 t)).length + 1)))) (fun w S h1 h2 => hy' w S h1 h2) ?_; conv => whnf)
 | (refine hL (j + 1) _ _ (by show j + 1 ≤ _; omega) (by show X.length - (j + 1) < X.length - j; omega) (by repeat' (first | exact Sub.nil | (refine Sub.cons rfl rfl ?_))) (by rw [hst]; refine HSub.trans ?_ ((HSub.unjoin (i := 0) (L := .ext 100 A0 :: HH (((X.take j).filter (dueB g0 t)).length + 1))).app2 (HSub.refl _)); rw [h0]; exact (by (try dsimp only [List.cons_append, List.nil_append, den, denL]); refine SelI.spec ?_; (repeat (first | refine SelI.blk (by repeat (first | with_reducible apply Rm.head | apply Rm.tail)) ?_ | refine SelI.ext (by repeat (first | with_reducible apply Rm.head | apply Rm.tail)) ?_ | (refine SelI.blk' (by repeat (first | with_reducible apply Rm.head | apply Rm.tail)) ?_ ?_; focus rfl) | (refine SelI.ext' (by repeat (first | with_reducible apply Rm.head | apply Rm.tail)) ?_ ?_; focus rfl))); exact SelI.nil)))
 | ((with_reducible apply OpK.more); (focus refine sok); (conv => whnf); fail_if_success guard_target =ₛ False)
 | ((with_reducible (first | refine InAt.mk (fun K' hK => ?_) | refine AnyAt.mk (fun K' hK => ?_) | (refine hK _ ?_; clear hK K') | (refine hK _ _ ?_; clear hK K'))); conv => whnf)
 | ((refine And.intro ?_ ?_); all_goals (conv => whnf))
 | (apply r_quiet; refine mixed; kernel_rfl; kernel_rfl; kernel_rfl; conv => whnf)
 | ((first | refine if_t (by decide) ?_ | refine if_f (by decide) ?_ | refine if_decT (by omega) ?_ | refine if_decF (by omega) ?_ | refine if_ndecT (by omega) ?_ | refine if_ndecF (by omega) ?_); conv => whnf)
 | ((first | refine if_dec (fun h => ?_) (fun h => ?_) | refine if_ndec (fun h => ?_) (fun h => ?_) | refine if_cond (fun h => ?_) (fun h => ?_)); all_goals (conv => whnf))
 | with_reducible apply_assumption -symm -exfalso)
    | some p =>
      obtain ⟨a, l⟩ := p
      obtain ⟨hl1, ha1⟩ := hgt x hxm a l hg0
      by_cases h4 : 4 ≤ t - l
      · have hD : dueB g0 t x = true := by unfold dueB; rw [hg0]; exact decide_eq_true h4
        rw [if_pos hD] at hst
        have hy' := hy _ (dueX g0 t x) (by rw [List.getElem?_map, filter_at hx hD]; rfl)
        rw [show denL (dueX g0 t x) = [.int .i64 x.num, .agg #[.int .i64 a, .int .i64 l]] by unfold dueX askedN lastN; rw [hg0]; rfl] at hy'
        repeat' (first
 | with_reducible (first | refine r_seq (fun KS hS => ?_) | (refine hS _ _ ?_; clear hS KS) | (refine hA _ ?_; clear hA KA) | (refine hB _ ?_; clear hB KB) | refine r_block ?_)
 | ((with_reducible (first | refine r_region ?_ | refine r_cond (fun KA hA KB hB => ?_) | refine r_ret ?_ | refine r_skip ?_ | refine r_exit ?_ | refine And.intro rfl ?_ | intro b)); conv => whnf)
 | ((with_reducible refine WrapK.i64 ?_ ?_); (focus omega); conv => whnf)
 | ((with_reducible refine OpK.id ?_); (first | (refine OpK.idx (k := 1) rfl rfl rfl rfl rfl rfl rfl (Sees.ext (by repeat (first | with_reducible apply At.head | apply At.tail))) (by omega) (by rw [keys_length]; omega) (keys_at hx) (fun b off hp => ?_)) | refine OpK.ldp rfl rfl hp (List.cons_ne_nil _ _) ?_ | refine OpK.lkMs rfl rfl rfl rfl rfl rfl rfl rfl (SeesM.ext (by repeat (first | with_reducible apply At.head | apply At.tail))) (wf_some (hgx.trans hg0)) ?_); conv => whnf)
 | ((with_reducible refine CallV.id ?_); refine CallV.weak (H' := .ext 0 (AssL (.ext 100 A0 :: HH ((X.take j).filter (dueB g0 t)).length)) :: [.ext 200 (SlA 3 1 ka (keys X).length kc ((keys X).map (Value.int .i64))), .blk 1 bth [.v (.map (some th))] 81, .blk 2 bd [.loc d 3 0] 25]) (by rw [h0]; exact HSub.trans ((HSub.join (i := 0)).app2 (A := [_, _, _, _, _]) (HSub.refl _)) (by (try dsimp only [List.cons_append, List.nil_append, den, denL]); refine SelI.spec ?_; (repeat (first | refine SelI.blk (by repeat (first | with_reducible apply Rm.head | apply Rm.tail)) ?_ | refine SelI.ext (by repeat (first | with_reducible apply Rm.head | apply Rm.tail)) ?_ | (refine SelI.blk' (by repeat (first | with_reducible apply Rm.head | apply Rm.tail)) ?_ ?_; focus rfl) | (refine SelI.ext' (by repeat (first | with_reducible apply Rm.head | apply Rm.tail)) ?_ ?_; focus rfl))); exact SelI.nil)) ?_; refine CallV.fr .head (v := .bool true) (y := .ext 0 (AssL (.ext 100 A0 :: HH (((X.take j).filter (dueB g0 t)).length + 1)))) (fun w S h1 h2 => hy' w S h1 h2) ?_; conv => whnf)
 | (refine hL (j + 1) _ _ (by show j + 1 ≤ _; omega) (by show X.length - (j + 1) < X.length - j; omega) (by repeat' (first | exact Sub.nil | (refine Sub.cons rfl rfl ?_))) (by rw [hst]; refine HSub.trans ?_ ((HSub.unjoin (i := 0) (L := .ext 100 A0 :: HH (((X.take j).filter (dueB g0 t)).length + 1))).app2 (HSub.refl _)); rw [h0]; exact (by (try dsimp only [List.cons_append, List.nil_append, den, denL]); refine SelI.spec ?_; (repeat (first | refine SelI.blk (by repeat (first | with_reducible apply Rm.head | apply Rm.tail)) ?_ | refine SelI.ext (by repeat (first | with_reducible apply Rm.head | apply Rm.tail)) ?_ | (refine SelI.blk' (by repeat (first | with_reducible apply Rm.head | apply Rm.tail)) ?_ ?_; focus rfl) | (refine SelI.ext' (by repeat (first | with_reducible apply Rm.head | apply Rm.tail)) ?_ ?_; focus rfl))); exact SelI.nil)))
 | ((with_reducible apply OpK.more); (focus refine sok); (conv => whnf); fail_if_success guard_target =ₛ False)
 | ((with_reducible (first | refine InAt.mk (fun K' hK => ?_) | refine AnyAt.mk (fun K' hK => ?_) | (refine hK _ ?_; clear hK K') | (refine hK _ _ ?_; clear hK K'))); conv => whnf)
 | ((refine And.intro ?_ ?_); all_goals (conv => whnf))
 | (apply r_quiet; refine mixed; kernel_rfl; kernel_rfl; kernel_rfl; conv => whnf)
 | ((first | refine if_t (by decide) ?_ | refine if_f (by decide) ?_ | refine if_decT (by omega) ?_ | refine if_decF (by omega) ?_ | refine if_ndecT (by omega) ?_ | refine if_ndecF (by omega) ?_); conv => whnf)
 | ((first | refine if_dec (fun h => ?_) (fun h => ?_) | refine if_ndec (fun h => ?_) (fun h => ?_) | refine if_cond (fun h => ?_) (fun h => ?_)); all_goals (conv => whnf))
 | with_reducible apply_assumption -symm -exfalso)
      · have hD : ¬ dueB g0 t x = true := by unfold dueB; rw [hg0]; simpa using h4
        rw [if_neg hD] at hst
        repeat' (first
 | with_reducible (first | refine r_seq (fun KS hS => ?_) | (refine hS _ _ ?_; clear hS KS) | (refine hA _ ?_; clear hA KA) | (refine hB _ ?_; clear hB KB) | refine r_block ?_)
 | ((with_reducible (first | refine r_region ?_ | refine r_cond (fun KA hA KB hB => ?_) | refine r_ret ?_ | refine r_skip ?_ | refine r_exit ?_ | refine And.intro rfl ?_ | intro b)); conv => whnf)
 | ((with_reducible refine WrapK.i64 ?_ ?_); (focus omega); conv => whnf)
 | ((with_reducible refine OpK.id ?_); (first | (refine OpK.idx (k := 1) rfl rfl rfl rfl rfl rfl rfl (Sees.ext (by repeat (first | with_reducible apply At.head | apply At.tail))) (by omega) (by rw [keys_length]; omega) (keys_at hx) (fun b off hp => ?_)) | refine OpK.ldp rfl rfl hp (List.cons_ne_nil _ _) ?_ | refine OpK.lkMs rfl rfl rfl rfl rfl rfl rfl rfl (SeesM.ext (by repeat (first | with_reducible apply At.head | apply At.tail))) (wf_some (hgx.trans hg0)) ?_); conv => whnf)
 | ((with_reducible refine CallV.id ?_); refine CallV.weak (H' := .ext 0 (AssL (.ext 100 A0 :: HH ((X.take j).filter (dueB g0 t)).length)) :: [.ext 200 (SlA 3 1 ka (keys X).length kc ((keys X).map (Value.int .i64))), .blk 1 bth [.v (.map (some th))] 81, .blk 2 bd [.loc d 3 0] 25]) (by rw [h0]; exact HSub.trans ((HSub.join (i := 0)).app2 (A := [_, _, _, _, _]) (HSub.refl _)) (by (try dsimp only [List.cons_append, List.nil_append, den, denL]); refine SelI.spec ?_; (repeat (first | refine SelI.blk (by repeat (first | with_reducible apply Rm.head | apply Rm.tail)) ?_ | refine SelI.ext (by repeat (first | with_reducible apply Rm.head | apply Rm.tail)) ?_ | (refine SelI.blk' (by repeat (first | with_reducible apply Rm.head | apply Rm.tail)) ?_ ?_; focus rfl) | (refine SelI.ext' (by repeat (first | with_reducible apply Rm.head | apply Rm.tail)) ?_ ?_; focus rfl))); exact SelI.nil)) ?_; refine CallV.fr .head (v := .bool true) (y := .ext 0 (AssL (.ext 100 A0 :: HH (((X.take j).filter (dueB g0 t)).length + 1)))) (fun w S h1 h2 => hy' w S h1 h2) ?_; conv => whnf)
 | (refine hL (j + 1) _ _ (by show j + 1 ≤ _; omega) (by show X.length - (j + 1) < X.length - j; omega) (by repeat' (first | exact Sub.nil | (refine Sub.cons rfl rfl ?_))) (by rw [hst]; exact (by (try dsimp only [List.cons_append, List.nil_append, den, denL]); refine SelI.spec ?_; (repeat (first | refine SelI.blk (by repeat (first | with_reducible apply Rm.head | apply Rm.tail)) ?_ | refine SelI.ext (by repeat (first | with_reducible apply Rm.head | apply Rm.tail)) ?_ | (refine SelI.blk' (by repeat (first | with_reducible apply Rm.head | apply Rm.tail)) ?_ ?_; focus rfl) | (refine SelI.ext' (by repeat (first | with_reducible apply Rm.head | apply Rm.tail)) ?_ ?_; focus rfl))); exact SelI.nil)))
 | ((with_reducible apply OpK.more); (focus refine sok); (conv => whnf); fail_if_success guard_target =ₛ False)
 | ((with_reducible (first | refine InAt.mk (fun K' hK => ?_) | refine AnyAt.mk (fun K' hK => ?_) | (refine hK _ ?_; clear hK K') | (refine hK _ _ ?_; clear hK K'))); conv => whnf)
 | ((refine And.intro ?_ ?_); all_goals (conv => whnf))
 | (apply r_quiet; refine mixed; kernel_rfl; kernel_rfl; kernel_rfl; conv => whnf)
 | ((first | refine if_t (by decide) ?_ | refine if_f (by decide) ?_ | refine if_decT (by omega) ?_ | refine if_decF (by omega) ?_ | refine if_ndecT (by omega) ?_ | refine if_ndecF (by omega) ?_); conv => whnf)
 | ((first | refine if_dec (fun h => ?_) (fun h => ?_) | refine if_ndec (fun h => ?_) (fun h => ?_) | refine if_cond (fun h => ?_) (fun h => ?_)); all_goals (conv => whnf))
 | with_reducible apply_assumption -symm -exfalso)
  · obtain rfl : j = X.length := by omega
    repeat' (first
 | with_reducible (first | refine r_seq (fun KS hS => ?_) | (refine hS _ _ ?_; clear hS KS) | (refine hA _ ?_; clear hA KA) | (refine hB _ ?_; clear hB KB) | refine r_block ?_)
 | ((with_reducible (first | refine r_region ?_ | refine r_cond (fun KA hA KB hB => ?_) | refine r_ret ?_ | refine r_skip ?_ | refine r_exit ?_ | refine And.intro rfl ?_ | intro b)); conv => whnf)
 | ((with_reducible refine WrapK.i64 ?_ ?_); (focus omega); conv => whnf)
 | ((with_reducible apply OpK.more); (focus refine sok); (conv => whnf); fail_if_success guard_target =ₛ False)
 | ((with_reducible (first | refine InAt.mk (fun K' hK => ?_) | refine AnyAt.mk (fun K' hK => ?_) | (refine hK _ ?_; clear hK K') | (refine hK _ _ ?_; clear hK K'))); conv => whnf)
 | ((refine And.intro ?_ ?_); all_goals (conv => whnf))
 | (apply r_quiet; refine mixed; kernel_rfl; kernel_rfl; kernel_rfl; conv => whnf)
 | ((first | refine if_t (by decide) ?_ | refine if_f (by decide) ?_ | refine if_decT (by omega) ?_ | refine if_decF (by omega) ?_ | refine if_ndecT (by omega) ?_ | refine if_ndecF (by omega) ?_); conv => whnf)
 | ((first | refine if_dec (fun h => ?_) (fun h => ?_) | refine if_ndec (fun h => ?_) (fun h => ?_) | refine if_cond (fun h => ?_) (fun h => ?_)); all_goals (conv => whnf))
 | with_reducible apply_assumption -symm -exfalso)
    rw [List.take_length]
    exact FinK.frL rfl (by rw [h0]; exact HSub.trans ((HSub.join (i := 0)).app2 (A := [_, _, _, _, _]) (HSub.refl _)) (by (try dsimp only [List.cons_append, List.nil_append, den, denL]); refine SelI.spec ?_; (repeat (first | refine SelI.blk (by repeat (first | with_reducible apply Rm.head | apply Rm.tail)) ?_ | refine SelI.ext (by repeat (first | with_reducible apply Rm.head | apply Rm.tail)) ?_ | (refine SelI.blk' (by repeat (first | with_reducible apply Rm.head | apply Rm.tail)) ?_ ?_; focus rfl) | (refine SelI.ext' (by repeat (first | with_reducible apply Rm.head | apply Rm.tail)) ?_ ?_; focus rfl))); exact SelI.nil))
end Go.Proofs.YthmjkaljkgjicaaGreatDoor

set_option linter.all false
namespace Go.X
open Go
/-- what stays known: of the items that are there -/
def keepG (X : List OI) (g : WG) : WG := fun z => if (mapOf X z).isSome then g z else none
theorem keep_wf (X : List OI) (g : WG) : keepK (fun z => (mapOf X z).isSome) (wf g) = wf (keepG X g) := by
  funext z
  unfold keepK wf keepG
  by_cases h : (mapOf X z).isSome = true
  · rw [if_pos h, if_pos h]
  · rw [if_neg h, if_neg h]; rfl
/-- behind q questions -/
def askG (D : List OI) (g : WG) (t : Nat) (q : Nat) : WG := fun z => match (D.take q).find? fun x => decide ((x.num : Int) = z) with
  | some x => some (askedN g x + 1, t)
  | none => g z
theorem filter_take {α : Type} {D : α → Bool} : ∀ (X : List α) (j : Nat), (X.filter D).take ((X.take j).filter D).length = (X.take j).filter D
  | [], _ => by simp
  | x :: X, 0 => by simp
  | x :: X, j + 1 => by
    rw [List.take_succ_cons]
    by_cases hx : D x = true
    · rw [List.filter_cons_of_pos hx, List.filter_cons_of_pos hx, List.length_cons, List.take_succ_cons, filter_take X j]
    · rw [List.filter_cons_of_neg hx, List.filter_cons_of_neg hx, filter_take X j]
theorem askG_at {X : List OI} (hX : Asc X) {g : WG} {t j : Nat} {x : OI} (hx : X[j]? = some x) : askG (X.filter (dueB g t)) g t ((X.take j).filter (dueB g t)).length x.num = g x.num := by
  unfold askG
  rw [filter_take]
  have : ((X.take j).filter (dueB g t)).find? (fun y => decide ((y.num : Int) = x.num)) = none := by
    rw [List.find?_eq_none]
    intro y hy
    have hy := (List.mem_filter.1 hy).1
    obtain ⟨i, hi⟩ := List.mem_iff_getElem?.1 hy
    rw [List.getElem?_take] at hi
    split at hi
    · have := hX.at hi hx ‹_›
      simp; omega
    · cases hi
  rw [this]
theorem askG_step {D : List OI} (hD : Asc D) {g : WG} {t q : Nat} {x : OI} (hx : D[q]? = some x) : putK (wf (askG D g t q)) x.num (.agg #[.int .i64 ((askedN g x : Int) + 1), .int .i64 t]) = wf (askG D g t (q + 1)) := by
  funext z
  unfold putK wf askG
  rw [List.take_succ, hx, Option.toList_some, List.find?_append]
  by_cases hz : z = x.num
  · subst hz
    have : (D.take q).find? (fun y => decide ((y.num : Int) = x.num)) = none := by
      rw [List.find?_eq_none]
      intro y hy
      obtain ⟨i, hi⟩ := List.mem_iff_getElem?.1 hy
      rw [List.getElem?_take] at hi
      split at hi
      · have := hD.at hi hx ‹_›
        simp; omega
      · cases hi
    rw [this]
    simp
  · rw [if_neg hz]
    have : [x].find? (fun y => decide ((y.num : Int) = z)) = none := by
      rw [List.find?_eq_none]; simp; omega
    rw [this, Option.or_none]
theorem askG_stepD {D : List OI} (hD : Asc D) {g : WG} {t q : Nat} {x : OI} (hx : D[q]? = some x) : putK (wf (askG D g t q)) x.num (den (.agg [.v (.int .i64 ((askedN g x : Int) + 1)), .v (.int .i64 (t : Nat))])) = wf (askG D g t (q + 1)) := askG_step hD hx
theorem keepG_le {X : List OI} {g : WG} {tk : Nat} (hgt : ∀ x ∈ X, ∀ a l, g x.num = some (a, l) → l ≤ tk ∧ a ≤ 999999) : ∀ x ∈ X, ∀ a l, keepG X g x.num = some (a, l) → l ≤ tk + 1 ∧ a ≤ 1000000 := by
  intro x hx a l h
  unfold keepG at h
  split at h
  · have := hgt x hx a l h; omega
  · cases h
theorem asked_le {X : List OI} {g : WG} {t : Nat} (hgt : ∀ x ∈ X, ∀ a l, g x.num = some (a, l) → l ≤ t ∧ a ≤ 1000000) {x : OI} (hx : x ∈ X) : askedN g x ≤ 1000000 := by
  unfold askedN
  split
  · omega
  · exact (hgt x hx _ _ ‹_›).2
theorem take_flat {α : Type} {D : List α} {F : α → List Value} {i : Nat} {y : α} (hy : D[i]? = some y) : (D.take (i + 1)).flatMap F = (D.take i).flatMap F ++ F y := by
  rw [List.take_succ, hy, Option.toList_some, List.flatMap_append, List.flatMap_singleton]
theorem wf_wait {g : WG} : ∀ z v, wf g z = some v → ∃ a l : Nat, v = .agg #[.int .i64 a, .int .i64 l] := by
  intro z v h
  unfold wf at h
  obtain ⟨p, _, rfl⟩ := Option.map_eq_some_iff.1 h
  exact ⟨_, _, rfl⟩
end Go.X
namespace Go.Proofs.YthmjkaljkgjicaaGreatDoor
open Go Go.X
set_option maxRecDepth 100000
set_option maxHeartbeats 0
noncomputable def mC (g : WG) (me n : Nat) (x : OI) : List Value := [.int .i64 10, .int .i64 me, .int .i64 ((x.1.g : Int) * n + (askedN g x : Int) % n), .int .i64 0, .int .i64 0, .int .i64 0, .int .i64 x.num, .string ⟨(encOf x).toArray⟩, .slice none 0 0]
theorem wf_waitB {g : WG} : ∀ z v, wf g z = some v → waitB v = true := by
  intro z v h
  obtain ⟨a, l, rfl⟩ := wf_wait z v h
  rfl
theorem tick1007 {X : List OI} (hX : Asc X) (hXl : X.length ≤ 1000) {g : WG} {ks : List Int} (hks : KeysOf (wf g) ks) {n me tk : Nat} {gs : Int} {d mp cap : Nat} {a : Option Addr} (hn : 1 ≤ n ∧ n ≤ 7) (hgs : 2 < gs) (hme : me < n) (htk : tk ≤ 999999) (hgt : ∀ x ∈ X, ∀ a l, g x.num = some (a, l) → l ≤ tk ∧ a ≤ 999999) (w : World) :
    FrZ Tryz.prog 7 #[pv d, .int .i64 me, .slice a X.length cap, .func (.func 8) #[] #[]] w (AssL [.ext 9 (SlA 47 6 a X.length cap (X.flatMap OI.cells)), .ext 4 (MpK mp (wf g)), .blk 3 d (DC n gs tk mp) 80])
      (fun z : Option Addr × Nat => .slice z.1 (X.filter (dueB (keepG X g) (tk + 1))).length z.2) (fun z => AssL [.ext 70 (SlA 38 9 z.1 (X.filter (dueB (keepG X g) (tk + 1))).length z.2 ((X.filter (dueB (keepG X g) (tk + 1))).flatMap (mC (keepG X g) me n))), .ext 9 (SlA 47 6 a X.length cap (X.flatMap OI.cells)), .ext 4 (MpK mp (wf (askG (X.filter (dueB (keepG X g) (tk + 1))) (keepG X g) (tk + 1) (X.filter (dueB (keepG X g) (tk + 1))).length))), .blk 3 d (DC n gs (tk + 1 : Nat) mp) 80]) := by
  refine enter_frZ TBok (H := [.ext 9 (SlA 47 6 a X.length cap (X.flatMap OI.cells)), .ext 4 (MpK mp (wf g)), .blk 3 d (DC n gs tk mp) 80]) all_foot Tryz.func7 rfl rfl Tryz.ntmps7 [.loc d 3 0, .v (.int .i64 me), .v (.slice a X.length cap), .fn 8 []] rfl rfl ?_
  intro S _ _
  unfold DC
  conv => whnf
  repeat' (first
 | with_reducible (first | refine r_seq (fun KS hS => ?_) | (refine hS _ _ ?_; clear hS KS) | (refine hA _ ?_; clear hA KA) | (refine hB _ ?_; clear hB KB) | refine r_block ?_)
 | ((with_reducible (first | refine r_region ?_ | refine r_cond (fun KA hA KB hB => ?_) | refine r_ret ?_ | refine r_skip ?_ | refine r_exit ?_ | refine And.intro rfl ?_ | intro b)); conv => whnf)
 | ((with_reducible refine WrapK.i64 ?_ ?_); (focus omega); conv => whnf)
 | (apply in60; rfl; rfl; rfl; intro A; conv => whnf)
 | ((with_reducible refine CallQ.at 27 ?_); refine CallQ.puW (fun ms w hk => made45 (hk.got (by repeat (first | constructor | apply List.Mem.tail)))) ?_; conv => whnf)
 | ((with_reducible refine CallK.at 27 ?_); refine CallK.puW (fun ms w hk => made45 (hk.got (by repeat (first | constructor | apply List.Mem.tail)))) ?_; conv => whnf)
 | ((with_reducible refine QK.id ?_); (refine QK.eqV sok rfl rfl rfl ?_); conv => whnf)
 | ((with_reducible refine IK.id ?_); (refine IK.eqV sok rfl rfl rfl ?_); conv => whnf)
 | ((with_reducible refine CallK.id ?_); (first | refine CallK.fresh (fun ms w' hk => numbered1028 hX (hk.got (by repeat (first | constructor | apply List.Mem.tail))) (n := n) (gs := gs) (by omega) hgs ((Sees.ext (by repeat (first | with_reducible apply At.head | apply At.tail))).rd hk) hXl) ?_ | (refine CallK.delM delOk29 (Sel.cons (by repeat (first | with_reducible apply Rm.head | apply Rm.tail)) (Sel.cons (by repeat (first | with_reducible apply Rm.head | apply Rm.tail)) (Sel.cons (by repeat (first | with_reducible apply Rm.head | apply Rm.tail)) Sel.nil))) hks wf_waitB (enters_of Tryz.func30 (by kernel_rfl) rfl) (fun W h1 h2 z v hv => tickDel1030 h2 h1 z v hv) ?_; rw [keep_wf])); conv => whnf)
 | ((with_reducible apply OpK.more); (focus refine sok); (conv => whnf); fail_if_success guard_target =ₛ False)
 | with_reducible (first | refine Rounds.step (fun KL hL => ?_) | (refine hL _ _ ?_; clear hL KL) | refine r_rounds 100 ?_)
 | ((with_reducible (first | refine InAt.mk (fun K' hK => ?_) | refine AnyAt.mk (fun K' hK => ?_) | (refine hK _ ?_; clear hK K') | (refine hK _ _ ?_; clear hK K'))); conv => whnf)
 | ((refine And.intro ?_ ?_); all_goals (conv => whnf))
 | (apply r_quiet; refine mixed; kernel_rfl; kernel_rfl; kernel_rfl; conv => whnf)
 | ((first | refine if_t (by decide) ?_ | refine if_f (by decide) ?_ | refine if_decT (by omega) ?_ | refine if_decF (by omega) ?_ | refine if_ndecT (by omega) ?_ | refine if_ndecF (by omega) ?_); conv => whnf)
 | ((first | refine if_dec (fun h => ?_) (fun h => ?_) | refine if_ndec (fun h => ?_) (fun h => ?_) | refine if_cond (fun h => ?_) (fun h => ?_)); all_goals (conv => whnf))
 | with_reducible apply_assumption -symm -exfalso)
  rename_i c10 c11 c12 _ _ mi c14 c5 c6
  rename Nat => c7
  have hgt0 := keepG_le hgt
  obtain ⟨g0, hg0⟩ : ∃ g0, keepG X g = g0 := ⟨_, rfl⟩
  rw [hg0] at hgt0 ⊢
  clear hgt hks
  obtain ⟨D, hDd⟩ : ∃ D, X.filter (dueB g0 (tk + 1)) = D := ⟨_, rfl⟩
  have hDa : Asc D := hDd ▸ hX.sublist List.filter_sublist
  have hDX : ∀ y ∈ D, y ∈ X := fun y hy => by rw [← hDd] at hy; exact (List.mem_filter.1 hy).1
  rw [hDd]
  let XX : Nat → Ass := fun q => AssL (.ext 17 (BxA 29 38 9 c5 q ((D.take q).flatMap (mC g0 me n))) :: [.blk 14 c14 [.v (.map (some mi))] 81, .blk 12 c12 [.fn 8 []] 31, .blk 11 c11 [.v (.int .i64 me)] 3, .blk 10 c10 [.loc d 3 0] 25, .ext 9 (SlA 47 6 a X.length cap (X.flatMap OI.cells))])
  let HH : Nat → List Blk := fun q => [.blk 3 d [.v (.int .i64 n), .v (.int .i64 gs), .v (.int .i64 (tk + 1 : Nat)), .v (.map (some mp))] 80, .ext 4 (MpK mp (wf (askG D g0 (tk + 1) q))), .ext 5 (MpK mi (mapOf X)), .ext 9 (XX q)]
  refine r_rangeFuncH (HH := HH) (xs := D.map (dueX g0 (tk + 1))) 100 rfl ?_ (fun A0 yv hyv w => by
    have h := due1056 (X := X) (bth := c7) (bd := c6) (d := d) hX hXl (g0 := g0) (G := askG D g0 (tk + 1)) (t := tk + 1) (n := n) (gs := gs) (mp := mp) (th := mi) (by omega) hgt0 (fun j x hx => by rw [← hDd]; exact askG_at hX hx) XX HH (fun q => rfl) A0 yv (fun q x hx => hyv q (denL x) (by rw [List.getElem?_map, ← hDd, hx]; rfl)) w
    rw [hDd] at h
    rw [List.length_map]
    exact h) (fun x hx => by obtain ⟨y, _, rfl⟩ := List.mem_map.1 hx; rfl) (by decide) ?_ ?_
  · show HSub ([.blk 1 c7 [.v (.map (some mi))] 81, .blk 2 c6 [.loc d 3 0] 25] ++ ([.blk 3 d [.v (.int .i64 n), .v (.int .i64 gs), .v (.int .i64 (tk + 1 : Nat)), .v (.map (some mp))] 80, .ext 4 (MpK mp (wf (askG D g0 (tk + 1) 0))), .ext 5 (MpK mi (mapOf X))] ++ [.ext 9 (XX 0)])) _
    refine HSub.trans ((HSub.refl _).app2 ((HSub.refl _).app2 HSub.join)) ?_
    show HSub (([.blk 1 c7 [.v (.map (some mi))] 81, .blk 2 c6 [.loc d 3 0] 25] ++ [.blk 3 d [.v (.int .i64 n), .v (.int .i64 gs), .v (.int .i64 (tk + 1 : Nat)), .v (.map (some mp))] 80, .ext 4 (MpK mp (wf (askG D g0 (tk + 1) 0))), .ext 5 (MpK mi (mapOf X))]) ++ ([.ext 17 (BxA 29 38 9 c5 0 [])] ++ [.blk 14 c14 [.v (.map (some mi))] 81, .blk 12 c12 [.fn 8 []] 31, .blk 11 c11 [.v (.int .i64 me)] 3, .blk 10 c10 [.loc d 3 0] 25, .ext 9 (SlA 47 6 a X.length cap (X.flatMap OI.cells))])) _
    refine HSub.trans ((HSub.refl _).app2 (HSub.app2 (BxA.nil (i1 := 17)) (HSub.refl _))) ?_
    exact (by (try dsimp only [List.cons_append, List.nil_append, den, denL, ti29]); refine SelI.spec ?_; (repeat (first | refine SelI.blk (by repeat (first | with_reducible apply Rm.head | apply Rm.tail)) ?_ | refine SelI.ext (by repeat (first | with_reducible apply Rm.head | apply Rm.tail)) ?_ | (refine SelI.blk' (by repeat (first | with_reducible apply Rm.head | apply Rm.tail)) ?_ ?_; focus rfl) | (refine SelI.ext' (by repeat (first | with_reducible apply Rm.head | apply Rm.tail)) ?_ ?_; focus rfl))); exact SelI.nil)
  · intro i x hx lp rc W' S'
    rw [List.getElem?_map, Option.map_eq_some_iff] at hx
    obtain ⟨y, hy, rfl⟩ := hx
    have hyX := hDX y (List.mem_of_getElem? hy)
    have hil : i < D.length := (List.getElem?_eq_some_iff.1 hy).1
    have hDl : D.length ≤ X.length := hDd ▸ List.length_filter_le _ _
    have hal := asked_le hgt0 hyX
    have hmz := mapOf_in hX hyX
    have hg12 := OI.g2 y
    obtain ⟨kd, key, dl, fr, data, hC⟩ := cmdOf y
    refine Run.lax ?_
    show Run _ _ _ (.ext 100 (lrA lp rc) :: [.blk 3 d [.v (.int .i64 n), .v (.int .i64 gs), .v (.int .i64 (tk + 1 : Nat)), .v (.map (some mp))] 80, .ext 4 (MpK mp (wf (askG D g0 (tk + 1) i))), .ext 5 (MpK mi (mapOf X)), .ext 9 (XX i)]) _
    conv => whnf
    repeat' (first
 | with_reducible (first | refine r_seq (fun KS hS => ?_) | (refine hS _ _ ?_; clear hS KS) | (refine hA _ ?_; clear hA KA) | (refine hB _ ?_; clear hB KB) | refine r_block ?_)
 | ((with_reducible (first | refine r_region ?_ | refine r_cond (fun KA hA KB hB => ?_) | refine r_ret ?_ | refine r_skip ?_ | refine r_exit ?_ | refine And.intro rfl ?_ | intro b)); conv => whnf)
 | ((with_reducible refine WrapK.i64 ?_ ?_); (focus omega); conv => whnf)
 | ((with_reducible apply OpK.more); (focus refine sok); (conv => whnf); fail_if_success guard_target =ₛ False)
 | ((with_reducible (first | refine InAt.mk (fun K' hK => ?_) | refine AnyAt.mk (fun K' hK => ?_) | (refine hK _ ?_; clear hK K') | (refine hK _ _ ?_; clear hK K'))); conv => whnf)
 | ((refine And.intro ?_ ?_); all_goals (conv => whnf))
 | (apply r_quiet; refine mixed; kernel_rfl; kernel_rfl; kernel_rfl; conv => whnf)
 | ((first | refine if_t (by decide) ?_ | refine if_f (by decide) ?_ | refine if_decT (by omega) ?_ | refine if_decF (by omega) ?_ | refine if_ndecT (by omega) ?_ | refine if_ndecF (by omega) ?_); conv => whnf)
 | ((first | refine if_dec (fun h => ?_) (fun h => ?_) | refine if_ndec (fun h => ?_) (fun h => ?_) | refine if_cond (fun h => ?_) (fun h => ?_)); all_goals (conv => whnf))
 | with_reducible apply_assumption -symm -exfalso)
    refine ⟨_, HSub.perm (List.Perm.swap _ _ _), _, rfl, ?_⟩
    refine r_block ?_
    refine Run.hsub (HSub.perm (List.Perm.swap _ _ _)) ?_
    show Run _ _ _ ([.blk 101 b [.v (.int .i64 (askedN g0 y)), .v (.int .i64 (lastN g0 y))] 85, .ext 100 (lrA lp { rc with state := .busy }), .blk 3 d [.v (.int .i64 n), .v (.int .i64 gs), .v (.int .i64 (tk + 1 : Nat)), .v (.map (some mp))] 80, .ext 4 (MpK mp (wf (askG D g0 (tk + 1) i))), .ext 5 (MpK mi (mapOf X))] ++ [.ext 9 (XX i)]) _
    refine Run.hsub ((HSub.refl _).app2 HSub.unjoin) ?_
    refine Run.open (α := Option Addr × Nat) (A := []) (B := []) (fun z => [.blk 101 b [.v (.int .i64 (askedN g0 y)), .v (.int .i64 (lastN g0 y))] 85, .ext 100 (lrA lp { rc with state := .busy }), .blk 3 d [.v (.int .i64 n), .v (.int .i64 gs), .v (.int .i64 (tk + 1 : Nat)), .v (.map (some mp))] 80, .ext 4 (MpK mp (wf (askG D g0 (tk + 1) i))), .ext 5 (MpK mi (mapOf X)), .blk 5 c5 [.v (.slice z.1 i z.2)] 29, .ext 16 (SlA 38 9 z.1 i z.2 ((D.take i).flatMap (mC g0 me n)))] ++ [.blk 14 c14 [.v (.map (some mi))] 81, .blk 12 c12 [.fn 8 []] 31, .blk 11 c11 [.v (.int .i64 me)] 3, .blk 10 c10 [.loc d 3 0] 25, .ext 9 (SlA 47 6 a X.length cap (X.flatMap OI.cells))]) (fun w S h => BxA.openI 5 16 (X := [_, _, _, _, _]) (Y := [.blk 14 c14 [.v (.map (some mi))] 81, .blk 12 c12 [.fn 8 []] 31, .blk 11 c11 [.v (.int .i64 me)] 3, .blk 10 c10 [.loc d 3 0] 25, .ext 9 (SlA 47 6 a X.length cap (X.flatMap OI.cells))]) h) ?_
    rintro ⟨a1, cap1⟩
    dsimp only [List.cons_append, List.nil_append]
    repeat' (first
 | with_reducible (first | refine r_seq (fun KS hS => ?_) | (refine hS _ _ ?_; clear hS KS) | (refine hA _ ?_; clear hA KA) | (refine hB _ ?_; clear hB KB) | refine r_block ?_)
 | ((with_reducible (first | refine r_region ?_ | refine r_cond (fun KA hA KB hB => ?_) | refine r_ret ?_ | refine r_skip ?_ | refine r_exit ?_ | refine And.intro rfl ?_ | intro b)); conv => whnf)
 | ((with_reducible refine WrapK.i64 ?_ ?_); (focus omega); conv => whnf)
 | ((with_reducible refine QK.id ?_); refine QK.bld rfl ?_; conv => whnf)
 | ((with_reducible refine CallK.id ?_); (first | refine CallK.pu (fun w => hC.every w) ?_ | refine CallK.pu (fun w => hC.fits w) ?_ | refine CallK.fresh (fun ms w hk => hC.encode w) ?_); conv => whnf)
 | ((with_reducible refine CallK.at 33 ?_); refine CallK.puW (fun ms w hk => target20 (hk.got (by repeat (first | constructor | apply List.Mem.tail))) (OI.itemOk y) (n := n) (gs := gs) (by omega) (by omega) (by omega)) ?_; conv => whnf)
 | ((with_reducible refine OpK.id ?_); (first | refine OpK.lkMs rfl rfl rfl rfl rfl rfl rfl rfl (SeesM.ext (by repeat (first | with_reducible apply At.head | apply At.tail))) hmz ?_ | refine OpK.cvBS' rfl rfl rfl rfl rfl rfl rfl rfl (Sees.ext (by repeat (first | with_reducible apply At.head | apply At.tail))) rfl ?_ | refine OpK.app (k := 9) rfl rfl rfl rfl rfl rfl rfl rfl (by repeat (first | with_reducible apply At.head | apply At.tail)) (SrcK.slc rfl rfl (by repeat (first | constructor | apply List.Mem.tail)) (Nat.le_refl _) rfl) (big_ok (by omega) (by decide)) (fun a2 cap2 => ?_)); conv => whnf)
 | (apply r_split 13 (id := 16); refine mixed; kernel_rfl; kernel_rfl; kernel_rfl; intro K' hK; conv => whnf)
 | ((with_reducible refine OpK.id ?_); refine OpK.upK rfl rfl rfl rfl rfl rfl rfl rfl (by repeat (first | with_reducible apply At.head | apply At.tail)) (OI.zok y) ?_; rw [askG_stepD hDa hy]; conv => whnf)
 | ((with_reducible apply OpK.more); (focus refine sok); (conv => whnf); fail_if_success guard_target =ₛ False)
 | ((with_reducible (first | refine InAt.mk (fun K' hK => ?_) | refine AnyAt.mk (fun K' hK => ?_) | (refine hK _ ?_; clear hK K') | (refine hK _ _ ?_; clear hK K'))); conv => whnf)
 | ((refine And.intro ?_ ?_); all_goals (conv => whnf))
 | (apply r_quiet; refine mixed; kernel_rfl; kernel_rfl; kernel_rfl; conv => whnf)
 | ((first | refine if_t (by decide) ?_ | refine if_f (by decide) ?_ | refine if_decT (by omega) ?_ | refine if_decF (by omega) ?_ | refine if_ndecT (by omega) ?_ | refine if_ndecF (by omega) ?_); conv => whnf)
 | ((first | refine if_dec (fun h => ?_) (fun h => ?_) | refine if_ndec (fun h => ?_) (fun h => ?_) | refine if_cond (fun h => ?_) (fun h => ?_)); all_goals (conv => whnf))
 | with_reducible apply_assumption -symm -exfalso)
    refine ⟨?_⟩
    show HSub ([.ext 100 (lrA lp { rc with state := .busy }), .blk 3 d [.v (.int .i64 n), .v (.int .i64 gs), .v (.int .i64 (tk + 1 : Nat)), .v (.map (some mp))] 80, .ext 4 (MpK mp (wf (askG D g0 (tk + 1) (i + 1)))), .ext 5 (MpK mi (mapOf X))] ++ [.ext 9 (XX (i + 1))]) _
    refine HSub.trans ((HSub.refl _).app2 HSub.join) ?_
    show HSub ([.ext 100 (lrA lp { rc with state := .busy }), .blk 3 d [.v (.int .i64 n), .v (.int .i64 gs), .v (.int .i64 (tk + 1 : Nat)), .v (.map (some mp))] 80, .ext 4 (MpK mp (wf (askG D g0 (tk + 1) (i + 1)))), .ext 5 (MpK mi (mapOf X))] ++ ([.ext 17 (BxA 29 38 9 c5 (i + 1) ((D.take (i + 1)).flatMap (mC g0 me n)))] ++ [.blk 14 c14 [.v (.map (some mi))] 81, .blk 12 c12 [.fn 8 []] 31, .blk 11 c11 [.v (.int .i64 me)] 3, .blk 10 c10 [.loc d 3 0] 25, .ext 9 (SlA 47 6 a X.length cap (X.flatMap OI.cells))])) _
    refine HSub.trans ((HSub.refl _).app2 (HSub.app2 (BxA.close (a := a2) (cap := cap2) (i1 := 5) (i2 := 16)) (HSub.refl _))) ?_
    rw [take_flat hy]
    exact (by (try dsimp only [List.cons_append, List.nil_append, den, denL]); refine SelI.spec ?_; (repeat (first | refine SelI.blk (by repeat (first | with_reducible apply Rm.head | apply Rm.tail)) ?_ | refine SelI.ext (by repeat (first | with_reducible apply Rm.head | apply Rm.tail)) ?_ | (refine SelI.blk' (by repeat (first | with_reducible apply Rm.head | apply Rm.tail)) ?_ ?_; focus rfl) | (refine SelI.ext' (by repeat (first | with_reducible apply Rm.head | apply Rm.tail)) ?_ ?_; focus rfl))); exact SelI.nil)
  · refine hS _ _ ?_
    clear hS KS
    rw [List.length_map]
    show Run _ _ _ ([.blk 1 c7 [.v (.map (some mi))] 81, .blk 2 c6 [.loc d 3 0] 25, .blk 3 d [.v (.int .i64 n), .v (.int .i64 gs), .v (.int .i64 (tk + 1 : Nat)), .v (.map (some mp))] 80, .ext 4 (MpK mp (wf (askG D g0 (tk + 1) D.length))), .ext 5 (MpK mi (mapOf X))] ++ [.ext 9 (XX D.length)]) _
    refine Run.hsub ((HSub.refl _).app2 HSub.unjoin) ?_
    refine Run.open (α := Option Addr × Nat) (A := []) (B := []) (fun z => [.blk 1 c7 [.v (.map (some mi))] 81, .blk 2 c6 [.loc d 3 0] 25, .blk 3 d [.v (.int .i64 n), .v (.int .i64 gs), .v (.int .i64 (tk + 1 : Nat)), .v (.map (some mp))] 80, .ext 4 (MpK mp (wf (askG D g0 (tk + 1) D.length))), .ext 5 (MpK mi (mapOf X)), .blk 5 c5 [.v (.slice z.1 D.length z.2)] 29, .ext 16 (SlA 38 9 z.1 D.length z.2 ((D.take D.length).flatMap (mC g0 me n)))] ++ [.blk 14 c14 [.v (.map (some mi))] 81, .blk 12 c12 [.fn 8 []] 31, .blk 11 c11 [.v (.int .i64 me)] 3, .blk 10 c10 [.loc d 3 0] 25, .ext 9 (SlA 47 6 a X.length cap (X.flatMap OI.cells))]) (fun w S h => BxA.openI 5 16 (X := [_, _, _, _, _]) (Y := [.blk 14 c14 [.v (.map (some mi))] 81, .blk 12 c12 [.fn 8 []] 31, .blk 11 c11 [.v (.int .i64 me)] 3, .blk 10 c10 [.loc d 3 0] 25, .ext 9 (SlA 47 6 a X.length cap (X.flatMap OI.cells))]) h) ?_
    rintro ⟨a1, cap1⟩
    dsimp only [List.cons_append, List.nil_append]
    rw [List.take_length]
    repeat' (first
 | with_reducible (first | refine r_seq (fun KS hS => ?_) | (refine hS _ _ ?_; clear hS KS) | (refine hA _ ?_; clear hA KA) | (refine hB _ ?_; clear hB KB) | refine r_block ?_)
 | ((with_reducible (first | refine r_region ?_ | refine r_cond (fun KA hA KB hB => ?_) | refine r_ret ?_ | refine r_skip ?_ | refine r_exit ?_ | refine And.intro rfl ?_ | intro b)); conv => whnf)
 | ((with_reducible refine WrapK.i64 ?_ ?_); (focus omega); conv => whnf)
 | ((with_reducible apply OpK.more); (focus refine sok); (conv => whnf); fail_if_success guard_target =ₛ False)
 | ((with_reducible (first | refine InAt.mk (fun K' hK => ?_) | refine AnyAt.mk (fun K' hK => ?_) | (refine hK _ ?_; clear hK K') | (refine hK _ _ ?_; clear hK K'))); conv => whnf)
 | ((refine And.intro ?_ ?_); all_goals (conv => whnf))
 | (apply r_quiet; refine mixed; kernel_rfl; kernel_rfl; kernel_rfl; conv => whnf)
 | ((first | refine if_t (by decide) ?_ | refine if_f (by decide) ?_ | refine if_decT (by omega) ?_ | refine if_decF (by omega) ?_ | refine if_ndecT (by omega) ?_ | refine if_ndecF (by omega) ?_); conv => whnf)
 | ((first | refine if_dec (fun h => ?_) (fun h => ?_) | refine if_ndec (fun h => ?_) (fun h => ?_) | refine if_cond (fun h => ?_) (fun h => ?_)); all_goals (conv => whnf))
 | with_reducible apply_assumption -symm -exfalso)
    subst hDd
    subst hg0
    exact FinK.frZL (a1, cap1) rfl (by (try dsimp only [List.cons_append, List.nil_append, den, denL]); refine SelI.spec ?_; (repeat (first | refine SelI.blk (by repeat (first | with_reducible apply Rm.head | apply Rm.tail)) ?_ | refine SelI.ext (by repeat (first | with_reducible apply Rm.head | apply Rm.tail)) ?_ | (refine SelI.blk' (by repeat (first | with_reducible apply Rm.head | apply Rm.tail)) ?_ ?_; focus rfl) | (refine SelI.ext' (by repeat (first | with_reducible apply Rm.head | apply Rm.tail)) ?_ ?_; focus rfl))); exact SelI.nil)
end Go.Proofs.YthmjkaljkgjicaaGreatDoor

set_option linter.all false
namespace Go.X
open Go
/-- a message of the drivers -/
structure MV where
  a0 : Int
  a1 : Int
  a2 : Int
  a6 : Int
  s : ByteArray
def MV.cells (m : MV) : List Value := [.int .i64 m.a0, .int .i64 m.a1, .int .i64 m.a2, .int .i64 0, .int .i64 0, .int .i64 0, .int .i64 m.a6, .string m.s, .slice none 0 0]
abbrev mc (m : MV) : List SV := [.v (.int .i64 m.a0), .v (.int .i64 m.a1), .v (.int .i64 m.a2), .v (.int .i64 0), .v (.int .i64 0), .v (.int .i64 0), .v (.int .i64 m.a6), .v (.string m.s), .v (.slice none 0 0)]
theorem flat_msg : ∀ (L : List MV) (i : Nat) (x : MV), L[i]? = some x → ((L.flatMap MV.cells).drop (i * 9)).take 9 = x.cells
  | [], _, _, h => by simp at h
  | y :: l, 0, x, h => by
    have : y = x := by simpa using h
    subst this
    rfl
  | y :: l, i + 1, x, h => by
    rw [List.flatMap_cons, show (i + 1) * 9 = y.cells.length + i * 9 by show _ = 9 + i * 9; omega, List.drop_append]
    simp only [Nat.add_sub_cancel_left]
    rw [List.drop_of_length_le (by omega), List.nil_append]
    exact flat_msg l i x (by simpa using h)
theorem at_msg {L : List MV} {i : Nat} {x : MV} (h : L[i]? = some x) : ((L.flatMap MV.cells).drop ((i : Int).toNat * 9)).take 9 = denL (mc x) := flat_msg L i x h
theorem at_int {L : List Int} {j : Nat} {z : Int} (h : L[j]? = some z) : ((L.map (Value.int .i64)).drop ((j : Int).toNat * 1)).take 1 = denL [.v (.int .i64 z)] := by
  have hlt := (List.getElem?_eq_some_iff.1 h).1
  have hx := (List.getElem?_eq_some_iff.1 h).2
  rw [Nat.mul_one, Int.toNat_natCast, ← List.map_drop, ← List.map_take, List.drop_eq_getElem_cons hlt]
  simp [hx, denL, den]
end Go.X
namespace Go.Proofs.YthmjkaljkgjicaaGreatDoor
open Go Go.X
set_option maxRecDepth 100000
set_option maxHeartbeats 0
noncomputable def mV (g : WG) (me n : Nat) (x : OI) : MV := ⟨10, me, (x.1.g : Int) * n + (askedN g x : Int) % n, x.num, ⟨(encOf x).toArray⟩⟩
theorem mC_flat (g : WG) (me n : Nat) (D : List OI) : D.flatMap (mC g me n) = (D.map (mV g me n)).flatMap MV.cells := by
  rw [List.flatMap_map]; rfl
theorem eqMsgs1015 {L : List MV} {a a' : Option Addr} {cap cap' : Nat} {w : World} (hr : RdS w 38 9 a L.length cap (L.flatMap MV.cells)) (hr' : RdS w 38 9 a' L.length cap' (L.flatMap MV.cells)) (hl : L.length ≤ 1000) :
    Pu Tryz.prog 15 #[.slice a L.length cap, .slice a' L.length cap', .func (.func 16) #[] #[]] w (.bool true) := by
  have sa := fun n' r H => Sees.old (c := ⟨Tryz.prog, TB, n', w, noS, r, TBok⟩) (H := H) hr.old
  have sb := fun n' r H => Sees.old (c := ⟨Tryz.prog, TB, n', w, noS, r, TBok⟩) (H := H) hr'.old
  refine enter_sound TBok Tryz.func15 rfl rfl Tryz.ntmps15 [.v (.slice a L.length cap), .v (.slice a' L.length cap'), .fn 16 []] (Kn.start w noS) rfl rfl ?_
  conv => whnf
  repeat' (first
 | with_reducible (first | refine r_seq (fun KS hS => ?_) | (refine hS _ _ ?_; clear hS KS) | (refine hA _ ?_; clear hA KA) | (refine hB _ ?_; clear hB KB) | refine r_block ?_)
 | ((with_reducible (first | refine r_region ?_ | refine r_cond (fun KA hA KB hB => ?_) | refine r_ret ?_ | refine r_skip ?_ | refine r_exit ?_ | refine And.intro rfl ?_ | intro b)); conv => whnf)
 | ((with_reducible refine WrapK.i64 ?_ ?_); (focus omega); conv => whnf)
 | ((with_reducible apply OpK.more); (focus refine sok); (conv => whnf); fail_if_success guard_target =ₛ False)
 | ((with_reducible (first | refine InAt.mk (fun K' hK => ?_) | refine AnyAt.mk (fun K' hK => ?_) | (refine hK _ ?_; clear hK K') | (refine hK _ _ ?_; clear hK K'))); conv => whnf)
 | ((refine And.intro ?_ ?_); all_goals (conv => whnf))
 | (apply r_quiet; refine mixed; kernel_rfl; kernel_rfl; kernel_rfl; conv => whnf)
 | ((first | refine if_t (by decide) ?_ | refine if_f (by decide) ?_ | refine if_decT (by omega) ?_ | refine if_decF (by omega) ?_ | refine if_ndecT (by omega) ?_ | refine if_ndecF (by omega) ?_); conv => whnf)
 | ((first | refine if_dec (fun h => ?_) (fun h => ?_) | refine if_ndec (fun h => ?_) (fun h => ?_) | refine if_cond (fun h => ?_) (fun h => ?_)); all_goals (conv => whnf))
 | with_reducible apply_assumption -symm -exfalso)
  refine r_loop (α := Nat) (fun i => [(17, .v (.int .i64 (i : Nat))), (16, .v (.int .i64 L.length)), (15, .v (.slice a L.length cap)), (1, .v (.slice a' L.length cap')), (2, .fn 16 [])]) (fun _ => []) (fun i => i ≤ L.length) (fun i => L.length - i) 0 (Nat.zero_le _) (by repeat' (first | exact Sub.nil | (refine Sub.cons rfl rfl ?_))) (HSub.none _) ?_
  intro i hi KL hL
  by_cases hlt : i < L.length
  · obtain ⟨y, hy⟩ : ∃ y, L[i]? = some y := ⟨_, List.getElem?_eq_getElem hlt⟩
    repeat' (first
 | with_reducible (first | refine r_seq (fun KS hS => ?_) | (refine hS _ _ ?_; clear hS KS) | (refine hA _ ?_; clear hA KA) | (refine hB _ ?_; clear hB KB) | refine r_block ?_)
 | ((with_reducible (first | refine r_region ?_ | refine r_cond (fun KA hA KB hB => ?_) | refine r_ret ?_ | refine r_skip ?_ | refine r_exit ?_ | refine And.intro rfl ?_ | intro b)); conv => whnf)
 | ((with_reducible refine WrapK.i64 ?_ ?_); (focus omega); conv => whnf)
 | ((with_reducible refine OpK.id ?_); (first | refine OpK.idx (k := 9) rfl rfl rfl rfl rfl rfl rfl (sa _ _ _) (by omega) (by omega) (at_msg hy) (fun b off hp => ?_) | refine OpK.idx (k := 9) rfl rfl rfl rfl rfl rfl rfl (sb _ _ _) (by omega) (by omega) (at_msg hy) (fun b off hp => ?_) | refine OpK.ldp rfl rfl hp (List.cons_ne_nil _ _) ?_); conv => whnf)
 | ((with_reducible refine CallK.at 16 ?_); refine CallK.pu (fun w => eqMsg30 w) ?_; conv => whnf)
 | (refine hL (i + 1) _ _ (by show i + 1 ≤ _; omega) (by show L.length - (i + 1) < L.length - i; omega) (by repeat' (first | exact Sub.nil | (refine Sub.cons rfl rfl ?_))) (HSub.none _))
 | ((with_reducible apply OpK.more); (focus refine sok); (conv => whnf); fail_if_success guard_target =ₛ False)
 | ((with_reducible (first | refine InAt.mk (fun K' hK => ?_) | refine AnyAt.mk (fun K' hK => ?_) | (refine hK _ ?_; clear hK K') | (refine hK _ _ ?_; clear hK K'))); conv => whnf)
 | ((refine And.intro ?_ ?_); all_goals (conv => whnf))
 | (apply r_quiet; refine mixed; kernel_rfl; kernel_rfl; kernel_rfl; conv => whnf)
 | ((first | refine if_t (by decide) ?_ | refine if_f (by decide) ?_ | refine if_decT (by omega) ?_ | refine if_decF (by omega) ?_ | refine if_ndecT (by omega) ?_ | refine if_ndecF (by omega) ?_); conv => whnf)
 | ((first | refine if_dec (fun h => ?_) (fun h => ?_) | refine if_ndec (fun h => ?_) (fun h => ?_) | refine if_cond (fun h => ?_) (fun h => ?_)); all_goals (conv => whnf))
 | with_reducible apply_assumption -symm -exfalso)
  · obtain rfl : i = L.length := by omega
    repeat' (first
 | with_reducible (first | refine r_seq (fun KS hS => ?_) | (refine hS _ _ ?_; clear hS KS) | (refine hA _ ?_; clear hA KA) | (refine hB _ ?_; clear hB KB) | refine r_block ?_)
 | ((with_reducible (first | refine r_region ?_ | refine r_cond (fun KA hA KB hB => ?_) | refine r_ret ?_ | refine r_skip ?_ | refine r_exit ?_ | refine And.intro rfl ?_ | intro b)); conv => whnf)
 | ((with_reducible refine WrapK.i64 ?_ ?_); (focus omega); conv => whnf)
 | ((with_reducible apply OpK.more); (focus refine sok); (conv => whnf); fail_if_success guard_target =ₛ False)
 | ((with_reducible (first | refine InAt.mk (fun K' hK => ?_) | refine AnyAt.mk (fun K' hK => ?_) | (refine hK _ ?_; clear hK K') | (refine hK _ _ ?_; clear hK K'))); conv => whnf)
 | ((refine And.intro ?_ ?_); all_goals (conv => whnf))
 | (apply r_quiet; refine mixed; kernel_rfl; kernel_rfl; kernel_rfl; conv => whnf)
 | ((first | refine if_t (by decide) ?_ | refine if_f (by decide) ?_ | refine if_decT (by omega) ?_ | refine if_decF (by omega) ?_ | refine if_ndecT (by omega) ?_ | refine if_ndecF (by omega) ?_); conv => whnf)
 | ((first | refine if_dec (fun h => ?_) (fun h => ?_) | refine if_ndec (fun h => ?_) (fun h => ?_) | refine if_cond (fun h => ?_) (fun h => ?_)); all_goals (conv => whnf))
 | with_reducible apply_assumption -symm -exfalso)
    exact FinK.pu rfl
theorem eqInts1013 {L : List Int} {a a' : Option Addr} {cap cap' : Nat} {w : World} (hr : RdS w 3 1 a L.length cap (L.map (Value.int .i64))) (hr' : RdS w 3 1 a' L.length cap' (L.map (Value.int .i64))) (hl : L.length ≤ 1000) :
    Pu Tryz.prog 13 #[.slice a L.length cap, .slice a' L.length cap'] w (.bool true) := by
  have sa := fun n' r H => Sees.old (c := ⟨Tryz.prog, TB, n', w, noS, r, TBok⟩) (H := H) hr.old
  have sb := fun n' r H => Sees.old (c := ⟨Tryz.prog, TB, n', w, noS, r, TBok⟩) (H := H) hr'.old
  refine enter_sound TBok Tryz.func13 rfl rfl Tryz.ntmps13 [.v (.slice a L.length cap), .v (.slice a' L.length cap')] (Kn.start w noS) rfl rfl ?_
  conv => whnf
  repeat' (first
 | with_reducible (first | refine r_seq (fun KS hS => ?_) | (refine hS _ _ ?_; clear hS KS) | (refine hA _ ?_; clear hA KA) | (refine hB _ ?_; clear hB KB) | refine r_block ?_)
 | ((with_reducible (first | refine r_region ?_ | refine r_cond (fun KA hA KB hB => ?_) | refine r_ret ?_ | refine r_skip ?_ | refine r_exit ?_ | refine And.intro rfl ?_ | intro b)); conv => whnf)
 | ((with_reducible refine WrapK.i64 ?_ ?_); (focus omega); conv => whnf)
 | ((with_reducible apply OpK.more); (focus refine sok); (conv => whnf); fail_if_success guard_target =ₛ False)
 | ((with_reducible (first | refine InAt.mk (fun K' hK => ?_) | refine AnyAt.mk (fun K' hK => ?_) | (refine hK _ ?_; clear hK K') | (refine hK _ _ ?_; clear hK K'))); conv => whnf)
 | ((refine And.intro ?_ ?_); all_goals (conv => whnf))
 | (apply r_quiet; refine mixed; kernel_rfl; kernel_rfl; kernel_rfl; conv => whnf)
 | ((first | refine if_t (by decide) ?_ | refine if_f (by decide) ?_ | refine if_decT (by omega) ?_ | refine if_decF (by omega) ?_ | refine if_ndecT (by omega) ?_ | refine if_ndecF (by omega) ?_); conv => whnf)
 | ((first | refine if_dec (fun h => ?_) (fun h => ?_) | refine if_ndec (fun h => ?_) (fun h => ?_) | refine if_cond (fun h => ?_) (fun h => ?_)); all_goals (conv => whnf))
 | with_reducible apply_assumption -symm -exfalso)
  refine r_loop (α := Nat) (fun i => [(13, .v (.int .i64 (i : Nat))), (12, .v (.int .i64 L.length)), (0, .v (.slice a L.length cap)), (1, .v (.slice a' L.length cap'))]) (fun _ => []) (fun i => i ≤ L.length) (fun i => L.length - i) 0 (Nat.zero_le _) (by repeat' (first | exact Sub.nil | (refine Sub.cons rfl rfl ?_))) (HSub.none _) ?_
  intro i hi KL hL
  by_cases hlt : i < L.length
  · obtain ⟨y, hy⟩ : ∃ y, L[i]? = some y := ⟨_, List.getElem?_eq_getElem hlt⟩
    repeat' (first
 | with_reducible (first | refine r_seq (fun KS hS => ?_) | (refine hS _ _ ?_; clear hS KS) | (refine hA _ ?_; clear hA KA) | (refine hB _ ?_; clear hB KB) | refine r_block ?_)
 | ((with_reducible (first | refine r_region ?_ | refine r_cond (fun KA hA KB hB => ?_) | refine r_ret ?_ | refine r_skip ?_ | refine r_exit ?_ | refine And.intro rfl ?_ | intro b)); conv => whnf)
 | ((with_reducible refine WrapK.i64 ?_ ?_); (focus omega); conv => whnf)
 | ((with_reducible refine QK.id ?_); (first | refine QK.idx (k := 1) rfl rfl rfl rfl rfl rfl rfl (sa _ _ _) (by omega) (by omega) (at_int hy) (fun b off hp => ?_) | refine QK.idx (k := 1) rfl rfl rfl rfl rfl rfl rfl (sb _ _ _) (by omega) (by omega) (at_int hy) (fun b off hp => ?_) | refine QK.ldp rfl rfl hp (List.cons_ne_nil _ _) ?_); conv => whnf)
 | (refine hL (i + 1) _ _ (by show i + 1 ≤ _; omega) (by show L.length - (i + 1) < L.length - i; omega) (by repeat' (first | exact Sub.nil | (refine Sub.cons rfl rfl ?_))) (HSub.none _))
 | ((with_reducible apply OpK.more); (focus refine sok); (conv => whnf); fail_if_success guard_target =ₛ False)
 | ((with_reducible (first | refine InAt.mk (fun K' hK => ?_) | refine AnyAt.mk (fun K' hK => ?_) | (refine hK _ ?_; clear hK K') | (refine hK _ _ ?_; clear hK K'))); conv => whnf)
 | ((refine And.intro ?_ ?_); all_goals (conv => whnf))
 | (apply r_quiet; refine mixed; kernel_rfl; kernel_rfl; kernel_rfl; conv => whnf)
 | ((first | refine if_t (by decide) ?_ | refine if_f (by decide) ?_ | refine if_decT (by omega) ?_ | refine if_decF (by omega) ?_ | refine if_ndecT (by omega) ?_ | refine if_ndecF (by omega) ?_); conv => whnf)
 | ((first | refine if_dec (fun h => ?_) (fun h => ?_) | refine if_ndec (fun h => ?_) (fun h => ?_) | refine if_cond (fun h => ?_) (fun h => ?_)); all_goals (conv => whnf))
 | with_reducible apply_assumption -symm -exfalso)
  · obtain rfl : i = L.length := by omega
    repeat' (first
 | with_reducible (first | refine r_seq (fun KS hS => ?_) | (refine hS _ _ ?_; clear hS KS) | (refine hA _ ?_; clear hA KA) | (refine hB _ ?_; clear hB KB) | refine r_block ?_)
 | ((with_reducible (first | refine r_region ?_ | refine r_cond (fun KA hA KB hB => ?_) | refine r_ret ?_ | refine r_skip ?_ | refine r_exit ?_ | refine And.intro rfl ?_ | intro b)); conv => whnf)
 | ((with_reducible refine WrapK.i64 ?_ ?_); (focus omega); conv => whnf)
 | ((with_reducible apply OpK.more); (focus refine sok); (conv => whnf); fail_if_success guard_target =ₛ False)
 | ((with_reducible (first | refine InAt.mk (fun K' hK => ?_) | refine AnyAt.mk (fun K' hK => ?_) | (refine hK _ ?_; clear hK K') | (refine hK _ _ ?_; clear hK K'))); conv => whnf)
 | ((refine And.intro ?_ ?_); all_goals (conv => whnf))
 | (apply r_quiet; refine mixed; kernel_rfl; kernel_rfl; kernel_rfl; conv => whnf)
 | ((first | refine if_t (by decide) ?_ | refine if_f (by decide) ?_ | refine if_decT (by omega) ?_ | refine if_decF (by omega) ?_ | refine if_ndecT (by omega) ?_ | refine if_ndecF (by omega) ?_); conv => whnf)
 | ((first | refine if_dec (fun h => ?_) (fun h => ?_) | refine if_ndec (fun h => ?_) (fun h => ?_) | refine if_cond (fun h => ?_) (fun h => ?_)); all_goals (conv => whnf))
 | with_reducible apply_assumption -symm -exfalso)
    exact FinK.pu rfl
end Go.Proofs.YthmjkaljkgjicaaGreatDoor

set_option linter.all false
namespace Go.X
open Go
def Dom (X : List OI) (g : WG) : Prop := ∀ z v, g z = some v → ∃ x ∈ X, (x.num : Int) = z
/-- what holds ahead of tick T -/
structure RInv (X : List OI) (T : Nat) (g : WG) (h : Int → Option Nat) : Prop where
  dom : Dom X g
  rel : ∀ x ∈ X, (g x.num = none ∧ h x.num = none) ∨ ∃ a l f, g x.num = some (a, l) ∧ h x.num = some f ∧ 1 ≤ f ∧ 1 ≤ a ∧ l = f + 4 * (a - 1) ∧ l < T ∧ T ≤ l + 4
theorem RInv.init (X : List OI) : RInv X 1 (fun _ => none) (fun _ => none) := ⟨fun _ _ h => (by cases h), fun _ _ => .inl ⟨rfl, rfl⟩⟩
theorem mapOf_isSome {X : List OI} {z : Int} : (mapOf X z).isSome = true ↔ ∃ x ∈ X, (x.num : Int) = z := by
  constructor
  · intro h
    obtain ⟨v, hv⟩ := Option.isSome_iff_exists.1 h
    obtain ⟨x, h1, h2, _⟩ := mapOf_some hv
    exact ⟨x, h1, h2⟩
  · rintro ⟨x, h1, h2⟩
    unfold mapOf
    rw [Option.isSome_map, List.find?_isSome]
    exact ⟨x, h1, by simpa using h2⟩
theorem keepG_in {X : List OI} {g : WG} {x : OI} (h : x ∈ X) : keepG X g x.num = g x.num := by
  unfold keepG
  rw [if_pos (mapOf_isSome.2 ⟨x, h, rfl⟩)]
theorem keepG_out {X : List OI} {g : WG} {z : Int} (h : ∀ x ∈ X, (x.num : Int) ≠ z) : keepG X g z = none := by
  unfold keepG
  rw [if_neg]
  rw [mapOf_isSome]
  rintro ⟨x, h1, h2⟩
  exact h x h1 h2
theorem erase_mem {X : List OI} (hX : Asc X) {k : Nat} {x : OI} (hx : X[k]? = some x) {y : OI} : y ∈ X.eraseIdx k ↔ y ∈ X ∧ y ≠ x := by
  rw [List.mem_eraseIdx_iff_getElem?]
  constructor
  · rintro ⟨i, hi, h⟩
    refine ⟨List.mem_of_getElem? h, ?_⟩
    rintro rfl
    rcases Nat.lt_or_ge i k with h1 | h1
    · have := hX.at h hx h1; omega
    · have := hX.at hx h (by omega); omega
  · rintro ⟨h1, h2⟩
    obtain ⟨i, hi⟩ := List.mem_iff_getElem?.1 h1
    refine ⟨i, ?_, hi⟩
    rintro rfl
    rw [hi] at hx
    exact h2 (by simpa using hx)
/-- the items that are there now, and when they came -/
def NowOk (X Y : List OI) (h h1 : Int → Option Nat) : Prop :=
  (Y = X ∧ h1 = h) ∨ ∃ k x, X[k]? = some x ∧ Y = X.eraseIdx k ∧ h1 = fun z => if z = (x.num : Int) then none else h z
theorem NowOk.sub {X Y : List OI} {h h1} (hn : NowOk X Y h h1) : ∀ y ∈ Y, y ∈ X := by
  rcases hn with ⟨rfl, _⟩ | ⟨k, x, hx, rfl, _⟩
  · exact fun _ h => h
  · exact fun y hy => (List.eraseIdx_sublist X k).subset hy
theorem NowOk.asc {X Y : List OI} {h h1} (hX : Asc X) (hn : NowOk X Y h h1) : Asc Y := by
  rcases hn with ⟨rfl, _⟩ | ⟨k, x, hx, rfl, _⟩
  · exact hX
  · exact hX.sublist (List.eraseIdx_sublist X k)
theorem NowOk.len {X Y : List OI} {h h1} (hn : NowOk X Y h h1) : Y.length ≤ X.length := by
  rcases hn with ⟨rfl, _⟩ | ⟨k, x, hx, rfl, _⟩
  · exact Nat.le_refl _
  · exact (List.eraseIdx_sublist X k).length_le
theorem NowOk.h1 {X Y : List OI} {h h1} (hX : Asc X) (hn : NowOk X Y h h1) : ∀ y ∈ Y, h1 y.num = h y.num := by
  rcases hn with ⟨rfl, rfl⟩ | ⟨k, x, hx, rfl, rfl⟩
  · exact fun _ _ => rfl
  · intro y hy
    have := (erase_mem hX hx).1 hy
    dsimp only
    rw [if_neg]
    intro e
    exact this.2 (OI.inj (by omega))
theorem NowOk.gone {X Y : List OI} {h h1} (hX : Asc X) (hn : NowOk X Y h h1) : ∀ x ∈ X, x ∈ Y ∨ h1 x.num = none := by
  rcases hn with ⟨rfl, rfl⟩ | ⟨k, x, hx, rfl, rfl⟩
  · exact fun x hx => .inl hx
  · intro y hy
    by_cases e : y = x
    · subst e; right; dsimp only; rw [if_pos rfl]
    · exact .inl ((erase_mem hX hx).2 ⟨hy, e⟩)
/-- when the items came, behind those of Z -/
def firstJ (h : Int → Option Nat) (T : Nat) (Z : List OI) : Int → Option Nat := fun z => if (mapOf Z z).isSome then some ((h z).getD T) else h z
theorem firstJ_in {h : Int → Option Nat} {T : Nat} {Z : List OI} {x : OI} (hx : x ∈ Z) : firstJ h T Z x.num = some ((h x.num).getD T) := by
  unfold firstJ; rw [if_pos (mapOf_isSome.2 ⟨x, hx, rfl⟩)]
theorem firstJ_out {h : Int → Option Nat} {T : Nat} {Z : List OI} {z : Int} (hz : ∀ x ∈ Z, (x.num : Int) ≠ z) : firstJ h T Z z = h z := by
  unfold firstJ
  rw [if_neg]
  rw [mapOf_isSome]
  rintro ⟨x, h1, h2⟩
  exact hz x h1 h2
theorem askG_full {Y : List OI} (hY : Asc Y) {g : WG} {T : Nat} {y : OI} (hy : y ∈ Y) : askG (Y.filter (dueB g T)) g T (Y.filter (dueB g T)).length y.num = if dueB g T y then some (askedN g y + 1, T) else g y.num := by
  unfold askG
  rw [List.take_length]
  by_cases hd : dueB g T y = true
  · rw [if_pos hd]
    cases hf : (Y.filter (dueB g T)).find? (fun x => decide ((x.num : Int) = y.num)) with
    | none => rw [List.find?_eq_none] at hf; exact absurd (hf y (List.mem_filter.2 ⟨hy, hd⟩)) (by simp)
    | some x =>
      have : (x.num : Int) = y.num := by simpa using List.find?_some hf
      have : x = y := OI.inj (by omega)
      subst this; rfl
  · rw [if_neg hd]
    have : (Y.filter (dueB g T)).find? (fun x => decide ((x.num : Int) = y.num)) = none := by
      rw [List.find?_eq_none]
      intro x hx
      have hx := List.mem_filter.1 hx
      simp only [decide_eq_true_eq]
      intro e
      have : x = y := OI.inj (by omega)
      subst this
      exact hd hx.2
    rw [this]
theorem askG_out {Y : List OI} {g : WG} {T q : Nat} {z : Int} (hz : ∀ y ∈ Y, (y.num : Int) ≠ z) : askG (Y.filter (dueB g T)) g T q z = g z := by
  unfold askG
  have : ((Y.filter (dueB g T)).take q).find? (fun x => decide ((x.num : Int) = z)) = none := by
    rw [List.find?_eq_none]
    intro x hx
    have := hz x (List.mem_filter.1 (List.mem_of_mem_take hx)).1
    simpa using this
  rw [this]
theorem RInv.due {X Y : List OI} {T : Nat} {g : WG} {h h1} (hX : Asc X) (hi : RInv X T g h) (hn : NowOk X Y h h1) {y : OI} (hy : y ∈ Y) :
    (h1 y.num = none ∧ dueB (keepG Y g) T y = true ∧ askedN (keepG Y g) y = 0) ∨ ∃ f, h1 y.num = some f ∧ 1 ≤ f ∧ f < T ∧ ((T - f) % 4 = 0 ↔ dueB (keepG Y g) T y = true) ∧ askedN (keepG Y g) y ≤ T := by
  have hk : keepG Y g y.num = g y.num := keepG_in hy
  rw [hn.h1 hX y hy]
  unfold dueB askedN
  rw [hk]
  rcases hi.rel y (hn.sub y hy) with ⟨h2, h3⟩ | ⟨a, l, f, h2, h3, h4, h5, h6, h7, h8⟩
  · exact .inl ⟨h3, by rw [h2], by rw [h2]⟩
  · refine .inr ⟨f, h3, h4, by omega, ?_, by rw [h2]; show a ≤ T; omega⟩
    rw [h2]
    dsimp only
    rw [decide_eq_true_eq]
    omega
theorem RInv.step {X Y : List OI} {T : Nat} {g : WG} {h h1} (hX : Asc X) (hT : 1 ≤ T) (hi : RInv X T g h) (hn : NowOk X Y h h1) :
    RInv X (T + 1) (askG (Y.filter (dueB (keepG Y g) T)) (keepG Y g) T (Y.filter (dueB (keepG Y g) T)).length) (firstJ h1 T Y) := by
  have hY := hn.asc hX
  constructor
  · intro z v hz
    by_cases hzy : ∃ y ∈ Y, (y.num : Int) = z
    · obtain ⟨y, hy, rfl⟩ := hzy
      exact ⟨y, hn.sub y hy, rfl⟩
    · rw [askG_out (fun y hy e => hzy ⟨y, hy, e⟩), keepG_out (fun y hy e => hzy ⟨y, hy, e⟩)] at hz
      cases hz
  · intro x hx
    rcases hn.gone hX x hx with hxY | hxn
    · right
      rw [askG_full hY hxY, firstJ_in hxY, hn.h1 hX x hxY, keepG_in hxY]
      have hdu : dueB (keepG Y g) T x = dueB g T x := by unfold dueB; rw [keepG_in hxY]
      have has : askedN (keepG Y g) x = askedN g x := by unfold askedN; rw [keepG_in hxY]
      rw [hdu, has]
      rcases hi.rel x hx with ⟨h2, h3⟩ | ⟨a, l, f, h2, h3, h4, h5, h6, h7, h8⟩
      · have hd : dueB g T x = true := by unfold dueB; rw [h2]
        have ha : askedN g x = 0 := by unfold askedN; rw [h2]
        rw [if_pos hd, h3, ha]
        exact ⟨1, T, T, rfl, rfl, hT, by omega, by omega, by omega, by omega⟩
      · have ha : askedN g x = a := by unfold askedN; rw [h2]
        rw [h3, ha]
        by_cases hd : dueB g T x = true
        · rw [if_pos hd]
          have h9 : 4 ≤ T - l := by
            unfold dueB at hd; rw [h2] at hd; simpa using hd
          exact ⟨a + 1, T, f, rfl, rfl, h4, by omega, by omega, by omega, by omega⟩
        · rw [if_neg hd, h2]
          have h9 : ¬ 4 ≤ T - l := by
            unfold dueB at hd; rw [h2] at hd; simpa using hd
          exact ⟨a, l, f, rfl, rfl, h4, h5, h6, by omega, by omega⟩
    · by_cases hxY : x ∈ Y
      · right
        rcases hi.rel x hx with ⟨h2, h3⟩ | ⟨a, l, f, h2, h3, h4, h5, h6, h7, h8⟩
        · have hdu : dueB (keepG Y g) T x = true := by unfold dueB; rw [keepG_in hxY, h2]
          have has : askedN (keepG Y g) x = 0 := by unfold askedN; rw [keepG_in hxY, h2]
          rw [askG_full hY hxY, firstJ_in hxY, hxn, if_pos hdu, has]
          exact ⟨1, T, T, rfl, rfl, hT, by omega, by omega, by omega, by omega⟩
        · rw [hn.h1 hX x hxY, h3] at hxn; cases hxn
      · left
        have hne : ∀ y ∈ Y, (y.num : Int) ≠ x.num := fun y hy e => hxY (by have : y = x := OI.inj (by omega); exact this ▸ hy)
        exact ⟨by rw [askG_out hne, keepG_out hne], by rw [firstJ_out hne, hxn]⟩
theorem wf_isSome {g : WG} {z : Int} : (wf g z).isSome = (g z).isSome := by unfold wf; rw [Option.isSome_map]
theorem RInv.keys {X : List OI} (hX : Asc X) (hl : X.length ≤ 1000) {g : WG} (hd : Dom X g) : KeysOf (wf g) (keys (X.filter fun x => (g x.num).isSome)) := by
  have hF : Asc (X.filter fun x => (g x.num).isSome) := hX.sublist List.filter_sublist
  refine ⟨hF.keysLt, fun z => ?_, by rw [keys_length]; have := List.length_filter_le (fun x : OI => (g x.num).isSome) X; omega⟩
  rw [wf_isSome]
  constructor
  · intro hz
    obtain ⟨x, h1, rfl⟩ := List.mem_map.1 hz
    exact (List.mem_filter.1 h1).2
  · intro hz
    obtain ⟨v, hv⟩ := Option.isSome_iff_exists.1 hz
    obtain ⟨x, h1, h2⟩ := hd z v hv
    exact List.mem_map.2 ⟨x, List.mem_filter.2 ⟨h1, by rw [h2]; exact hz⟩, h2⟩
theorem ask_keys {Y : List OI} (hY : Asc Y) (hl : Y.length ≤ 1000) {g : WG} {T : Nat} : KeysOf (wf (askG (Y.filter (dueB (keepG Y g) T)) (keepG Y g) T (Y.filter (dueB (keepG Y g) T)).length)) (keys Y) := by
  refine ⟨hY.keysLt, fun z => ?_, by rw [keys_length]; omega⟩
  rw [wf_isSome]
  constructor
  · intro hz
    obtain ⟨y, h1, rfl⟩ := List.mem_map.1 hz
    show (askG _ _ _ _ (y.num : Int)).isSome = true
    rw [askG_full hY h1]
    by_cases hd : dueB (keepG Y g) T y = true
    · rw [if_pos hd]; rfl
    · rw [if_neg hd]
      unfold dueB at hd
      split at hd
      · exact absurd rfl hd
      · rename_i h; rw [h]; rfl
  · intro hz
    by_cases hzy : ∃ y ∈ Y, (y.num : Int) = z
    · obtain ⟨y, hy, rfl⟩ := hzy
      exact List.mem_map.2 ⟨y, hy, rfl⟩
    · rw [askG_out (fun y hy e => hzy ⟨y, hy, e⟩), keepG_out (fun y hy e => hzy ⟨y, hy, e⟩)] at hz
      cases hz
end Go.X

set_option linter.all false
namespace Go.Proofs.YthmjkaljkgjicaaGreatDoor
open Go Go.X
set_option maxRecDepth 100000
set_option maxHeartbeats 0
theorem tickCallK {nn : Nat} {W : World} {S : Nat → Prop} {r : Option Nat} {H R : List Blk} {nx : K1} {X : List OI} (hX : Asc X) (hXl : X.length ≤ 1000) {g : WG} {ks : List Int} (hks : KeysOf (wf g) ks) {n me tk T : Nat} (hT : tk + 1 = T) {gs : Int} {d mp cap i9 i4 i3 : Nat} {c3 : List SV} {a : Option Addr} (hn : 1 ≤ n ∧ n ≤ 7) (hgs : 2 < gs) (hme : me < n) (htk : tk ≤ 999999) (hgt : ∀ x ∈ X, ∀ a l, g x.num = some (a, l) → l ≤ tk ∧ a ≤ 999999)
    (hs : Sel H [.ext i9 (SlA 47 6 a X.length cap (X.flatMap OI.cells)), .ext i4 (MpK mp (wf g)), .blk i3 d c3 80] R) (e3 : denL c3 = denL (DC n gs tk mp))
    (hx : ∀ z : Option Addr × Nat, nx (.v (.slice z.1 (X.filter (dueB (keepG X g) T)).length z.2)) (.ext 370 (SlA 38 9 z.1 (X.filter (dueB (keepG X g) T)).length z.2 (((X.filter (dueB (keepG X g) T)).map (mV (keepG X g) me n)).flatMap MV.cells)) :: .ext i9 (SlA 47 6 a X.length cap (X.flatMap OI.cells)) :: .ext i4 (MpK mp (wf (askG (X.filter (dueB (keepG X g) T)) (keepG X g) T (X.filter (dueB (keepG X g) T)).length))) :: .blk i3 d (DC n gs T mp) 80 :: R)) :
    CallK ⟨Tryz.prog, TB, nn, W, S, r, TBok⟩ 7 [.v (pv d), .v (.int .i64 me), .v (.slice a X.length cap), .fn 8 []] H nx := by
  subst hT
  refine CallK.frL (v := fun z : Option Addr × Nat => .slice z.1 (X.filter (dueB (keepG X g) (tk + 1))).length z.2) (L0 := [.ext 9 (SlA 47 6 a X.length cap (X.flatMap OI.cells)), .ext 4 (MpK mp (wf g)), .blk 3 d (DC n gs tk mp) 80]) hs (HSub.ext (fun _ _ h => h) (HSub.ext (fun _ _ h => h) (HSub.keep e3 HSub.nil))) (fun _ w _ => tick1007 hX hXl hks hn hgs hme htk hgt w)
    (M' := fun z => [.ext 370 (SlA 38 9 z.1 (X.filter (dueB (keepG X g) (tk + 1))).length z.2 (((X.filter (dueB (keepG X g) (tk + 1))).map (mV (keepG X g) me n)).flatMap MV.cells)), .ext i9 (SlA 47 6 a X.length cap (X.flatMap OI.cells)), .ext i4 (MpK mp (wf (askG (X.filter (dueB (keepG X g) (tk + 1))) (keepG X g) (tk + 1) (X.filter (dueB (keepG X g) (tk + 1))).length))), .blk i3 d (DC n gs (tk + 1 : Nat) mp) 80]) (fun z => HSub.ext (fun _ _ h => by rw [← mC_flat]; exact h) (HSub.ext (fun _ _ h => h) (HSub.ext (fun _ _ h => h) (HSub.keep rfl HSub.nil)))) hx
theorem waitingCallK {nn : Nat} {W : World} {S : Nat → Prop} {r : Option Nat} {H R : List Blk} {nx : K1} {f : Int → Option Value} {ks : List Int} (hks : KeysOf f ks) {m : Nat} (hm : ks.length = m) {n gs tk : Int} {d mp i4 i3 : Nat} {c3 : List SV}
    (hs : Sel H [.ext i4 (MpK mp f), .blk i3 d c3 80] R) (e3 : denL c3 = denL (DC n gs tk mp))
    (hx : ∀ z : Option Addr × Nat, nx (.v (.slice z.1 m z.2)) (.ext 360 (SlA 3 1 z.1 m z.2 (ks.map (Value.int .i64))) :: .ext i4 (MpK mp f) :: .blk i3 d (DC n gs tk mp) 80 :: R)) :
    CallK ⟨Tryz.prog, TB, nn, W, S, r, TBok⟩ 9 [.v (pv d)] H nx := by
  subst hm
  exact CallK.frL (v := fun z : Option Addr × Nat => .slice z.1 ks.length z.2) (L0 := [.ext 4 (MpK mp f), .blk 3 d (DC n gs tk mp) 80]) hs (HSub.ext (fun _ _ h => h) (HSub.keep e3 HSub.nil)) (fun _ w _ => waiting1009 hks w)
    (M' := fun z => [.ext 360 (SlA 3 1 z.1 ks.length z.2 (ks.map (Value.int .i64))), .ext i4 (MpK mp f), .blk i3 d (DC n gs tk mp) 80]) (fun z => HSub.ext (fun _ _ h => h) (HSub.ext (fun _ _ h => h) (HSub.keep rfl HSub.nil))) hx
theorem eqMsgsN {L : List MV} {n : Nat} (hn : L.length = n) {a a' : Option Addr} {cap cap' : Nat} {w : World} (hr : RdS w 38 9 a n cap (L.flatMap MV.cells)) (hr' : RdS w 38 9 a' n cap' (L.flatMap MV.cells)) (hl : n ≤ 1000) :
    Pu Tryz.prog 15 #[.slice a n cap, .slice a' n cap', .func (.func 16) #[] #[]] w (.bool true) := by subst hn; exact eqMsgs1015 hr hr' hl
theorem eqIntsN {L : List Int} {n : Nat} (hn : L.length = n) {a a' : Option Addr} {cap cap' : Nat} {w : World} (hr : RdS w 3 1 a n cap (L.map (Value.int .i64))) (hr' : RdS w 3 1 a' n cap' (L.map (Value.int .i64))) (hl : n ≤ 1000) :
    Pu Tryz.prog 13 #[.slice a n cap, .slice a' n cap'] w (.bool true) := by subst hn; exact eqInts1013 hr hr' hl
theorem setL20 {ks : List Nat} {a : Option Addr} {cap : Nat} {w : World} (hr : RdB w a ((ks.take (Nat.min ks.length 20)).map fun (k : Nat) => Value.int .u16 k)) (hk : ∀ k ∈ ks, k ≤ 65535) :
    FrZ Tryz.prog 5 #[.slice a ((Nat.min ks.length 20)) cap] w emp (fun z : Option Addr × Nat × Set5 => .slice z.1 z.2.2.1.length z.2.1) (fun z => SlA 47 6 z.1 z.2.2.1.length z.2.1 (z.2.2.1.flatMap OI.cells)) := by
  have hm : (ks.take (Nat.min ks.length 20)).length = Nat.min ks.length 20 := by rw [List.length_take]; exact Nat.min_eq_left (Nat.min_le_left _ _)
  have h := set1005 (ks := ks.take (Nat.min ks.length 20)) (a := a) (cap := cap) (w := w) hr
  rw [hm] at h
  exact h (fun k hk' => hk k (List.mem_of_mem_take hk')) (Nat.min_le_right _ _)
theorem newCallK {nn : Nat} {W : World} {S : Nat → Prop} {r : Option Nat} {H : List Blk} {nx : K1} {n gs : Int} (hn : 1 ≤ n ∧ n ≤ 7) (hg : 2 ≤ gs ∧ gs ≤ 8) (hx : ∀ z : Nat × Nat, nx (.v (.tuple #[pv z.1, .int .i64 0])) (.blk 103 z.1 (DC n gs 0 z.2) 80 :: .ext 104 (MpK z.2 fun _ => none) :: H)) : CallK ⟨Tryz.prog, TB, nn, W, S, r, TBok⟩ 6 [.v (.int .i64 n), .v (.int .i64 gs)] H nx :=
  CallK.frL (v := fun z : Nat × Nat => .tuple #[pv z.1, .int .i64 0]) (L0 := []) (L := []) (R := H) Sel.nil HSub.nil (fun _ w _ => FrZ.pre (new11 (n := n) (gs := gs) hn hg w) (fun S h => by cases h; exact fun _ h => h))
    (M' := fun z => [.blk 103 z.1 (DC n gs 0 z.2) 80, .ext 104 (MpK z.2 fun _ => none)]) (fun z => HSub.keep rfl (HSub.ext (fun _ _ h => MpA.toK (es := []) MRep.nil h) HSub.nil)) hx
end Go.Proofs.YthmjkaljkgjicaaGreatDoor

set_option linter.all false
namespace Go.Proofs.YthmjkaljkgjicaaGreatDoor
open Go Go.X
set_option maxRecDepth 100000
set_option maxHeartbeats 0
theorem isAns1041 {x y : OI} {b1 b2 d : Nat} {to n : Int} {W : World} (hnum : OldC W b1 6 [.v (.int .i64 (y.num : Nat))]) (hto : OldC W b1 1 [.v (.int .i64 to)]) (hdp : OldC W b2 0 [.v (pv d)]) (hdn : OldC W d 0 [.v (.int .i64 n)]) (hn : 1 ≤ n ∧ n ≤ 7) (hq : IntKind.i64.wrap (to.tdiv n) = y.1.g) :
    Pu Tryz.prog 41 #[.agg (denL (ic x)).toArray, pv b1, pv b2] W (.bool (decide (x = y))) := by
  refine enter_sound TBok Tryz.func41 rfl rfl Tryz.ntmps41 [.agg (ic x), .v (pv b1), .v (pv b2)] (Kn.start W noS) rfl rfl ?_
  conv => whnf
  by_cases hxy : x = y
  · subst hxy
    repeat' (first
 | with_reducible (first | refine r_seq (fun KS hS => ?_) | (refine hS _ _ ?_; clear hS KS) | (refine hA _ ?_; clear hA KA) | (refine hB _ ?_; clear hB KB) | refine r_block ?_)
 | ((with_reducible (first | refine r_region ?_ | refine r_cond (fun KA hA KB hB => ?_) | refine r_ret ?_ | refine r_skip ?_ | refine r_exit ?_ | refine And.intro rfl ?_ | intro b)); conv => whnf)
 | ((with_reducible refine WrapK.i64 ?_ ?_); (focus omega); conv => whnf)
 | ((with_reducible refine CallK.at 20 ?_); refine CallK.pu (fun w => number1020 (x := x) w) ?_; conv => whnf)
 | ((with_reducible refine IK.id ?_); refine IK.fap rfl rfl ?_; conv => whnf)
 | ((with_reducible refine QK.id ?_); (first | refine QK.ldp rfl rfl (hnum.pc id) (List.cons_ne_nil _ _) ?_ | refine QK.ldp rfl rfl (hto.pc id) (List.cons_ne_nil _ _) ?_ | refine QK.ldp rfl rfl (hdp.pc id) (List.cons_ne_nil _ _) ?_ | refine QK.ldp rfl rfl (hdn.pc id) (List.cons_ne_nil _ _) ?_); conv => whnf)
 | ((with_reducible refine QuoK.id ?_); refine QuoK.eq (by omega) hq ?_; conv => whnf)
 | ((with_reducible apply OpK.more); (focus refine sok); (conv => whnf); fail_if_success guard_target =ₛ False)
 | ((with_reducible (first | refine InAt.mk (fun K' hK => ?_) | refine AnyAt.mk (fun K' hK => ?_) | (refine hK _ ?_; clear hK K') | (refine hK _ _ ?_; clear hK K'))); conv => whnf)
 | ((refine And.intro ?_ ?_); all_goals (conv => whnf))
 | (apply r_quiet; refine mixed; kernel_rfl; kernel_rfl; kernel_rfl; conv => whnf)
 | ((first | refine if_t (by decide) ?_ | refine if_f (by decide) ?_ | refine if_decT (by omega) ?_ | refine if_decF (by omega) ?_ | refine if_ndecT (by omega) ?_ | refine if_ndecF (by omega) ?_); conv => whnf)
 | ((first | refine if_dec (fun h => ?_) (fun h => ?_) | refine if_ndec (fun h => ?_) (fun h => ?_) | refine if_cond (fun h => ?_) (fun h => ?_)); all_goals (conv => whnf))
 | with_reducible apply_assumption -symm -exfalso)
    all_goals exact FinK.pu (by simp [den, *])
  · have hne : ¬ ((x.num : Nat) : Int) = (y.num : Nat) := fun e => hxy (OI.inj (by omega))
    repeat' (first
 | with_reducible (first | refine r_seq (fun KS hS => ?_) | (refine hS _ _ ?_; clear hS KS) | (refine hA _ ?_; clear hA KA) | (refine hB _ ?_; clear hB KB) | refine r_block ?_)
 | ((with_reducible (first | refine r_region ?_ | refine r_cond (fun KA hA KB hB => ?_) | refine r_ret ?_ | refine r_skip ?_ | refine r_exit ?_ | refine And.intro rfl ?_ | intro b)); conv => whnf)
 | ((with_reducible refine WrapK.i64 ?_ ?_); (focus omega); conv => whnf)
 | ((with_reducible refine CallK.at 20 ?_); refine CallK.pu (fun w => number1020 (x := x) w) ?_; conv => whnf)
 | ((with_reducible refine IK.id ?_); refine IK.fap rfl rfl ?_; conv => whnf)
 | ((with_reducible refine QK.id ?_); (first | refine QK.ldp rfl rfl (hnum.pc id) (List.cons_ne_nil _ _) ?_ | refine QK.ldp rfl rfl (hto.pc id) (List.cons_ne_nil _ _) ?_ | refine QK.ldp rfl rfl (hdp.pc id) (List.cons_ne_nil _ _) ?_ | refine QK.ldp rfl rfl (hdn.pc id) (List.cons_ne_nil _ _) ?_); conv => whnf)
 | ((with_reducible refine QuoK.id ?_); refine QuoK.eq (by omega) hq ?_; conv => whnf)
 | ((with_reducible apply OpK.more); (focus refine sok); (conv => whnf); fail_if_success guard_target =ₛ False)
 | ((with_reducible (first | refine InAt.mk (fun K' hK => ?_) | refine AnyAt.mk (fun K' hK => ?_) | (refine hK _ ?_; clear hK K') | (refine hK _ _ ?_; clear hK K'))); conv => whnf)
 | ((refine And.intro ?_ ?_); all_goals (conv => whnf))
 | (apply r_quiet; refine mixed; kernel_rfl; kernel_rfl; kernel_rfl; conv => whnf)
 | ((first | refine if_t (by decide) ?_ | refine if_f (by decide) ?_ | refine if_decT (by omega) ?_ | refine if_decF (by omega) ?_ | refine if_ndecT (by omega) ?_ | refine if_ndecF (by omega) ?_); conv => whnf)
 | ((first | refine if_dec (fun h => ?_) (fun h => ?_) | refine if_ndec (fun h => ?_) (fun h => ?_) | refine if_cond (fun h => ?_) (fun h => ?_)); all_goals (conv => whnf))
 | with_reducible apply_assumption -symm -exfalso)
    all_goals exact FinK.pu (by simp [den, *])
theorem indexAns1040 {X : List OI} (hX : Asc X) (hl : X.length ≤ 1000) {a : Option Addr} {cap j : Nat} {y : OI} (hy : X[j]? = some y) {b1 b2 d : Nat} {to n : Int} {W : World} (hr : RdS W 47 6 a X.length cap (X.flatMap OI.cells)) (hnum : OldC W b1 6 [.v (.int .i64 (y.num : Nat))]) (hto : OldC W b1 1 [.v (.int .i64 to)]) (hdp : OldC W b2 0 [.v (pv d)]) (hdn : OldC W d 0 [.v (.int .i64 n)]) (hn : 1 ≤ n ∧ n ≤ 7) (hq : IntKind.i64.wrap (to.tdiv n) = y.1.g) :
    Pu Tryz.prog 40 #[.slice a X.length cap, .func (.func 41) #[] #[pv b1, pv b2]] W (.int .i64 j) := by
  have sa := fun n' r H => Sees.old (c := ⟨Tryz.prog, TB, n', W, noS, r, TBok⟩) (H := H) hr.old
  have hjl : j < X.length := (List.getElem?_eq_some_iff.1 hy).1
  refine enter_sound TBok Tryz.func40 rfl rfl Tryz.ntmps40 [.v (.slice a X.length cap), .fn 41 [.v (pv b1), .v (pv b2)]] (Kn.start W noS) rfl rfl ?_
  conv => whnf
  repeat' (first
 | with_reducible (first | refine r_seq (fun KS hS => ?_) | (refine hS _ _ ?_; clear hS KS) | (refine hA _ ?_; clear hA KA) | (refine hB _ ?_; clear hB KB) | refine r_block ?_)
 | ((with_reducible (first | refine r_region ?_ | refine r_cond (fun KA hA KB hB => ?_) | refine r_ret ?_ | refine r_skip ?_ | refine r_exit ?_ | refine And.intro rfl ?_ | intro b)); conv => whnf)
 | ((with_reducible refine WrapK.i64 ?_ ?_); (focus omega); conv => whnf)
 | ((with_reducible apply OpK.more); (focus refine sok); (conv => whnf); fail_if_success guard_target =ₛ False)
 | ((with_reducible (first | refine InAt.mk (fun K' hK => ?_) | refine AnyAt.mk (fun K' hK => ?_) | (refine hK _ ?_; clear hK K') | (refine hK _ _ ?_; clear hK K'))); conv => whnf)
 | ((refine And.intro ?_ ?_); all_goals (conv => whnf))
 | (apply r_quiet; refine mixed; kernel_rfl; kernel_rfl; kernel_rfl; conv => whnf)
 | ((first | refine if_t (by decide) ?_ | refine if_f (by decide) ?_ | refine if_decT (by omega) ?_ | refine if_decF (by omega) ?_ | refine if_ndecT (by omega) ?_ | refine if_ndecF (by omega) ?_); conv => whnf)
 | ((first | refine if_dec (fun h => ?_) (fun h => ?_) | refine if_ndec (fun h => ?_) (fun h => ?_) | refine if_cond (fun h => ?_) (fun h => ?_)); all_goals (conv => whnf))
 | with_reducible apply_assumption -symm -exfalso)
  refine r_loop (α := Nat) (fun i => [(8, .v (.int .i64 (i : Nat))), (7, .v (.int .i64 X.length)), (0, .v (.slice a X.length cap)), (1, .fn 41 [.v (pv b1), .v (pv b2)])]) (fun _ => []) (fun i => i ≤ j) (fun i => j + 1 - i) 0 (Nat.zero_le _) (by repeat' (first | exact Sub.nil | (refine Sub.cons rfl rfl ?_))) (HSub.none _) ?_
  intro i hi KL hL
  obtain ⟨x, hx⟩ : ∃ x, X[i]? = some x := ⟨_, List.getElem?_eq_getElem (by omega)⟩
  have hxy : decide (x = y) = decide (i = j) := by
    rw [decide_eq_decide]
    constructor
    · rintro rfl
      rcases Nat.lt_trichotomy i j with h | h | h
      · have := hX.at hx hy h; omega
      · exact h
      · omega
    · rintro rfl; rw [hx] at hy; exact Option.some.inj hy
  by_cases hij : i = j
  · subst hij
    rw [decide_eq_true rfl] at hxy
    repeat' (first
 | with_reducible (first | refine r_seq (fun KS hS => ?_) | (refine hS _ _ ?_; clear hS KS) | (refine hA _ ?_; clear hA KA) | (refine hB _ ?_; clear hB KB) | refine r_block ?_)
 | ((with_reducible (first | refine r_region ?_ | refine r_cond (fun KA hA KB hB => ?_) | refine r_ret ?_ | refine r_skip ?_ | refine r_exit ?_ | refine And.intro rfl ?_ | intro b)); conv => whnf)
 | ((with_reducible refine WrapK.i64 ?_ ?_); (focus omega); conv => whnf)
 | ((with_reducible refine OpK.id ?_); (first | refine OpK.idx (k := 6) rfl rfl rfl rfl rfl rfl rfl (sa _ _ _) (by omega) (by omega) (at_item hx) (fun b off hp => ?_) | refine OpK.ldp rfl rfl hp (List.cons_ne_nil _ _) ?_); conv => whnf)
 | ((with_reducible refine CallK.at 41 ?_); refine CallK.puW (fun ms w hk => isAns1041 (x := x) (y := y) (PC.oldC (hnum.pc id) hk) (PC.oldC (hto.pc id) hk) (PC.oldC (hdp.pc id) hk) (PC.oldC (hdn.pc id) hk) hn hq) ?_; rw [hxy]; conv => whnf)
 | ((with_reducible apply OpK.more); (focus refine sok); (conv => whnf); fail_if_success guard_target =ₛ False)
 | ((with_reducible (first | refine InAt.mk (fun K' hK => ?_) | refine AnyAt.mk (fun K' hK => ?_) | (refine hK _ ?_; clear hK K') | (refine hK _ _ ?_; clear hK K'))); conv => whnf)
 | ((refine And.intro ?_ ?_); all_goals (conv => whnf))
 | (apply r_quiet; refine mixed; kernel_rfl; kernel_rfl; kernel_rfl; conv => whnf)
 | ((first | refine if_t (by decide) ?_ | refine if_f (by decide) ?_ | refine if_decT (by omega) ?_ | refine if_decF (by omega) ?_ | refine if_ndecT (by omega) ?_ | refine if_ndecF (by omega) ?_); conv => whnf)
 | ((first | refine if_dec (fun h => ?_) (fun h => ?_) | refine if_ndec (fun h => ?_) (fun h => ?_) | refine if_cond (fun h => ?_) (fun h => ?_)); all_goals (conv => whnf))
 | with_reducible apply_assumption -symm -exfalso)
    exact FinK.pu rfl
  · rw [decide_eq_false hij] at hxy
    repeat' (first
 | with_reducible (first | refine r_seq (fun KS hS => ?_) | (refine hS _ _ ?_; clear hS KS) | (refine hA _ ?_; clear hA KA) | (refine hB _ ?_; clear hB KB) | refine r_block ?_)
 | ((with_reducible (first | refine r_region ?_ | refine r_cond (fun KA hA KB hB => ?_) | refine r_ret ?_ | refine r_skip ?_ | refine r_exit ?_ | refine And.intro rfl ?_ | intro b)); conv => whnf)
 | ((with_reducible refine WrapK.i64 ?_ ?_); (focus omega); conv => whnf)
 | ((with_reducible refine OpK.id ?_); (first | refine OpK.idx (k := 6) rfl rfl rfl rfl rfl rfl rfl (sa _ _ _) (by omega) (by omega) (at_item hx) (fun b off hp => ?_) | refine OpK.ldp rfl rfl hp (List.cons_ne_nil _ _) ?_); conv => whnf)
 | ((with_reducible refine CallK.at 41 ?_); refine CallK.puW (fun ms w hk => isAns1041 (x := x) (y := y) (PC.oldC (hnum.pc id) hk) (PC.oldC (hto.pc id) hk) (PC.oldC (hdp.pc id) hk) (PC.oldC (hdn.pc id) hk) hn hq) ?_; rw [hxy]; conv => whnf)
 | (refine hL (i + 1) _ _ (by show i + 1 ≤ j; omega) (by show j + 1 - (i + 1) < j + 1 - i; omega) (by repeat' (first | exact Sub.nil | (refine Sub.cons rfl rfl ?_))) (HSub.none _))
 | ((with_reducible apply OpK.more); (focus refine sok); (conv => whnf); fail_if_success guard_target =ₛ False)
 | ((with_reducible (first | refine InAt.mk (fun K' hK => ?_) | refine AnyAt.mk (fun K' hK => ?_) | (refine hK _ ?_; clear hK K') | (refine hK _ _ ?_; clear hK K'))); conv => whnf)
 | ((refine And.intro ?_ ?_); all_goals (conv => whnf))
 | (apply r_quiet; refine mixed; kernel_rfl; kernel_rfl; kernel_rfl; conv => whnf)
 | ((first | refine if_t (by decide) ?_ | refine if_f (by decide) ?_ | refine if_decT (by omega) ?_ | refine if_decF (by omega) ?_ | refine if_ndecT (by omega) ?_ | refine if_ndecF (by omega) ?_); conv => whnf)
 | ((first | refine if_dec (fun h => ?_) (fun h => ?_) | refine if_ndec (fun h => ?_) (fun h => ?_) | refine if_cond (fun h => ?_) (fun h => ?_)); all_goals (conv => whnf))
 | with_reducible apply_assumption -symm -exfalso)
end Go.Proofs.YthmjkaljkgjicaaGreatDoor

namespace Go.Proofs.YthmjkaljkgjicaaGreatDoor
open Go Go.X
set_option maxRecDepth 100000
set_option maxHeartbeats 0
theorem num_le {s t p m : Int} {i : Bool} {g : Int} {num : Nat} (h : ItemOk s t p m i g) (e : (num : Int) = itemNum s t p m i g) : 1 ≤ num ∧ num ≤ 1680728 := by
  unfold itemNum at e
  obtain ⟨h1, h2, h3⟩ := h
  rcases h3 with ⟨rfl, rfl, h3⟩ | ⟨h3, h4, rfl, rfl, rfl⟩
  · unfold EffOk at h3
    rw [if_pos rfl] at e
    omega
  · rw [if_neg (by omega)] at e
    cases i <;> simp at e <;> omega
end Go.Proofs.YthmjkaljkgjicaaGreatDoor
