/- Contracts and lemmas for the claim (part XN28); no condition of its own. -/
import Derived.Test.YtbgnoibellfojaaGreatDoorXN26
import Derived.Test.YtbgnoibellfojaaGreatDoorXM7
set_option linter.all false
set_option linter.unusedVariables false
set_option linter.unusedSimpArgs false
set_option linter.unnecessarySimpa false
namespace Go.Proofs.YtbgnoibellfojaaGreatDoor
open Go Go.X
set_option maxRecDepth 100000
set_option maxHeartbeats 0
theorem num_le {s t p m : Int} {i : Bool} {g : Int} {num : Nat} (h : ItemOk s t p m i g) (e : (num : Int) = itemNum s t p m i g) : 1 ≤ num ∧ num ≤ 1680728 := by
  unfold itemNum at e
  obtain ⟨h1, h2, h3⟩ := h
  rcases h3 with ⟨rfl, rfl, h3⟩ | ⟨h3, h4, rfl, rfl, rfl⟩
  · unfold EffOk at h3
    rw [if_pos rfl] at e
    omega
  · rw [if_neg (by omega)] at e
    cases i <;> simp at e <;> omega

theorem answer2A31 {s t p m : Int} {i : Bool} {g kd : Int} {key : ByteArray} {dl : Int} {fr data : ByteArray} {num : Nat} {enc : List UInt8} (hC : CmdFor s t p m i g kd key dl fr data num enc) {s2 t2 p2 m2 : Int} {i2 : Bool} {g2 : Int} (hy : ItemOk s2 t2 p2 m2 i2 g2) (hne : ¬ itemNum s2 t2 p2 m2 i2 g2 = (num : Int)) {w : World} {d bi f to e : Nat} {n gs tk rn : Int} {mp : Nat} {rx : ByteArray} {S0 : Nat → Prop} (hd : Rdd w [.blk 9 bi [.v (.int .i64 s2), .v (.int .i64 t2), .v (.int .i64 p2), .v (.int .i64 m2), .v (.bool i2), .v (.int .i64 g2), .v (.int .i64 s), .v (.int .i64 t), .v (.int .i64 p), .v (.int .i64 m), .v (.bool i), .v (.int .i64 g)] 48, .blk 3 d (DC n gs tk mp) 81] S0) (hka : KAt w) (hn7 : 1 ≤ n ∧ n ≤ 7) (hgs : g < gs) (hf : (f : Int) < n) (hto : (to : Int) / n = g) (hto2 : to ≤ 55) (hft : f < to ∨ to < f) (he : 0 ≤ (e : Int) ∧ (e : Int) ≤ 18) (hrn : NumOk rn) (hrx : rx.size ≤ 65536) (hrl : (uvar e ++ uvar (zigN rn) ++ uvar rx.size ++ rx.data.toList).length ≤ 65536) (hm : m = 0) : Pu Tryz.prog 31 #[pv d, .agg #[.int .i64 11, .int .i64 (to : Nat), .int .i64 (f : Nat), .int .i64 0, .int .i64 0, .int .i64 0, .int .i64 (num : Nat), .string ⟨(uvar e ++ uvar (zigN rn) ++ uvar rx.size ++ rx.data.toList).toArray⟩, .slice none 0 0], .slice (some ⟨bi, 0, none⟩) 2 2] w (.tuple #[.agg #[.int .i64 15, .int .i64 0, .int .i64 0, .int .i64 0, .int .i64 0, .int .i64 0, .string ⟨#[]⟩, .int .i64 0, .int .i64 0, .string ⟨#[]⟩, .string ⟨#[]⟩, .int .i64 0, .string ⟨#[]⟩, .int .i64 0, .int .i64 0, .slice none 0 0, .int .i64 s, .int .i64 t, .int .i64 p, .int .i64 m, .bool i, .int .i64 g, .int .i64 (e : Nat), .string ⟨#[]⟩], .bool true]) := by
  have hne0 := hka.offL hd (by simp [DC]; rintro i b cs t (⟨-, -, rfl, -⟩ | ⟨-, -, rfl, -⟩) <;> simp)
  have hok := hC.item
  have hg1 := hok.1
  have hq : IntKind.i64.wrap ((to : Int).tdiv n) = g := by rw [IntWalk.i64_quo _ _ (by omega), hto]
  have hnum' := hC.numEq.symm
  have hnb : 1 ≤ num ∧ num ≤ 1680728 := num_le hok hC.numEq
  have hv' : (ByteArray.mk (uvar e ++ uvar (zigN rn) ++ uvar rx.size ++ rx.data.toList).toArray).data.toList = uvar e ++ (uvar (zigN rn) ++ (uvar rx.size ++ rx.data.toList ++ [])) := by simp
  refine Pu.ofFrZ (enter_roL TBok hd Tryz.func31 rfl rfl Tryz.ntmps31 [.loc d 3 0, .agg [.v (.int .i64 11), .v (.int .i64 (to : Nat)), .v (.int .i64 (f : Nat)), .v (.int .i64 0), .v (.int .i64 0), .v (.int .i64 0), .v (.int .i64 (num : Nat)), .v (.string ⟨(uvar e ++ uvar (zigN rn) ++ uvar rx.size ++ rx.data.toList).toArray⟩), .v (.slice none 0 0)], .slc bi 9 0 2 2] rfl rfl ?_)
  unfold DC
  conv => whnf
  repeat' (first
    | ((with_reducible refine r_seq (fun KS hS => ?_)))
    | ((with_reducible refine r_region ?_); conv => whnf)
    | ((with_reducible refine r_cond (fun KA hA KB hB => ?_)); conv => whnf)
    | ((with_reducible refine hS _ _ ?_); clear hS KS)
    | ((with_reducible refine hA _ ?_); clear hA KA)
    | ((with_reducible refine hB _ ?_); clear hB KB)
    | ((with_reducible refine r_block ?_))
    | ((with_reducible refine r_ret ?_); conv => whnf)
    | ((with_reducible refine r_skip ?_); conv => whnf)
    | ((with_reducible refine r_exit ?_); conv => whnf)
    | ((with_reducible refine WrapK.i64 ?_ ?_); (focus omega); conv => whnf)
    | ((with_reducible refine And.intro rfl ?_); conv => whnf)
    | ((with_reducible intro b); conv => whnf)
    | (apply in68; refine Tryz.ntmps68; rfl; rfl; rfl; intro A; conv => whnf)
    | (apply in69; refine Tryz.ntmps69; rfl; rfl; rfl; intro A; conv => whnf)
    | ((with_reducible refine CallK.at 28 ?_); refine CallK.puW (fun ms w hkn => check_ans28 (hka.now hne0 hkn) (by omega) (by omega) (by omega) (by omega) (by show List.length _ ≤ _; exact hrl)) ?_; conv => whnf)
    | ((with_reducible refine CallK.at 45 ?_); refine CallK.puW (fun ms w hkn => made45 (hkn.got (by repeat (first | constructor | apply List.Mem.tail)))) ?_; conv => whnf)
    | ((with_reducible refine CallQ.at 45 ?_); refine CallQ.puW (fun ms w hkn => made45 (hkn.got (by repeat (first | constructor | apply List.Mem.tail)))) ?_; conv => whnf)
    | ((with_reducible refine CallK.at 70 ?_); refine CallK.pu (fun w => numOk70 hok w) ?_; rw [hnum']; conv => whnf)
    | ((with_reducible refine CallK.at 70 ?_); refine CallK.pu (fun w => numOk70 hy w) ?_; conv => whnf)
    | ((with_reducible refine QuoK.id ?_); refine QuoK.eq (by omega) hq ?_; conv => whnf)
    | ((with_reducible refine OpK.id ?_); refine OpK.cvSB rfl rfl rfl rfl rfl rfl rfl rfl ?_; rw [hv']; conv => whnf)
    | (intro a' cap'; conv => whnf)
    | ((with_reducible refine CallK.at 71 ?_); refine CallK.puW (fun ms w hkn => parse71 (Sees.rd (Sees.ext (by repeat (first | with_reducible apply At.head | apply At.tail))) hkn) he hrn hrx (by exact hrl)) ?_; conv => whnf)
    | ((with_reducible apply OpK.more); (focus refine sok); (conv => whnf); fail_if_success guard_target =ₛ False)
    | ((with_reducible refine Rounds.step (fun KL hL => ?_)))
    | ((with_reducible refine hL _ _ ?_); clear hL KL)
    | ((with_reducible refine r_rounds 100 ?_))
    | ((with_reducible refine InAt.mk (fun K' hK => ?_)); conv => whnf)
    | ((with_reducible refine AnyAt.mk (fun K' hK => ?_)); conv => whnf)
    | ((with_reducible refine hK _ ?_); clear hK K'; conv => whnf)
    | ((with_reducible refine hK _ _ ?_); clear hK K'; conv => whnf)
    | ((refine And.intro ?_ ?_); all_goals (conv => whnf))
    | (apply r_quiet; refine mixed; kernel_rfl; kernel_rfl; kernel_rfl; conv => whnf)
    | ((refine if_t ?_ ?_); (focus decide); conv => whnf)
    | ((refine if_f ?_ ?_); (focus decide); conv => whnf)
    | ((refine if_decT ?_ ?_); (focus omega); conv => whnf)
    | ((refine if_decF ?_ ?_); (focus omega); conv => whnf)
    | ((refine if_ndecT ?_ ?_); (focus omega); conv => whnf)
    | ((refine if_ndecF ?_ ?_); (focus omega); conv => whnf)
    | ((refine if_dec (fun h => ?_) (fun h => ?_)); all_goals (conv => whnf))
    | ((refine if_ndec (fun h => ?_) (fun h => ?_)); all_goals (conv => whnf))
    | ((refine if_cond (fun h => ?_) (fun h => ?_)); all_goals (conv => whnf))
    | ((with_reducible apply_assumption -symm -exfalso)))
  all_goals exact FinK.roL0 rfl (by (try dsimp only [List.cons_append, List.nil_append, den, denL]); refine SelI.spec ?_; repeat (first | apply SelI.nil | refine SelI.blk (by repeat (first | with_reducible apply Rm.head | apply Rm.tail)) ?_ | refine SelI.ext (by repeat (first | with_reducible apply Rm.head | apply Rm.tail)) ?_ | (refine SelI.blk' (by repeat (first | with_reducible apply Rm.head | apply Rm.tail)) ?_ ?_; focus rfl) | (refine SelI.ext' (by repeat (first | with_reducible apply Rm.head | apply Rm.tail)) ?_ ?_; focus rfl)))

theorem answer2B31 {s t p m : Int} {i : Bool} {g kd : Int} {key : ByteArray} {dl : Int} {fr data : ByteArray} {num : Nat} {enc : List UInt8} (hC : CmdFor s t p m i g kd key dl fr data num enc) {s2 t2 p2 m2 : Int} {i2 : Bool} {g2 : Int} (hy : ItemOk s2 t2 p2 m2 i2 g2) (hne : ¬ itemNum s2 t2 p2 m2 i2 g2 = (num : Int)) {w : World} {d bi f to e : Nat} {n gs tk rn : Int} {mp : Nat} {rx : ByteArray} {S0 : Nat → Prop} (hd : Rdd w [.blk 9 bi [.v (.int .i64 s2), .v (.int .i64 t2), .v (.int .i64 p2), .v (.int .i64 m2), .v (.bool i2), .v (.int .i64 g2), .v (.int .i64 s), .v (.int .i64 t), .v (.int .i64 p), .v (.int .i64 m), .v (.bool i), .v (.int .i64 g)] 48, .blk 3 d (DC n gs tk mp) 81] S0) (hka : KAt w) (hn7 : 1 ≤ n ∧ n ≤ 7) (hgs : g < gs) (hf : (f : Int) < n) (hto : (to : Int) / n = g) (hto2 : to ≤ 55) (hft : f < to ∨ to < f) (he : 0 ≤ (e : Int) ∧ (e : Int) ≤ 18) (hrn : NumOk rn) (hrx : rx.size ≤ 65536) (hrl : (uvar e ++ uvar (zigN rn) ++ uvar rx.size ++ rx.data.toList).length ≤ 65536) (hm : 1 ≤ m) (he0 : e = 0) (hi : i = true) : Pu Tryz.prog 31 #[pv d, .agg #[.int .i64 11, .int .i64 (to : Nat), .int .i64 (f : Nat), .int .i64 0, .int .i64 0, .int .i64 0, .int .i64 (num : Nat), .string ⟨(uvar e ++ uvar (zigN rn) ++ uvar rx.size ++ rx.data.toList).toArray⟩, .slice none 0 0], .slice (some ⟨bi, 0, none⟩) 2 2] w (.tuple #[.agg #[.int .i64 15, .int .i64 0, .int .i64 0, .int .i64 0, .int .i64 0, .int .i64 0, .string ⟨#[]⟩, .int .i64 0, .int .i64 0, .string ⟨#[]⟩, .string ⟨#[]⟩, .int .i64 0, .string ⟨#[]⟩, .int .i64 0, .int .i64 0, .slice none 0 0, .int .i64 s, .int .i64 t, .int .i64 p, .int .i64 m, .bool i, .int .i64 g, .int .i64 (e : Nat), .string ⟨#[]⟩], .bool true]) := by
  subst hi
  have hne0 := hka.offL hd (by simp [DC]; rintro i b cs t (⟨-, -, rfl, -⟩ | ⟨-, -, rfl, -⟩) <;> simp)
  have hok := hC.item
  have hg1 := hok.1
  have hq : IntKind.i64.wrap ((to : Int).tdiv n) = g := by rw [IntWalk.i64_quo _ _ (by omega), hto]
  have hnum' := hC.numEq.symm
  have hnb : 1 ≤ num ∧ num ≤ 1680728 := num_le hok hC.numEq
  have hv' : (ByteArray.mk (uvar e ++ uvar (zigN rn) ++ uvar rx.size ++ rx.data.toList).toArray).data.toList = uvar e ++ (uvar (zigN rn) ++ (uvar rx.size ++ rx.data.toList ++ [])) := by simp
  refine Pu.ofFrZ (enter_roL TBok hd Tryz.func31 rfl rfl Tryz.ntmps31 [.loc d 3 0, .agg [.v (.int .i64 11), .v (.int .i64 (to : Nat)), .v (.int .i64 (f : Nat)), .v (.int .i64 0), .v (.int .i64 0), .v (.int .i64 0), .v (.int .i64 (num : Nat)), .v (.string ⟨(uvar e ++ uvar (zigN rn) ++ uvar rx.size ++ rx.data.toList).toArray⟩), .v (.slice none 0 0)], .slc bi 9 0 2 2] rfl rfl ?_)
  unfold DC
  conv => whnf
  repeat' (first
    | ((with_reducible refine r_seq (fun KS hS => ?_)))
    | ((with_reducible refine r_region ?_); conv => whnf)
    | ((with_reducible refine r_cond (fun KA hA KB hB => ?_)); conv => whnf)
    | ((with_reducible refine hS _ _ ?_); clear hS KS)
    | ((with_reducible refine hA _ ?_); clear hA KA)
    | ((with_reducible refine hB _ ?_); clear hB KB)
    | ((with_reducible refine r_block ?_))
    | ((with_reducible refine r_ret ?_); conv => whnf)
    | ((with_reducible refine r_skip ?_); conv => whnf)
    | ((with_reducible refine r_exit ?_); conv => whnf)
    | ((with_reducible refine WrapK.i64 ?_ ?_); (focus omega); conv => whnf)
    | ((with_reducible refine And.intro rfl ?_); conv => whnf)
    | ((with_reducible intro b); conv => whnf)
    | (apply in68; refine Tryz.ntmps68; rfl; rfl; rfl; intro A; conv => whnf)
    | (apply in69; refine Tryz.ntmps69; rfl; rfl; rfl; intro A; conv => whnf)
    | ((with_reducible refine CallK.at 28 ?_); refine CallK.puW (fun ms w hkn => check_ans28 (hka.now hne0 hkn) (by omega) (by omega) (by omega) (by omega) (by show List.length _ ≤ _; exact hrl)) ?_; conv => whnf)
    | ((with_reducible refine CallK.at 45 ?_); refine CallK.puW (fun ms w hkn => made45 (hkn.got (by repeat (first | constructor | apply List.Mem.tail)))) ?_; conv => whnf)
    | ((with_reducible refine CallQ.at 45 ?_); refine CallQ.puW (fun ms w hkn => made45 (hkn.got (by repeat (first | constructor | apply List.Mem.tail)))) ?_; conv => whnf)
    | ((with_reducible refine CallK.at 70 ?_); refine CallK.pu (fun w => numOk70 hok w) ?_; rw [hnum']; conv => whnf)
    | ((with_reducible refine CallK.at 70 ?_); refine CallK.pu (fun w => numOk70 hy w) ?_; conv => whnf)
    | ((with_reducible refine QuoK.id ?_); refine QuoK.eq (by omega) hq ?_; conv => whnf)
    | ((with_reducible refine OpK.id ?_); refine OpK.cvSB rfl rfl rfl rfl rfl rfl rfl rfl ?_; rw [hv']; conv => whnf)
    | (intro a' cap'; conv => whnf)
    | ((with_reducible refine CallK.at 71 ?_); refine CallK.puW (fun ms w hkn => parse71 (Sees.rd (Sees.ext (by repeat (first | with_reducible apply At.head | apply At.tail))) hkn) he hrn hrx (by exact hrl)) ?_; conv => whnf)
    | ((with_reducible apply OpK.more); (focus refine sok); (conv => whnf); fail_if_success guard_target =ₛ False)
    | ((with_reducible refine Rounds.step (fun KL hL => ?_)))
    | ((with_reducible refine hL _ _ ?_); clear hL KL)
    | ((with_reducible refine r_rounds 100 ?_))
    | ((with_reducible refine InAt.mk (fun K' hK => ?_)); conv => whnf)
    | ((with_reducible refine AnyAt.mk (fun K' hK => ?_)); conv => whnf)
    | ((with_reducible refine hK _ ?_); clear hK K'; conv => whnf)
    | ((with_reducible refine hK _ _ ?_); clear hK K'; conv => whnf)
    | ((refine And.intro ?_ ?_); all_goals (conv => whnf))
    | (apply r_quiet; refine mixed; kernel_rfl; kernel_rfl; kernel_rfl; conv => whnf)
    | ((refine if_t ?_ ?_); (focus decide); conv => whnf)
    | ((refine if_f ?_ ?_); (focus decide); conv => whnf)
    | ((refine if_decT ?_ ?_); (focus omega); conv => whnf)
    | ((refine if_decF ?_ ?_); (focus omega); conv => whnf)
    | ((refine if_ndecT ?_ ?_); (focus omega); conv => whnf)
    | ((refine if_ndecF ?_ ?_); (focus omega); conv => whnf)
    | ((refine if_dec (fun h => ?_) (fun h => ?_)); all_goals (conv => whnf))
    | ((refine if_ndec (fun h => ?_) (fun h => ?_)); all_goals (conv => whnf))
    | ((refine if_cond (fun h => ?_) (fun h => ?_)); all_goals (conv => whnf))
    | ((with_reducible apply_assumption -symm -exfalso)))
  all_goals exact FinK.roL0 rfl (by (try dsimp only [List.cons_append, List.nil_append, den, denL]); refine SelI.spec ?_; repeat (first | apply SelI.nil | refine SelI.blk (by repeat (first | with_reducible apply Rm.head | apply Rm.tail)) ?_ | refine SelI.ext (by repeat (first | with_reducible apply Rm.head | apply Rm.tail)) ?_ | (refine SelI.blk' (by repeat (first | with_reducible apply Rm.head | apply Rm.tail)) ?_ ?_; focus rfl) | (refine SelI.ext' (by repeat (first | with_reducible apply Rm.head | apply Rm.tail)) ?_ ?_; focus rfl)))

theorem answer2C31 {s t p m : Int} {i : Bool} {g kd : Int} {key : ByteArray} {dl : Int} {fr data : ByteArray} {num : Nat} {enc : List UInt8} (hC : CmdFor s t p m i g kd key dl fr data num enc) {s2 t2 p2 m2 : Int} {i2 : Bool} {g2 : Int} (hy : ItemOk s2 t2 p2 m2 i2 g2) (hne : ¬ itemNum s2 t2 p2 m2 i2 g2 = (num : Int)) {w : World} {d bi f to e : Nat} {n gs tk rn : Int} {mp : Nat} {rx : ByteArray} {S0 : Nat → Prop} (hd : Rdd w [.blk 9 bi [.v (.int .i64 s2), .v (.int .i64 t2), .v (.int .i64 p2), .v (.int .i64 m2), .v (.bool i2), .v (.int .i64 g2), .v (.int .i64 s), .v (.int .i64 t), .v (.int .i64 p), .v (.int .i64 m), .v (.bool i), .v (.int .i64 g)] 48, .blk 3 d (DC n gs tk mp) 81] S0) (hka : KAt w) (hn7 : 1 ≤ n ∧ n ≤ 7) (hgs : g < gs) (hf : (f : Int) < n) (hto : (to : Int) / n = g) (hto2 : to ≤ 55) (hft : f < to ∨ to < f) (he : 0 ≤ (e : Int) ∧ (e : Int) ≤ 18) (hrn : NumOk rn) (hrx : rx.size ≤ 65536) (hrl : (uvar e ++ uvar (zigN rn) ++ uvar rx.size ++ rx.data.toList).length ≤ 65536) (hm : 1 ≤ m) (he0 : e = 0) (hi : i = false) : Pu Tryz.prog 31 #[pv d, .agg #[.int .i64 11, .int .i64 (to : Nat), .int .i64 (f : Nat), .int .i64 0, .int .i64 0, .int .i64 0, .int .i64 (num : Nat), .string ⟨(uvar e ++ uvar (zigN rn) ++ uvar rx.size ++ rx.data.toList).toArray⟩, .slice none 0 0], .slice (some ⟨bi, 0, none⟩) 2 2] w (.tuple #[.agg #[.int .i64 15, .int .i64 0, .int .i64 0, .int .i64 0, .int .i64 0, .int .i64 0, .string ⟨#[]⟩, .int .i64 0, .int .i64 0, .string ⟨#[]⟩, .string ⟨#[]⟩, .int .i64 0, .string ⟨#[]⟩, .int .i64 0, .int .i64 0, .slice none 0 0, .int .i64 s, .int .i64 t, .int .i64 p, .int .i64 m, .bool i, .int .i64 g, .int .i64 (e : Nat), .string rx], .bool true]) := by
  subst hi
  have hne0 := hka.offL hd (by simp [DC]; rintro i b cs t (⟨-, -, rfl, -⟩ | ⟨-, -, rfl, -⟩) <;> simp)
  have hok := hC.item
  have hg1 := hok.1
  have hq : IntKind.i64.wrap ((to : Int).tdiv n) = g := by rw [IntWalk.i64_quo _ _ (by omega), hto]
  have hnum' := hC.numEq.symm
  have hnb : 1 ≤ num ∧ num ≤ 1680728 := num_le hok hC.numEq
  have hv' : (ByteArray.mk (uvar e ++ uvar (zigN rn) ++ uvar rx.size ++ rx.data.toList).toArray).data.toList = uvar e ++ (uvar (zigN rn) ++ (uvar rx.size ++ rx.data.toList ++ [])) := by simp
  refine Pu.ofFrZ (enter_roL TBok hd Tryz.func31 rfl rfl Tryz.ntmps31 [.loc d 3 0, .agg [.v (.int .i64 11), .v (.int .i64 (to : Nat)), .v (.int .i64 (f : Nat)), .v (.int .i64 0), .v (.int .i64 0), .v (.int .i64 0), .v (.int .i64 (num : Nat)), .v (.string ⟨(uvar e ++ uvar (zigN rn) ++ uvar rx.size ++ rx.data.toList).toArray⟩), .v (.slice none 0 0)], .slc bi 9 0 2 2] rfl rfl ?_)
  unfold DC
  conv => whnf
  repeat' (first
    | ((with_reducible refine r_seq (fun KS hS => ?_)))
    | ((with_reducible refine r_region ?_); conv => whnf)
    | ((with_reducible refine r_cond (fun KA hA KB hB => ?_)); conv => whnf)
    | ((with_reducible refine hS _ _ ?_); clear hS KS)
    | ((with_reducible refine hA _ ?_); clear hA KA)
    | ((with_reducible refine hB _ ?_); clear hB KB)
    | ((with_reducible refine r_block ?_))
    | ((with_reducible refine r_ret ?_); conv => whnf)
    | ((with_reducible refine r_skip ?_); conv => whnf)
    | ((with_reducible refine r_exit ?_); conv => whnf)
    | ((with_reducible refine WrapK.i64 ?_ ?_); (focus omega); conv => whnf)
    | ((with_reducible refine And.intro rfl ?_); conv => whnf)
    | ((with_reducible intro b); conv => whnf)
    | (apply in68; refine Tryz.ntmps68; rfl; rfl; rfl; intro A; conv => whnf)
    | (apply in69; refine Tryz.ntmps69; rfl; rfl; rfl; intro A; conv => whnf)
    | ((with_reducible refine CallK.at 28 ?_); refine CallK.puW (fun ms w hkn => check_ans28 (hka.now hne0 hkn) (by omega) (by omega) (by omega) (by omega) (by show List.length _ ≤ _; exact hrl)) ?_; conv => whnf)
    | ((with_reducible refine CallK.at 45 ?_); refine CallK.puW (fun ms w hkn => made45 (hkn.got (by repeat (first | constructor | apply List.Mem.tail)))) ?_; conv => whnf)
    | ((with_reducible refine CallQ.at 45 ?_); refine CallQ.puW (fun ms w hkn => made45 (hkn.got (by repeat (first | constructor | apply List.Mem.tail)))) ?_; conv => whnf)
    | ((with_reducible refine CallK.at 70 ?_); refine CallK.pu (fun w => numOk70 hok w) ?_; rw [hnum']; conv => whnf)
    | ((with_reducible refine CallK.at 70 ?_); refine CallK.pu (fun w => numOk70 hy w) ?_; conv => whnf)
    | ((with_reducible refine QuoK.id ?_); refine QuoK.eq (by omega) hq ?_; conv => whnf)
    | ((with_reducible refine OpK.id ?_); refine OpK.cvSB rfl rfl rfl rfl rfl rfl rfl rfl ?_; rw [hv']; conv => whnf)
    | (intro a' cap'; conv => whnf)
    | ((with_reducible refine CallK.at 71 ?_); refine CallK.puW (fun ms w hkn => parse71 (Sees.rd (Sees.ext (by repeat (first | with_reducible apply At.head | apply At.tail))) hkn) he hrn hrx (by exact hrl)) ?_; conv => whnf)
    | ((with_reducible apply OpK.more); (focus refine sok); (conv => whnf); fail_if_success guard_target =ₛ False)
    | ((with_reducible refine Rounds.step (fun KL hL => ?_)))
    | ((with_reducible refine hL _ _ ?_); clear hL KL)
    | ((with_reducible refine r_rounds 100 ?_))
    | ((with_reducible refine InAt.mk (fun K' hK => ?_)); conv => whnf)
    | ((with_reducible refine AnyAt.mk (fun K' hK => ?_)); conv => whnf)
    | ((with_reducible refine hK _ ?_); clear hK K'; conv => whnf)
    | ((with_reducible refine hK _ _ ?_); clear hK K'; conv => whnf)
    | ((refine And.intro ?_ ?_); all_goals (conv => whnf))
    | (apply r_quiet; refine mixed; kernel_rfl; kernel_rfl; kernel_rfl; conv => whnf)
    | ((refine if_t ?_ ?_); (focus decide); conv => whnf)
    | ((refine if_f ?_ ?_); (focus decide); conv => whnf)
    | ((refine if_decT ?_ ?_); (focus omega); conv => whnf)
    | ((refine if_decF ?_ ?_); (focus omega); conv => whnf)
    | ((refine if_ndecT ?_ ?_); (focus omega); conv => whnf)
    | ((refine if_ndecF ?_ ?_); (focus omega); conv => whnf)
    | ((refine if_dec (fun h => ?_) (fun h => ?_)); all_goals (conv => whnf))
    | ((refine if_ndec (fun h => ?_) (fun h => ?_)); all_goals (conv => whnf))
    | ((refine if_cond (fun h => ?_) (fun h => ?_)); all_goals (conv => whnf))
    | ((with_reducible apply_assumption -symm -exfalso)))
  all_goals exact FinK.roL0 rfl (by (try dsimp only [List.cons_append, List.nil_append, den, denL]); refine SelI.spec ?_; repeat (first | apply SelI.nil | refine SelI.blk (by repeat (first | with_reducible apply Rm.head | apply Rm.tail)) ?_ | refine SelI.ext (by repeat (first | with_reducible apply Rm.head | apply Rm.tail)) ?_ | (refine SelI.blk' (by repeat (first | with_reducible apply Rm.head | apply Rm.tail)) ?_ ?_; focus rfl) | (refine SelI.ext' (by repeat (first | with_reducible apply Rm.head | apply Rm.tail)) ?_ ?_; focus rfl)))

theorem answer2D31 {s t p m : Int} {i : Bool} {g kd : Int} {key : ByteArray} {dl : Int} {fr data : ByteArray} {num : Nat} {enc : List UInt8} (hC : CmdFor s t p m i g kd key dl fr data num enc) {s2 t2 p2 m2 : Int} {i2 : Bool} {g2 : Int} (hy : ItemOk s2 t2 p2 m2 i2 g2) (hne : ¬ itemNum s2 t2 p2 m2 i2 g2 = (num : Int)) {w : World} {d bi f to e : Nat} {n gs tk rn : Int} {mp : Nat} {rx : ByteArray} {S0 : Nat → Prop} (hd : Rdd w [.blk 9 bi [.v (.int .i64 s2), .v (.int .i64 t2), .v (.int .i64 p2), .v (.int .i64 m2), .v (.bool i2), .v (.int .i64 g2), .v (.int .i64 s), .v (.int .i64 t), .v (.int .i64 p), .v (.int .i64 m), .v (.bool i), .v (.int .i64 g)] 48, .blk 3 d (DC n gs tk mp) 81] S0) (hka : KAt w) (hn7 : 1 ≤ n ∧ n ≤ 7) (hgs : g < gs) (hf : (f : Int) < n) (hto : (to : Int) / n = g) (hto2 : to ≤ 55) (hft : f < to ∨ to < f) (he : 0 ≤ (e : Int) ∧ (e : Int) ≤ 18) (hrn : NumOk rn) (hrx : rx.size ≤ 65536) (hrl : (uvar e ++ uvar (zigN rn) ++ uvar rx.size ++ rx.data.toList).length ≤ 65536) (hm : 1 ≤ m) (he0 : ¬ e = 0) : Pu Tryz.prog 31 #[pv d, .agg #[.int .i64 11, .int .i64 (to : Nat), .int .i64 (f : Nat), .int .i64 0, .int .i64 0, .int .i64 0, .int .i64 (num : Nat), .string ⟨(uvar e ++ uvar (zigN rn) ++ uvar rx.size ++ rx.data.toList).toArray⟩, .slice none 0 0], .slice (some ⟨bi, 0, none⟩) 2 2] w (.tuple #[.agg #[.int .i64 0, .int .i64 0, .int .i64 0, .int .i64 0, .int .i64 0, .int .i64 0, .string ⟨#[]⟩, .int .i64 0, .int .i64 0, .string ⟨#[]⟩, .string ⟨#[]⟩, .int .i64 0, .string ⟨#[]⟩, .int .i64 0, .int .i64 0, .slice none 0 0, .int .i64 0, .int .i64 0, .int .i64 0, .int .i64 0, .bool false, .int .i64 0, .int .i64 0, .string ⟨#[]⟩], .bool false]) := by
  have hne0 := hka.offL hd (by simp [DC]; rintro i b cs t (⟨-, -, rfl, -⟩ | ⟨-, -, rfl, -⟩) <;> simp)
  have hok := hC.item
  have hg1 := hok.1
  have hq : IntKind.i64.wrap ((to : Int).tdiv n) = g := by rw [IntWalk.i64_quo _ _ (by omega), hto]
  have hnum' := hC.numEq.symm
  have hnb : 1 ≤ num ∧ num ≤ 1680728 := num_le hok hC.numEq
  have hv' : (ByteArray.mk (uvar e ++ uvar (zigN rn) ++ uvar rx.size ++ rx.data.toList).toArray).data.toList = uvar e ++ (uvar (zigN rn) ++ (uvar rx.size ++ rx.data.toList ++ [])) := by simp
  refine Pu.ofFrZ (enter_roL TBok hd Tryz.func31 rfl rfl Tryz.ntmps31 [.loc d 3 0, .agg [.v (.int .i64 11), .v (.int .i64 (to : Nat)), .v (.int .i64 (f : Nat)), .v (.int .i64 0), .v (.int .i64 0), .v (.int .i64 0), .v (.int .i64 (num : Nat)), .v (.string ⟨(uvar e ++ uvar (zigN rn) ++ uvar rx.size ++ rx.data.toList).toArray⟩), .v (.slice none 0 0)], .slc bi 9 0 2 2] rfl rfl ?_)
  unfold DC
  conv => whnf
  repeat' (first
    | ((with_reducible refine r_seq (fun KS hS => ?_)))
    | ((with_reducible refine r_region ?_); conv => whnf)
    | ((with_reducible refine r_cond (fun KA hA KB hB => ?_)); conv => whnf)
    | ((with_reducible refine hS _ _ ?_); clear hS KS)
    | ((with_reducible refine hA _ ?_); clear hA KA)
    | ((with_reducible refine hB _ ?_); clear hB KB)
    | ((with_reducible refine r_block ?_))
    | ((with_reducible refine r_ret ?_); conv => whnf)
    | ((with_reducible refine r_skip ?_); conv => whnf)
    | ((with_reducible refine r_exit ?_); conv => whnf)
    | ((with_reducible refine WrapK.i64 ?_ ?_); (focus omega); conv => whnf)
    | ((with_reducible refine And.intro rfl ?_); conv => whnf)
    | ((with_reducible intro b); conv => whnf)
    | (apply in68; refine Tryz.ntmps68; rfl; rfl; rfl; intro A; conv => whnf)
    | (apply in69; refine Tryz.ntmps69; rfl; rfl; rfl; intro A; conv => whnf)
    | ((with_reducible refine CallK.at 28 ?_); refine CallK.puW (fun ms w hkn => check_ans28 (hka.now hne0 hkn) (by omega) (by omega) (by omega) (by omega) (by show List.length _ ≤ _; exact hrl)) ?_; conv => whnf)
    | ((with_reducible refine CallK.at 45 ?_); refine CallK.puW (fun ms w hkn => made45 (hkn.got (by repeat (first | constructor | apply List.Mem.tail)))) ?_; conv => whnf)
    | ((with_reducible refine CallQ.at 45 ?_); refine CallQ.puW (fun ms w hkn => made45 (hkn.got (by repeat (first | constructor | apply List.Mem.tail)))) ?_; conv => whnf)
    | ((with_reducible refine CallK.at 70 ?_); refine CallK.pu (fun w => numOk70 hok w) ?_; rw [hnum']; conv => whnf)
    | ((with_reducible refine CallK.at 70 ?_); refine CallK.pu (fun w => numOk70 hy w) ?_; conv => whnf)
    | ((with_reducible refine QuoK.id ?_); refine QuoK.eq (by omega) hq ?_; conv => whnf)
    | ((with_reducible refine OpK.id ?_); refine OpK.cvSB rfl rfl rfl rfl rfl rfl rfl rfl ?_; rw [hv']; conv => whnf)
    | (intro a' cap'; conv => whnf)
    | ((with_reducible refine CallK.at 71 ?_); refine CallK.puW (fun ms w hkn => parse71 (Sees.rd (Sees.ext (by repeat (first | with_reducible apply At.head | apply At.tail))) hkn) he hrn hrx (by exact hrl)) ?_; conv => whnf)
    | ((with_reducible apply OpK.more); (focus refine sok); (conv => whnf); fail_if_success guard_target =ₛ False)
    | ((with_reducible refine Rounds.step (fun KL hL => ?_)))
    | ((with_reducible refine hL _ _ ?_); clear hL KL)
    | ((with_reducible refine r_rounds 100 ?_))
    | ((with_reducible refine InAt.mk (fun K' hK => ?_)); conv => whnf)
    | ((with_reducible refine AnyAt.mk (fun K' hK => ?_)); conv => whnf)
    | ((with_reducible refine hK _ ?_); clear hK K'; conv => whnf)
    | ((with_reducible refine hK _ _ ?_); clear hK K'; conv => whnf)
    | ((refine And.intro ?_ ?_); all_goals (conv => whnf))
    | (apply r_quiet; refine mixed; kernel_rfl; kernel_rfl; kernel_rfl; conv => whnf)
    | ((refine if_t ?_ ?_); (focus decide); conv => whnf)
    | ((refine if_f ?_ ?_); (focus decide); conv => whnf)
    | ((refine if_decT ?_ ?_); (focus omega); conv => whnf)
    | ((refine if_decF ?_ ?_); (focus omega); conv => whnf)
    | ((refine if_ndecT ?_ ?_); (focus omega); conv => whnf)
    | ((refine if_ndecF ?_ ?_); (focus omega); conv => whnf)
    | ((refine if_dec (fun h => ?_) (fun h => ?_)); all_goals (conv => whnf))
    | ((refine if_ndec (fun h => ?_) (fun h => ?_)); all_goals (conv => whnf))
    | ((refine if_cond (fun h => ?_) (fun h => ?_)); all_goals (conv => whnf))
    | ((with_reducible apply_assumption -symm -exfalso)))
  all_goals exact FinK.roL0 rfl (by (try dsimp only [List.cons_append, List.nil_append, den, denL]); refine SelI.spec ?_; repeat (first | apply SelI.nil | refine SelI.blk (by repeat (first | with_reducible apply Rm.head | apply Rm.tail)) ?_ | refine SelI.ext (by repeat (first | with_reducible apply Rm.head | apply Rm.tail)) ?_ | (refine SelI.blk' (by repeat (first | with_reducible apply Rm.head | apply Rm.tail)) ?_ ?_; focus rfl) | (refine SelI.ext' (by repeat (first | with_reducible apply Rm.head | apply Rm.tail)) ?_ ?_; focus rfl)))

theorem answer1N31 {s t p m : Int} {i : Bool} {g kd : Int} {key : ByteArray} {dl : Int} {fr data : ByteArray} {num : Nat} {enc : List UInt8} (hC : CmdFor s t p m i g kd key dl fr data num enc) {s2 t2 p2 m2 : Int} {i2 : Bool} {g2 : Int} (hy : ItemOk s2 t2 p2 m2 i2 g2) (hne : ¬ itemNum s2 t2 p2 m2 i2 g2 = (num : Int)) {w : World} {d bi f to e : Nat} {n gs tk rn : Int} {mp : Nat} {rx : ByteArray} {S0 : Nat → Prop} (hd : Rdd w [.blk 9 bi [.v (.int .i64 s2), .v (.int .i64 t2), .v (.int .i64 p2), .v (.int .i64 m2), .v (.bool i2), .v (.int .i64 g2)] 48, .blk 3 d (DC n gs tk mp) 81] S0) (hka : KAt w) (hn7 : 1 ≤ n ∧ n ≤ 7) (hgs : g < gs) (hf : (f : Int) < n) (hto : (to : Int) / n = g) (hto2 : to ≤ 55) (hft : f < to ∨ to < f) (he : 0 ≤ (e : Int) ∧ (e : Int) ≤ 18) (hrn : NumOk rn) (hrx : rx.size ≤ 65536) (hrl : (uvar e ++ uvar (zigN rn) ++ uvar rx.size ++ rx.data.toList).length ≤ 65536)  : Pu Tryz.prog 31 #[pv d, .agg #[.int .i64 11, .int .i64 (to : Nat), .int .i64 (f : Nat), .int .i64 0, .int .i64 0, .int .i64 0, .int .i64 (num : Nat), .string ⟨(uvar e ++ uvar (zigN rn) ++ uvar rx.size ++ rx.data.toList).toArray⟩, .slice none 0 0], .slice (some ⟨bi, 0, none⟩) 1 1] w (.tuple #[.agg #[.int .i64 0, .int .i64 0, .int .i64 0, .int .i64 0, .int .i64 0, .int .i64 0, .string ⟨#[]⟩, .int .i64 0, .int .i64 0, .string ⟨#[]⟩, .string ⟨#[]⟩, .int .i64 0, .string ⟨#[]⟩, .int .i64 0, .int .i64 0, .slice none 0 0, .int .i64 0, .int .i64 0, .int .i64 0, .int .i64 0, .bool false, .int .i64 0, .int .i64 0, .string ⟨#[]⟩], .bool false]) := by
  have hne0 := hka.offL hd (by simp [DC]; rintro i b cs t (⟨-, -, rfl, -⟩ | ⟨-, -, rfl, -⟩) <;> simp)
  have hok := hC.item
  have hg1 := hok.1
  have hq : IntKind.i64.wrap ((to : Int).tdiv n) = g := by rw [IntWalk.i64_quo _ _ (by omega), hto]
  have hnum' := hC.numEq.symm
  have hnb : 1 ≤ num ∧ num ≤ 1680728 := num_le hok hC.numEq
  have hv' : (ByteArray.mk (uvar e ++ uvar (zigN rn) ++ uvar rx.size ++ rx.data.toList).toArray).data.toList = uvar e ++ (uvar (zigN rn) ++ (uvar rx.size ++ rx.data.toList ++ [])) := by simp
  refine Pu.ofFrZ (enter_roL TBok hd Tryz.func31 rfl rfl Tryz.ntmps31 [.loc d 3 0, .agg [.v (.int .i64 11), .v (.int .i64 (to : Nat)), .v (.int .i64 (f : Nat)), .v (.int .i64 0), .v (.int .i64 0), .v (.int .i64 0), .v (.int .i64 (num : Nat)), .v (.string ⟨(uvar e ++ uvar (zigN rn) ++ uvar rx.size ++ rx.data.toList).toArray⟩), .v (.slice none 0 0)], .slc bi 9 0 1 1] rfl rfl ?_)
  unfold DC
  conv => whnf
  repeat' (first
    | ((with_reducible refine r_seq (fun KS hS => ?_)))
    | ((with_reducible refine r_region ?_); conv => whnf)
    | ((with_reducible refine r_cond (fun KA hA KB hB => ?_)); conv => whnf)
    | ((with_reducible refine hS _ _ ?_); clear hS KS)
    | ((with_reducible refine hA _ ?_); clear hA KA)
    | ((with_reducible refine hB _ ?_); clear hB KB)
    | ((with_reducible refine r_block ?_))
    | ((with_reducible refine r_ret ?_); conv => whnf)
    | ((with_reducible refine r_skip ?_); conv => whnf)
    | ((with_reducible refine r_exit ?_); conv => whnf)
    | ((with_reducible refine WrapK.i64 ?_ ?_); (focus omega); conv => whnf)
    | ((with_reducible refine And.intro rfl ?_); conv => whnf)
    | ((with_reducible intro b); conv => whnf)
    | (apply in68; refine Tryz.ntmps68; rfl; rfl; rfl; intro A; conv => whnf)
    | (apply in69; refine Tryz.ntmps69; rfl; rfl; rfl; intro A; conv => whnf)
    | ((with_reducible refine CallK.at 28 ?_); refine CallK.puW (fun ms w hkn => check_ans28 (hka.now hne0 hkn) (by omega) (by omega) (by omega) (by omega) (by show List.length _ ≤ _; exact hrl)) ?_; conv => whnf)
    | ((with_reducible refine CallK.at 45 ?_); refine CallK.puW (fun ms w hkn => made45 (hkn.got (by repeat (first | constructor | apply List.Mem.tail)))) ?_; conv => whnf)
    | ((with_reducible refine CallQ.at 45 ?_); refine CallQ.puW (fun ms w hkn => made45 (hkn.got (by repeat (first | constructor | apply List.Mem.tail)))) ?_; conv => whnf)
    | ((with_reducible refine CallK.at 70 ?_); refine CallK.pu (fun w => numOk70 hok w) ?_; rw [hnum']; conv => whnf)
    | ((with_reducible refine CallK.at 70 ?_); refine CallK.pu (fun w => numOk70 hy w) ?_; conv => whnf)
    | ((with_reducible refine QuoK.id ?_); refine QuoK.eq (by omega) hq ?_; conv => whnf)
    | ((with_reducible refine OpK.id ?_); refine OpK.cvSB rfl rfl rfl rfl rfl rfl rfl rfl ?_; rw [hv']; conv => whnf)
    | (intro a' cap'; conv => whnf)
    | ((with_reducible refine CallK.at 71 ?_); refine CallK.puW (fun ms w hkn => parse71 (Sees.rd (Sees.ext (by repeat (first | with_reducible apply At.head | apply At.tail))) hkn) he hrn hrx (by exact hrl)) ?_; conv => whnf)
    | ((with_reducible apply OpK.more); (focus refine sok); (conv => whnf); fail_if_success guard_target =ₛ False)
    | ((with_reducible refine Rounds.step (fun KL hL => ?_)))
    | ((with_reducible refine hL _ _ ?_); clear hL KL)
    | ((with_reducible refine r_rounds 100 ?_))
    | ((with_reducible refine InAt.mk (fun K' hK => ?_)); conv => whnf)
    | ((with_reducible refine AnyAt.mk (fun K' hK => ?_)); conv => whnf)
    | ((with_reducible refine hK _ ?_); clear hK K'; conv => whnf)
    | ((with_reducible refine hK _ _ ?_); clear hK K'; conv => whnf)
    | ((refine And.intro ?_ ?_); all_goals (conv => whnf))
    | (apply r_quiet; refine mixed; kernel_rfl; kernel_rfl; kernel_rfl; conv => whnf)
    | ((refine if_t ?_ ?_); (focus decide); conv => whnf)
    | ((refine if_f ?_ ?_); (focus decide); conv => whnf)
    | ((refine if_decT ?_ ?_); (focus omega); conv => whnf)
    | ((refine if_decF ?_ ?_); (focus omega); conv => whnf)
    | ((refine if_ndecT ?_ ?_); (focus omega); conv => whnf)
    | ((refine if_ndecF ?_ ?_); (focus omega); conv => whnf)
    | ((refine if_dec (fun h => ?_) (fun h => ?_)); all_goals (conv => whnf))
    | ((refine if_ndec (fun h => ?_) (fun h => ?_)); all_goals (conv => whnf))
    | ((refine if_cond (fun h => ?_) (fun h => ?_)); all_goals (conv => whnf))
    | ((with_reducible apply_assumption -symm -exfalso)))
  all_goals exact FinK.roL0 rfl (by (try dsimp only [List.cons_append, List.nil_append, den, denL]); refine SelI.spec ?_; repeat (first | apply SelI.nil | refine SelI.blk (by repeat (first | with_reducible apply Rm.head | apply Rm.tail)) ?_ | refine SelI.ext (by repeat (first | with_reducible apply Rm.head | apply Rm.tail)) ?_ | (refine SelI.blk' (by repeat (first | with_reducible apply Rm.head | apply Rm.tail)) ?_ ?_; focus rfl) | (refine SelI.ext' (by repeat (first | with_reducible apply Rm.head | apply Rm.tail)) ?_ ?_; focus rfl)))

theorem answer0N31 {s t p m : Int} {i : Bool} {g kd : Int} {key : ByteArray} {dl : Int} {fr data : ByteArray} {num : Nat} {enc : List UInt8} (hC : CmdFor s t p m i g kd key dl fr data num enc) {w : World} {d f to e : Nat} {n gs tk rn : Int} {mp : Nat} {rx : ByteArray} {S0 : Nat → Prop} (hd : Rdd w [.blk 3 d (DC n gs tk mp) 81] S0) (hka : KAt w) (hn7 : 1 ≤ n ∧ n ≤ 7) (hgs : g < gs) (hf : (f : Int) < n) (hto : (to : Int) / n = g) (hto2 : to ≤ 55) (hft : f < to ∨ to < f) (he : 0 ≤ (e : Int) ∧ (e : Int) ≤ 18) (hrn : NumOk rn) (hrx : rx.size ≤ 65536) (hrl : (uvar e ++ uvar (zigN rn) ++ uvar rx.size ++ rx.data.toList).length ≤ 65536)  : Pu Tryz.prog 31 #[pv d, .agg #[.int .i64 11, .int .i64 (to : Nat), .int .i64 (f : Nat), .int .i64 0, .int .i64 0, .int .i64 0, .int .i64 (num : Nat), .string ⟨(uvar e ++ uvar (zigN rn) ++ uvar rx.size ++ rx.data.toList).toArray⟩, .slice none 0 0], .slice none 0 0] w (.tuple #[.agg #[.int .i64 0, .int .i64 0, .int .i64 0, .int .i64 0, .int .i64 0, .int .i64 0, .string ⟨#[]⟩, .int .i64 0, .int .i64 0, .string ⟨#[]⟩, .string ⟨#[]⟩, .int .i64 0, .string ⟨#[]⟩, .int .i64 0, .int .i64 0, .slice none 0 0, .int .i64 0, .int .i64 0, .int .i64 0, .int .i64 0, .bool false, .int .i64 0, .int .i64 0, .string ⟨#[]⟩], .bool false]) := by
  have hne0 := hka.offL hd (by simp [DC]; rintro i b cs t - - rfl -; simp)
  have hok := hC.item
  have hg1 := hok.1
  have hq : IntKind.i64.wrap ((to : Int).tdiv n) = g := by rw [IntWalk.i64_quo _ _ (by omega), hto]
  have hnum' := hC.numEq.symm
  have hnb : 1 ≤ num ∧ num ≤ 1680728 := num_le hok hC.numEq
  have hv' : (ByteArray.mk (uvar e ++ uvar (zigN rn) ++ uvar rx.size ++ rx.data.toList).toArray).data.toList = uvar e ++ (uvar (zigN rn) ++ (uvar rx.size ++ rx.data.toList ++ [])) := by simp
  refine Pu.ofFrZ (enter_roL TBok hd Tryz.func31 rfl rfl Tryz.ntmps31 [.loc d 3 0, .agg [.v (.int .i64 11), .v (.int .i64 (to : Nat)), .v (.int .i64 (f : Nat)), .v (.int .i64 0), .v (.int .i64 0), .v (.int .i64 0), .v (.int .i64 (num : Nat)), .v (.string ⟨(uvar e ++ uvar (zigN rn) ++ uvar rx.size ++ rx.data.toList).toArray⟩), .v (.slice none 0 0)], .v (.slice none 0 0)] rfl rfl ?_)
  unfold DC
  conv => whnf
  repeat' (first
    | ((with_reducible refine r_seq (fun KS hS => ?_)))
    | ((with_reducible refine r_region ?_); conv => whnf)
    | ((with_reducible refine r_cond (fun KA hA KB hB => ?_)); conv => whnf)
    | ((with_reducible refine hS _ _ ?_); clear hS KS)
    | ((with_reducible refine hA _ ?_); clear hA KA)
    | ((with_reducible refine hB _ ?_); clear hB KB)
    | ((with_reducible refine r_block ?_))
    | ((with_reducible refine r_ret ?_); conv => whnf)
    | ((with_reducible refine r_skip ?_); conv => whnf)
    | ((with_reducible refine r_exit ?_); conv => whnf)
    | ((with_reducible refine WrapK.i64 ?_ ?_); (focus omega); conv => whnf)
    | ((with_reducible refine And.intro rfl ?_); conv => whnf)
    | ((with_reducible intro b); conv => whnf)
    | (apply in68; refine Tryz.ntmps68; rfl; rfl; rfl; intro A; conv => whnf)
    | (apply in69; refine Tryz.ntmps69; rfl; rfl; rfl; intro A; conv => whnf)
    | ((with_reducible refine CallK.at 28 ?_); refine CallK.puW (fun ms w hkn => check_ans28 (hka.now hne0 hkn) (by omega) (by omega) (by omega) (by omega) (by show List.length _ ≤ _; exact hrl)) ?_; conv => whnf)
    | ((with_reducible refine CallK.at 45 ?_); refine CallK.puW (fun ms w hkn => made45 (hkn.got (by repeat (first | constructor | apply List.Mem.tail)))) ?_; conv => whnf)
    | ((with_reducible refine CallQ.at 45 ?_); refine CallQ.puW (fun ms w hkn => made45 (hkn.got (by repeat (first | constructor | apply List.Mem.tail)))) ?_; conv => whnf)
    | ((with_reducible refine CallK.at 70 ?_); refine CallK.pu (fun w => numOk70 hok w) ?_; rw [hnum']; conv => whnf)
    | ((with_reducible refine QuoK.id ?_); refine QuoK.eq (by omega) hq ?_; conv => whnf)
    | ((with_reducible refine OpK.id ?_); refine OpK.cvSB rfl rfl rfl rfl rfl rfl rfl rfl ?_; rw [hv']; conv => whnf)
    | (intro a' cap'; conv => whnf)
    | ((with_reducible refine CallK.at 71 ?_); refine CallK.puW (fun ms w hkn => parse71 (Sees.rd (Sees.ext (by repeat (first | with_reducible apply At.head | apply At.tail))) hkn) he hrn hrx (by exact hrl)) ?_; conv => whnf)
    | ((with_reducible apply OpK.more); (focus refine sok); (conv => whnf); fail_if_success guard_target =ₛ False)
    | ((with_reducible refine Rounds.step (fun KL hL => ?_)))
    | ((with_reducible refine hL _ _ ?_); clear hL KL)
    | ((with_reducible refine r_rounds 100 ?_))
    | ((with_reducible refine InAt.mk (fun K' hK => ?_)); conv => whnf)
    | ((with_reducible refine AnyAt.mk (fun K' hK => ?_)); conv => whnf)
    | ((with_reducible refine hK _ ?_); clear hK K'; conv => whnf)
    | ((with_reducible refine hK _ _ ?_); clear hK K'; conv => whnf)
    | ((refine And.intro ?_ ?_); all_goals (conv => whnf))
    | (apply r_quiet; refine mixed; kernel_rfl; kernel_rfl; kernel_rfl; conv => whnf)
    | ((refine if_t ?_ ?_); (focus decide); conv => whnf)
    | ((refine if_f ?_ ?_); (focus decide); conv => whnf)
    | ((refine if_decT ?_ ?_); (focus omega); conv => whnf)
    | ((refine if_decF ?_ ?_); (focus omega); conv => whnf)
    | ((refine if_ndecT ?_ ?_); (focus omega); conv => whnf)
    | ((refine if_ndecF ?_ ?_); (focus omega); conv => whnf)
    | ((refine if_dec (fun h => ?_) (fun h => ?_)); all_goals (conv => whnf))
    | ((refine if_ndec (fun h => ?_) (fun h => ?_)); all_goals (conv => whnf))
    | ((refine if_cond (fun h => ?_) (fun h => ?_)); all_goals (conv => whnf))
    | ((with_reducible apply_assumption -symm -exfalso)))
  all_goals exact FinK.roL0 rfl (by (try dsimp only [List.cons_append, List.nil_append, den, denL]); refine SelI.spec ?_; repeat (first | apply SelI.nil | refine SelI.blk (by repeat (first | with_reducible apply Rm.head | apply Rm.tail)) ?_ | refine SelI.ext (by repeat (first | with_reducible apply Rm.head | apply Rm.tail)) ?_ | (refine SelI.blk' (by repeat (first | with_reducible apply Rm.head | apply Rm.tail)) ?_ ?_; focus rfl) | (refine SelI.ext' (by repeat (first | with_reducible apply Rm.head | apply Rm.tail)) ?_ ?_; focus rfl)))

end Go.Proofs.YtbgnoibellfojaaGreatDoor
