/- Contracts and lemmas for the claim (part 5); no condition of its own. -/
import Derived.Test.YthmjkaljkgjicaaGreatDoorYDC1204
set_option linter.all false
set_option linter.unusedVariables false
set_option linter.unusedSimpArgs false
set_option linter.unnecessarySimpa false
namespace Go.Proofs.YthmjkaljkgjicaaGreatDoor
open Go Go.X
set_option maxRecDepth 100000
set_option maxHeartbeats 0
theorem i64_xor0 {x : Nat} (h : x < 2 ^ 63) : IntKind.i64.wrap (bitN .xor .i64 (x : Int) 0) = x := by
  have h1 : bitN .xor .i64 (x : Int) 0 = x := by
    show (BitVec.ofInt 64 (x : Int) ^^^ BitVec.ofInt 64 0).toNat = x
    rw [show BitVec.ofInt 64 0 = 0#64 by rfl, BitVec.xor_zero, BitVec.ofInt_natCast, BitVec.toNat_ofNat]
    exact Nat.mod_eq_of_lt (by omega)
  rw [h1]
  exact IntWalk.i64_in _ (by omega)
theorem i64_xor1 {x : Nat} (h : x < 2 ^ 63) : IntKind.i64.wrap (bitN .xor .i64 (x : Int) (-1)) = -(x : Int) - 1 := by
  have h1 : bitN .xor .i64 (x : Int) (-1) = 2 ^ 64 - 1 - x := by
    show (BitVec.ofInt 64 (x : Int) ^^^ BitVec.ofInt 64 (-1)).toNat = _
    rw [show BitVec.ofInt 64 (-1) = BitVec.allOnes 64 by rfl, BitVec.xor_allOnes, BitVec.ofInt_natCast, BitVec.toNat_not, BitVec.toNat_ofNat, Nat.mod_eq_of_lt (by omega)]
  rw [h1, IntKind.wrap_i64]
  omega
theorem u64_and1 (x : Nat) (h : x < 2 ^ 64) : IntKind.u64.wrap (bitN .and .u64 (x : Int) 1) = ((x % 2 : Nat) : Int) := by
  have h1 : bitN .and .u64 (x : Int) 1 = x % 2 := by
    show (BitVec.ofInt 64 (x : Int) &&& BitVec.ofInt 64 1).toNat = _
    rw [BitVec.toNat_and, BitVec.ofInt_natCast, BitVec.toNat_ofNat, Nat.mod_eq_of_lt (by omega), show (BitVec.ofInt 64 1).toNat = 1 by rfl, Nat.and_one_is_mod]
  rw [h1]
  exact IntWalk.u64_in _ (by omega)
theorem shr1 (m : Nat) : (m : Int).fdiv (2 ^ min (Int.toNat 1) IntKind.u64.bits) = ((m / 2 : Nat) : Int) := by
  have e : (2 : Int) ^ min (Int.toNat 1) IntKind.u64.bits = 2 := by decide
  rw [e, Int.fdiv_eq_ediv_of_nonneg _ (by omega)]
  omega
theorem zag197 {u : Nat} (hu : u < 2 ^ 64) (w : World) : Pu Tryz.prog 118 #[.int .u64 u] w (.int .i64 (zagI u)) := by
  refine enter_sound TBok Tryz.func118 rfl rfl Tryz.ntmps118 [.v (.int .u64 u)] (Kn.start w noS) rfl rfl ?_
  conv => whnf
  repeat' (first
 | with_reducible (first | refine r_seq (fun KS hS => ?_) | (refine hS _ _ ?_; clear hS KS) | (refine hA _ ?_; clear hA KA) | (refine hB _ ?_; clear hB KB) | refine r_block ?_)
 | ((with_reducible (first | refine r_region ?_ | refine r_cond (fun KA hA KB hB => ?_) | refine r_ret ?_ | refine r_skip ?_ | refine r_exit ?_ | refine And.intro rfl ?_ | intro b)); conv => whnf)
 | ((with_reducible refine WrapK.i64 ?_ ?_); (focus omega); conv => whnf)
 | ((with_reducible refine OpK.id ?_); refine OpK.shr rfl rfl rfl (by omega) (shr1 u) ?_; conv => whnf)
 | (refine BitK.eq (u64_and1 u hu) ?_; conv => whnf)
 | ((with_reducible apply OpK.more); (focus refine sok); (conv => whnf); fail_if_success guard_target =ₛ False)
 | ((with_reducible (first | refine InAt.mk (fun K' hK => ?_) | refine AnyAt.mk (fun K' hK => ?_) | (refine hK _ ?_; clear hK K') | (refine hK _ _ ?_; clear hK K'))); conv => whnf)
 | ((refine And.intro ?_ ?_); all_goals (conv => whnf))
 | (apply r_quiet; refine mixed; kernel_rfl; kernel_rfl; kernel_rfl; conv => whnf)
 | ((first | refine if_t (by decide) ?_ | refine if_f (by decide) ?_ | refine if_decT (by omega) ?_ | refine if_decF (by omega) ?_ | refine if_ndecT (by omega) ?_ | refine if_ndecF (by omega) ?_); conv => whnf)
 | ((first | refine if_dec (fun h => ?_) (fun h => ?_) | refine if_ndec (fun h => ?_) (fun h => ?_) | refine if_cond (fun h => ?_) (fun h => ?_)); all_goals (conv => whnf))
 | with_reducible apply_assumption -symm -exfalso)
  by_cases h : u % 2 = 0
  · refine BitK.eq (z := ((u / 2 : Nat) : Int)) ?_ ?_
    · rw [h]
      exact i64_xor0 (by omega)
    conv => whnf
    repeat' (first
 | with_reducible (first | refine r_seq (fun KS hS => ?_) | (refine hS _ _ ?_; clear hS KS) | (refine hA _ ?_; clear hA KA) | (refine hB _ ?_; clear hB KB) | refine r_block ?_)
 | ((with_reducible (first | refine r_region ?_ | refine r_cond (fun KA hA KB hB => ?_) | refine r_ret ?_ | refine r_skip ?_ | refine r_exit ?_ | refine And.intro rfl ?_ | intro b)); conv => whnf)
 | ((with_reducible refine WrapK.i64 ?_ ?_); (focus omega); conv => whnf)
 | ((with_reducible apply OpK.more); (focus refine sok); (conv => whnf); fail_if_success guard_target =ₛ False)
 | ((with_reducible (first | refine InAt.mk (fun K' hK => ?_) | refine AnyAt.mk (fun K' hK => ?_) | (refine hK _ ?_; clear hK K') | (refine hK _ _ ?_; clear hK K'))); conv => whnf)
 | ((refine And.intro ?_ ?_); all_goals (conv => whnf))
 | (apply r_quiet; refine mixed; kernel_rfl; kernel_rfl; kernel_rfl; conv => whnf)
 | ((first | refine if_t (by decide) ?_ | refine if_f (by decide) ?_ | refine if_decT (by omega) ?_ | refine if_decF (by omega) ?_ | refine if_ndecT (by omega) ?_ | refine if_ndecF (by omega) ?_); conv => whnf)
 | ((first | refine if_dec (fun h => ?_) (fun h => ?_) | refine if_ndec (fun h => ?_) (fun h => ?_) | refine if_cond (fun h => ?_) (fun h => ?_)); all_goals (conv => whnf))
 | with_reducible apply_assumption -symm -exfalso)
    refine FinK.pu ?_
    simp [den, zagI, h]
  · refine BitK.eq (z := -((u / 2 : Nat) : Int) - 1) ?_ ?_
    · rw [show u % 2 = 1 by omega]
      exact i64_xor1 (by omega)
    conv => whnf
    repeat' (first
 | with_reducible (first | refine r_seq (fun KS hS => ?_) | (refine hS _ _ ?_; clear hS KS) | (refine hA _ ?_; clear hA KA) | (refine hB _ ?_; clear hB KB) | refine r_block ?_)
 | ((with_reducible (first | refine r_region ?_ | refine r_cond (fun KA hA KB hB => ?_) | refine r_ret ?_ | refine r_skip ?_ | refine r_exit ?_ | refine And.intro rfl ?_ | intro b)); conv => whnf)
 | ((with_reducible refine WrapK.i64 ?_ ?_); (focus omega); conv => whnf)
 | ((with_reducible apply OpK.more); (focus refine sok); (conv => whnf); fail_if_success guard_target =ₛ False)
 | ((with_reducible (first | refine InAt.mk (fun K' hK => ?_) | refine AnyAt.mk (fun K' hK => ?_) | (refine hK _ ?_; clear hK K') | (refine hK _ _ ?_; clear hK K'))); conv => whnf)
 | ((refine And.intro ?_ ?_); all_goals (conv => whnf))
 | (apply r_quiet; refine mixed; kernel_rfl; kernel_rfl; kernel_rfl; conv => whnf)
 | ((first | refine if_t (by decide) ?_ | refine if_f (by decide) ?_ | refine if_decT (by omega) ?_ | refine if_decF (by omega) ?_ | refine if_ndecT (by omega) ?_ | refine if_ndecF (by omega) ?_); conv => whnf)
 | ((first | refine if_dec (fun h => ?_) (fun h => ?_) | refine if_ndec (fun h => ?_) (fun h => ?_) | refine if_cond (fun h => ?_) (fun h => ?_)); all_goals (conv => whnf))
 | with_reducible apply_assumption -symm -exfalso)
    refine FinK.pu ?_
    simp [den, zagI, h]
theorem u64_xor0 {x : Nat} (h : x < 2 ^ 64) : IntKind.u64.wrap (bitN .xor .u64 (x : Int) 0) = x := by
  have h1 : bitN .xor .u64 (x : Int) 0 = x := by
    show (BitVec.ofInt 64 (x : Int) ^^^ BitVec.ofInt 64 0).toNat = x
    rw [show BitVec.ofInt 64 0 = 0#64 by rfl, BitVec.xor_zero, BitVec.ofInt_natCast, BitVec.toNat_ofNat]
    exact Nat.mod_eq_of_lt h
  rw [h1]
  exact IntWalk.u64_in _ (by omega)
theorem u64_xor1 {x : Nat} (h : x < 2 ^ 64) : IntKind.u64.wrap (bitN .xor .u64 (x : Int) 18446744073709551615) = 18446744073709551615 - (x : Int) := by
  have h1 : bitN .xor .u64 (x : Int) 18446744073709551615 = 2 ^ 64 - 1 - x := by
    show (BitVec.ofInt 64 (x : Int) ^^^ BitVec.ofInt 64 18446744073709551615).toNat = _
    rw [show BitVec.ofInt 64 18446744073709551615 = BitVec.allOnes 64 by rfl, BitVec.xor_allOnes, BitVec.ofInt_natCast, BitVec.toNat_not, BitVec.toNat_ofNat, Nat.mod_eq_of_lt (by omega)]
  rw [h1]
  have : ((2 ^ 64 - 1 - x : Nat) : Int) = 18446744073709551615 - (x : Int) := by omega
  rw [this]
  exact IntWalk.u64_in _ (by omega)
theorem u64_neg {a : Int} (h : -18446744073709551616 ≤ a ∧ a < 0) : IntKind.u64.wrap a = a + 18446744073709551616 := by
  simp [IntKind.wrap, IntKind.bits, IntKind.signed]; omega
theorem shl1 (z : Int) : IntKind.u64.wrap (z * 2 ^ min (Int.toNat 1) IntKind.u64.bits) = IntKind.u64.wrap (2 * z) := by
  have e : (2 : Int) ^ min (Int.toNat 1) IntKind.u64.bits = 2 := by decide
  rw [e, Int.mul_comm]
theorem u64_big {a : Int} (h : 18446744073709551616 ≤ a ∧ a < 36893488147419103232) : IntKind.u64.wrap a = a - 18446744073709551616 := by
  simp [IntKind.wrap, IntKind.bits, IntKind.signed]; omega
theorem shr63p {a : Int} (h : 0 ≤ a) (h2 : a ≤ 9223372036854775807) : a.fdiv (2 ^ min (Int.toNat 63) IntKind.i64.bits) = 0 := by
  have e : (2 : Int) ^ min (Int.toNat 63) IntKind.i64.bits = 9223372036854775808 := by decide
  rw [e, Int.fdiv_eq_ediv_of_nonneg _ (by omega)]
  omega
theorem shr63n {a : Int} (h : a < 0) (h2 : -9223372036854775808 ≤ a) : a.fdiv (2 ^ min (Int.toNat 63) IntKind.i64.bits) = -1 := by
  have e : (2 : Int) ^ min (Int.toNat 63) IntKind.i64.bits = 9223372036854775808 := by decide
  rw [e, Int.fdiv_eq_ediv_of_nonneg _ (by omega)]
  omega
theorem zigN_pos {a : Int} (h : 0 ≤ a) : (zigN a : Int) = 2 * a := by unfold zigN; rw [if_pos h]; omega
theorem zigN_neg {a : Int} (h : a < 0) : (zigN a : Int) = -2 * a - 1 := by unfold zigN; rw [if_neg (by omega)]; omega
theorem zigN_lt {a : Int} (ha : -9223372036854775808 ≤ a ∧ a ≤ 9223372036854775807) : zigN a < 2 ^ 64 := by
  rcases Int.lt_or_le a 0 with h | h
  · have := zigN_neg h; omega
  · have := zigN_pos h; omega
theorem zig133 {a : Int} (ha : -9223372036854775808 ≤ a ∧ a ≤ 9223372036854775807) (w : World) : Pu Tryz.prog 106 #[.int .i64 a] w (.int .u64 (zigN a)) := by
  refine enter_sound TBok Tryz.func106 rfl rfl Tryz.ntmps106 [.v (.int .i64 a)] (Kn.start w noS) rfl rfl ?_
  by_cases h : 0 ≤ a
  · have hz := zigN_pos h
    conv => whnf
    repeat' (first
 | with_reducible (first | refine r_seq (fun KS hS => ?_) | (refine hS _ _ ?_; clear hS KS) | (refine hA _ ?_; clear hA KA) | (refine hB _ ?_; clear hB KB) | refine r_block ?_)
 | ((with_reducible (first | refine r_region ?_ | refine r_cond (fun KA hA KB hB => ?_) | refine r_ret ?_ | refine r_skip ?_ | refine r_exit ?_ | refine And.intro rfl ?_ | intro b)); conv => whnf)
 | ((with_reducible refine WrapK.i64 ?_ ?_); (focus omega); conv => whnf)
 | ((with_reducible refine WrapK.id ?_); refine WrapK.eq (IntWalk.u64_in _ (by omega)) ?_; conv => whnf)
 | ((with_reducible refine OpK.id ?_); (first | (refine OpK.shl (z := (zigN a : Int)) rfl rfl rfl (by omega) (by rw [shl1, IntWalk.u64_in _ (by omega)]; omega) ?_) | refine OpK.shr rfl rfl rfl (by omega) (shr63p h ha.2) ?_); conv => whnf)
 | (refine BitK.eq (u64_xor0 (zigN_lt ha)) ?_; conv => whnf)
 | ((with_reducible apply OpK.more); (focus refine sok); (conv => whnf); fail_if_success guard_target =ₛ False)
 | ((with_reducible (first | refine InAt.mk (fun K' hK => ?_) | refine AnyAt.mk (fun K' hK => ?_) | (refine hK _ ?_; clear hK K') | (refine hK _ _ ?_; clear hK K'))); conv => whnf)
 | ((refine And.intro ?_ ?_); all_goals (conv => whnf))
 | (apply r_quiet; refine mixed; kernel_rfl; kernel_rfl; kernel_rfl; conv => whnf)
 | ((first | refine if_t (by decide) ?_ | refine if_f (by decide) ?_ | refine if_decT (by omega) ?_ | refine if_decF (by omega) ?_ | refine if_ndecT (by omega) ?_ | refine if_ndecF (by omega) ?_); conv => whnf)
 | ((first | refine if_dec (fun h => ?_) (fun h => ?_) | refine if_ndec (fun h => ?_) (fun h => ?_) | refine if_cond (fun h => ?_) (fun h => ?_)); all_goals (conv => whnf))
 | with_reducible apply_assumption -symm -exfalso)
    exact FinK.pu rfl
  · have hz := zigN_neg (show a < 0 by omega)
    have hlt := zigN_lt ha
    have hx : ((2 ^ 64 - 1 - zigN a : Nat) : Int) = 2 * (a + 18446744073709551616) - 18446744073709551616 := by omega
    have hr := u64_xor1 (x := 2 ^ 64 - 1 - zigN a) (by omega)
    conv => whnf
    repeat' (first
 | with_reducible (first | refine r_seq (fun KS hS => ?_) | (refine hS _ _ ?_; clear hS KS) | (refine hA _ ?_; clear hA KA) | (refine hB _ ?_; clear hB KB) | refine r_block ?_)
 | ((with_reducible (first | refine r_region ?_ | refine r_cond (fun KA hA KB hB => ?_) | refine r_ret ?_ | refine r_skip ?_ | refine r_exit ?_ | refine And.intro rfl ?_ | intro b)); conv => whnf)
 | ((with_reducible refine WrapK.i64 ?_ ?_); (focus omega); conv => whnf)
 | ((with_reducible refine WrapK.id ?_); refine WrapK.eq (u64_neg (by omega)) ?_; conv => whnf)
 | ((with_reducible refine OpK.id ?_); (first | (refine OpK.shl (z := ((2 ^ 64 - 1 - zigN a : Nat) : Int)) rfl rfl rfl (by omega) (by rw [shl1, u64_big (by omega)]; omega) ?_) | refine OpK.shr rfl rfl rfl (by omega) (shr63n (by omega) ha.1) ?_); conv => whnf)
 | (refine BitK.eq hr ?_; conv => whnf)
 | ((with_reducible apply OpK.more); (focus refine sok); (conv => whnf); fail_if_success guard_target =ₛ False)
 | ((with_reducible (first | refine InAt.mk (fun K' hK => ?_) | refine AnyAt.mk (fun K' hK => ?_) | (refine hK _ ?_; clear hK K') | (refine hK _ _ ?_; clear hK K'))); conv => whnf)
 | ((refine And.intro ?_ ?_); all_goals (conv => whnf))
 | (apply r_quiet; refine mixed; kernel_rfl; kernel_rfl; kernel_rfl; conv => whnf)
 | ((first | refine if_t (by decide) ?_ | refine if_f (by decide) ?_ | refine if_decT (by omega) ?_ | refine if_decF (by omega) ?_ | refine if_ndecT (by omega) ?_ | refine if_ndecF (by omega) ?_); conv => whnf)
 | ((first | refine if_dec (fun h => ?_) (fun h => ?_) | refine if_ndec (fun h => ?_) (fun h => ?_) | refine if_cond (fun h => ?_) (fun h => ?_)); all_goals (conv => whnf))
 | with_reducible apply_assumption -symm -exfalso)
    refine FinK.pu ?_
    show Value.int .u64 _ = _
    congr 1
    omega
theorem text85 {p : Nat} {l : List UInt8} {s : ByteArray} (hs : s.size ≤ 1099511627776) (hl : l.length ≤ 549755813888) (w : World) : Fr Tryz.prog 66 #[pv p, .string s] w (WrA p l) (.tuple #[]) (WrA p (l ++ uvar s.size ++ s.data.toList)) := by
  refine enter_fr TBok (A' := WrA p (l ++ uvar s.size ++ s.data.toList)) (H := [.ext 12 (WrA p l)]) one_foot Tryz.func66 rfl rfl Tryz.ntmps66 [.loc p 10 0, .v (.string s)] rfl rfl ?_
  intro S
  have h10 := uvar_len64 (n := s.size) (by omega)
  have hll : (l ++ uvar s.size).length ≤ 549755813898 := by rw [List.length_append]; omega
  have hsz : s.data.toList.length = s.size := by rw [Array.length_toList]; rfl
  have hap : (l ++ uvar s.size ++ s.data.toList).length = (l ++ uvar s.size).length + s.size := by rw [List.length_append, hsz]
  conv => whnf
  repeat' (first
 | with_reducible (first | refine r_seq (fun KS hS => ?_) | (refine hS _ _ ?_; clear hS KS) | (refine hA _ ?_; clear hA KA) | (refine hB _ ?_; clear hB KB) | refine r_block ?_)
 | ((with_reducible (first | refine r_region ?_ | refine r_cond (fun KA hA KB hB => ?_) | refine r_ret ?_ | refine r_skip ?_ | refine r_exit ?_ | refine And.intro rfl ?_ | intro b)); conv => whnf)
 | ((with_reducible refine WrapK.i64 ?_ ?_); (focus omega); conv => whnf)
 | ((with_reducible refine WrapK.id ?_); refine WrapK.eq (IntWalk.u64_in _ (by omega)) ?_; conv => whnf)
 | ((with_reducible refine CallK.id ?_); refine CallK.fr1 12 At.head (fun ms w _ => uint83 (n := s.size) (by omega) (by omega) w) ?_; (conv => whnf); (refine hS _ _ ?_); clear hS KS; (refine Run.open (α := Option Addr × Nat) (A := []) (B := []) (fun z => [.blk 10 p [.v (.bool true), .v (.slice z.1 (l ++ uvar s.size).length z.2)] 156, .ext 11 (SlA 5 1 z.1 (l ++ uvar s.size).length z.2 (bcells (l ++ uvar s.size)))]) (fun w S h => WrA.open (X := []) (Y := []) h) ?_); rintro ⟨a, cap⟩; dsimp only)
 | ((with_reducible refine OpK.id ?_); refine OpK.app (k := 1) rfl rfl rfl rfl rfl rfl rfl rfl (by repeat (first | with_reducible apply At.head | apply At.tail)) (SrcK.str rfl rfl) (by show (_ + _) * (1 + 1) ≤ 140737488355328; omega) (fun a' cap' => ?_); conv => whnf)
 | ((with_reducible apply OpK.more); (focus refine sok); (conv => whnf); fail_if_success guard_target =ₛ False)
 | ((with_reducible (first | refine InAt.mk (fun K' hK => ?_) | refine AnyAt.mk (fun K' hK => ?_) | (refine hK _ ?_; clear hK K') | (refine hK _ _ ?_; clear hK K'))); conv => whnf)
 | ((refine And.intro ?_ ?_); all_goals (conv => whnf))
 | (apply r_quiet; refine mixed; kernel_rfl; kernel_rfl; kernel_rfl; conv => whnf)
 | ((first | refine if_t (by decide) ?_ | refine if_f (by decide) ?_ | refine if_decT (by omega) ?_ | refine if_decF (by omega) ?_ | refine if_ndecT (by omega) ?_ | refine if_ndecF (by omega) ?_); conv => whnf)
 | ((first | refine if_dec (fun h => ?_) (fun h => ?_) | refine if_ndec (fun h => ?_) (fun h => ?_) | refine if_cond (fun h => ?_) (fun h => ?_)); all_goals (conv => whnf))
 | with_reducible apply_assumption -symm -exfalso)
  exact FinK.fr (y := .ext 0 (WrA p (l ++ uvar s.size ++ s.data.toList))) rfl (WrA.close hap.symm (bcells_append _ _).symm) (fun _ _ h => h)
theorem int115 {p : Nat} {st : RSt} (hb : RB st) (w : World) : Fr Tryz.prog 70 #[pv p] w (RdA p st) (.int .i64 (rdI st).1) (RdA p (rdI st).2) := by
  refine enter_fr TBok (A' := RdA p (rdI st).2) (H := [.ext 12 (RdA p st)]) one_foot Tryz.func70 rfl rfl Tryz.ntmps70 [.loc p 10 0] rfl rfl ?_
  intro S
  refine Run.open (α := Option Addr × Nat) (A := []) (B := []) (fun z => RdH p st z ++ []) (fun w S h => RdA.open (X := []) (Y := []) h) ?_
  rintro ⟨a, cap⟩
  cases st with
  | none =>
    dsimp only [RdH, List.cons_append, List.nil_append]
    conv => whnf
    repeat' (first
 | with_reducible (first | refine r_seq (fun KS hS => ?_) | (refine hS _ _ ?_; clear hS KS) | (refine hA _ ?_; clear hA KA) | (refine hB _ ?_; clear hB KB) | refine r_block ?_)
 | ((with_reducible (first | refine r_region ?_ | refine r_cond (fun KA hA KB hB => ?_) | refine r_ret ?_ | refine r_skip ?_ | refine r_exit ?_ | refine And.intro rfl ?_ | intro b)); conv => whnf)
 | ((with_reducible refine WrapK.i64 ?_ ?_); (focus omega); conv => whnf)
 | ((with_reducible refine CallK.id ?_); (first | apply in194 | apply in193); rfl; rfl; rfl; intro A; conv => whnf)
 | ((with_reducible apply OpK.more); (focus refine sok); (conv => whnf); fail_if_success guard_target =ₛ False)
 | ((with_reducible (first | refine InAt.mk (fun K' hK => ?_) | refine AnyAt.mk (fun K' hK => ?_) | (refine hK _ ?_; clear hK K') | (refine hK _ _ ?_; clear hK K'))); conv => whnf)
 | ((refine And.intro ?_ ?_); all_goals (conv => whnf))
 | (apply r_quiet; refine mixed; kernel_rfl; kernel_rfl; kernel_rfl; conv => whnf)
 | ((first | refine if_t (by decide) ?_ | refine if_f (by decide) ?_ | refine if_decT (by omega) ?_ | refine if_decF (by omega) ?_ | refine if_ndecT (by omega) ?_ | refine if_ndecF (by omega) ?_); conv => whnf)
 | ((first | refine if_dec (fun h => ?_) (fun h => ?_) | refine if_ndec (fun h => ?_) (fun h => ?_) | refine if_cond (fun h => ?_) (fun h => ?_)); all_goals (conv => whnf))
 | with_reducible apply_assumption -symm -exfalso)
    exact FinK.fr (y := .ext 0 (RdA p none)) rfl RdA.closeN (fun _ _ h => h)
  | some l =>
    have hl := hb l rfl
    have hR := numR_le l
    dsimp only [RdH, List.cons_append, List.nil_append]
    conv => whnf
    repeat' (first
 | with_reducible (first | refine r_seq (fun KS hS => ?_) | (refine hS _ _ ?_; clear hS KS) | (refine hA _ ?_; clear hA KA) | (refine hB _ ?_; clear hB KB) | refine r_block ?_)
 | ((with_reducible (first | refine r_region ?_ | refine r_cond (fun KA hA KB hB => ?_) | refine r_ret ?_ | refine r_skip ?_ | refine r_exit ?_ | refine And.intro rfl ?_ | intro b)); conv => whnf)
 | ((with_reducible refine WrapK.i64 ?_ ?_); (focus omega); conv => whnf)
 | ((with_reducible refine CallK.id ?_); (first | apply in194 | apply in193 | apply in195); rfl; rfl; rfl; intro A; conv => whnf)
 | ((with_reducible refine CallK.at 117 ?_); refine CallK.puW (fun ms w hk => number196 (l := l) (Sees.rd (Sees.ext (by repeat (first | with_reducible apply At.head | apply At.tail))) hk) (by omega)) ?_; conv => whnf)
 | ((with_reducible refine CallK.at 118 ?_); refine CallK.pu (fun w => zag197 (numR_lt l) w) ?_; conv => whnf)
 | ((with_reducible refine OpK.id ?_); refine OpK.slE (k := 1) rfl rfl rfl rfl rfl rfl (by repeat (first | with_reducible apply At.head | apply At.tail)) ?_; conv => whnf)
 | (refine ⟨by omega, by omega, by omega, fun a' => ?_⟩; conv => whnf)
 | ((with_reducible apply OpK.more); (focus refine sok); (conv => whnf); fail_if_success guard_target =ₛ False)
 | ((with_reducible (first | refine InAt.mk (fun K' hK => ?_) | refine AnyAt.mk (fun K' hK => ?_) | (refine hK _ ?_; clear hK K') | (refine hK _ _ ?_; clear hK K'))); conv => whnf)
 | ((refine And.intro ?_ ?_); all_goals (conv => whnf))
 | (apply r_quiet; refine mixed; kernel_rfl; kernel_rfl; kernel_rfl; conv => whnf)
 | ((first | refine if_t (by decide) ?_ | refine if_f (by decide) ?_ | refine if_decT (by omega) ?_ | refine if_decF (by omega) ?_ | refine if_ndecT (by omega) ?_ | refine if_ndecF (by omega) ?_); conv => whnf)
 | ((first | refine if_dec (fun h => ?_) (fun h => ?_) | refine if_ndec (fun h => ?_) (fun h => ?_) | refine if_cond (fun h => ?_) (fun h => ?_)); all_goals (conv => whnf))
 | with_reducible apply_assumption -symm -exfalso)
    · rw [show rdI (some l) = (0, none) from if_pos (by omega)]
      exact FinK.fr (y := .ext 0 (RdA p none)) rfl (HSub.trans (RdA.closeN (i1 := 10)) (HSub.keep rfl (HSub.drop HSub.nil))) (fun _ _ h => h)
    · rw [show rdI (some l) = (zagI (numR l).1, some (l.drop (numR l).2)) from if_neg (by omega)]
      exact FinK.fr (y := .ext 0 (RdA p (some (l.drop (numR l).2)))) rfl (RdA.close (bc_len _ _) (bc_drop _ _)) (fun _ _ h => h)
theorem bc_part (l : List UInt8) (m u : Nat) : ((bcells l).drop ((m : Int).toNat * 1)).take ((((m : Int) + (u : Int)).toNat - (m : Int).toNat) * 1) = bcells ((l.drop m).take u) := by
  rw [show (((m : Int) + (u : Int)).toNat - (m : Int).toNat) * 1 = u by omega, show (m : Int).toNat * 1 = m by omega]
  simp [bcells]
theorem text116 {p : Nat} {st : RSt} (hb : RB st) (w : World) : Fr Tryz.prog 71 #[pv p] w (RdA p st) (.string (rdT st).1) (RdA p (rdT st).2) := by
  refine enter_fr TBok (A' := RdA p (rdT st).2) (H := [.ext 12 (RdA p st)]) one_foot Tryz.func71 rfl rfl Tryz.ntmps71 [.loc p 10 0] rfl rfl ?_
  intro S
  refine Run.open (α := Option Addr × Nat) (A := []) (B := []) (fun z => RdH p st z ++ []) (fun w S h => RdA.open (X := []) (Y := []) h) ?_
  rintro ⟨a, cap⟩
  cases st with
  | none =>
    dsimp only [RdH, List.cons_append, List.nil_append]
    conv => whnf
    repeat' (first
 | with_reducible (first | refine r_seq (fun KS hS => ?_) | (refine hS _ _ ?_; clear hS KS) | (refine hA _ ?_; clear hA KA) | (refine hB _ ?_; clear hB KB) | refine r_block ?_)
 | ((with_reducible (first | refine r_region ?_ | refine r_cond (fun KA hA KB hB => ?_) | refine r_ret ?_ | refine r_skip ?_ | refine r_exit ?_ | refine And.intro rfl ?_ | intro b)); conv => whnf)
 | ((with_reducible refine WrapK.i64 ?_ ?_); (focus omega); conv => whnf)
 | ((with_reducible refine CallK.id ?_); (first | apply in198 | apply in193); rfl; rfl; rfl; intro A; conv => whnf)
 | ((with_reducible apply OpK.more); (focus refine sok); (conv => whnf); fail_if_success guard_target =ₛ False)
 | ((with_reducible (first | refine InAt.mk (fun K' hK => ?_) | refine AnyAt.mk (fun K' hK => ?_) | (refine hK _ ?_; clear hK K') | (refine hK _ _ ?_; clear hK K'))); conv => whnf)
 | ((refine And.intro ?_ ?_); all_goals (conv => whnf))
 | (apply r_quiet; refine mixed; kernel_rfl; kernel_rfl; kernel_rfl; conv => whnf)
 | ((first | refine if_t (by decide) ?_ | refine if_f (by decide) ?_ | refine if_decT (by omega) ?_ | refine if_decF (by omega) ?_ | refine if_ndecT (by omega) ?_ | refine if_ndecF (by omega) ?_); conv => whnf)
 | ((first | refine if_dec (fun h => ?_) (fun h => ?_) | refine if_ndec (fun h => ?_) (fun h => ?_) | refine if_cond (fun h => ?_) (fun h => ?_)); all_goals (conv => whnf))
 | with_reducible apply_assumption -symm -exfalso)
    exact FinK.fr (y := .ext 0 (RdA p none)) rfl RdA.closeN (fun _ _ h => h)
  | some l =>
    have hl := hb l rfl
    have hR := numR_le l
    have hlt := numR_lt l
    dsimp only [RdH, List.cons_append, List.nil_append]
    conv => whnf
    repeat' (first
 | with_reducible (first | refine r_seq (fun KS hS => ?_) | (refine hS _ _ ?_; clear hS KS) | (refine hA _ ?_; clear hA KA) | (refine hB _ ?_; clear hB KB) | refine r_block ?_)
 | ((with_reducible (first | refine r_region ?_ | refine r_cond (fun KA hA KB hB => ?_) | refine r_ret ?_ | refine r_skip ?_ | refine r_exit ?_ | refine And.intro rfl ?_ | intro b)); conv => whnf)
 | ((with_reducible refine WrapK.i64 ?_ ?_); (focus omega); conv => whnf)
 | ((with_reducible refine CallK.id ?_); (first | apply in198 | apply in193 | apply in199); rfl; rfl; rfl; intro A; conv => whnf)
 | ((with_reducible refine CallK.at 117 ?_); refine CallK.puW (fun ms w hk => number196 (l := l) (Sees.rd (Sees.ext (by repeat (first | with_reducible apply At.head | apply At.tail))) hk) (by omega)) ?_; conv => whnf)
 | ((with_reducible refine WrapK.id ?_); refine WrapK.eq (IntWalk.u64_in _ (by omega)) ?_; conv => whnf)
 | ((with_reducible refine OpK.id ?_); refine OpK.slR (t := 69) (lo := some (.tmp 32)) (k := 1) rfl rfl rfl rfl rfl rfl (Sees.ext (by repeat (first | with_reducible apply At.head | apply At.tail))) ?_; conv => whnf)
 | (refine ⟨by omega, by omega, by omega, fun a' hsee => ?_⟩; conv => whnf)
 | ((with_reducible refine OpK.id ?_); (first | refine OpK.cvBS' rfl rfl rfl rfl rfl rfl rfl rfl hsee (bc_part _ _ _) ?_ | refine OpK.slE (k := 1) rfl rfl rfl rfl rfl rfl (by repeat (first | with_reducible apply At.head | apply At.tail)) ?_); conv => whnf)
 | (refine ⟨by omega, by omega, by omega, fun a' => ?_⟩; conv => whnf)
 | ((with_reducible apply OpK.more); (focus refine sok); (conv => whnf); fail_if_success guard_target =ₛ False)
 | ((with_reducible (first | refine InAt.mk (fun K' hK => ?_) | refine AnyAt.mk (fun K' hK => ?_) | (refine hK _ ?_; clear hK K') | (refine hK _ _ ?_; clear hK K'))); conv => whnf)
 | ((refine And.intro ?_ ?_); all_goals (conv => whnf))
 | (apply r_quiet; refine mixed; kernel_rfl; kernel_rfl; kernel_rfl; conv => whnf)
 | ((first | refine if_t (by decide) ?_ | refine if_f (by decide) ?_ | refine if_decT (by omega) ?_ | refine if_decF (by omega) ?_ | refine if_ndecT (by omega) ?_ | refine if_ndecF (by omega) ?_); conv => whnf)
 | ((first | refine if_dec (fun h => ?_) (fun h => ?_) | refine if_ndec (fun h => ?_) (fun h => ?_) | refine if_cond (fun h => ?_) (fun h => ?_)); all_goals (conv => whnf))
 | with_reducible apply_assumption -symm -exfalso)
    · have e : txtR l = (⟨#[]⟩, 0) := if_pos (by omega)
      rw [show rdT (some l) = (⟨#[]⟩, none) from if_pos (by rw [e])]
      exact FinK.fr (y := .ext 0 (RdA p none)) rfl (HSub.trans (RdA.closeN (i1 := 10)) (HSub.keep rfl (HSub.drop HSub.nil))) (fun _ _ h => h)
    · have e : txtR l = (⟨#[]⟩, 0) := if_pos (by omega)
      rw [show rdT (some l) = (⟨#[]⟩, none) from if_pos (by rw [e])]
      exact FinK.fr (y := .ext 0 (RdA p none)) rfl (HSub.trans (RdA.closeN (i1 := 10)) (HSub.keep rfl (HSub.drop HSub.nil))) (fun _ _ h => h)
    · have e : txtR l = (⟨#[]⟩, 0) := if_pos (by omega)
      rw [show rdT (some l) = (⟨#[]⟩, none) from if_pos (by rw [e])]
      exact FinK.fr (y := .ext 0 (RdA p none)) rfl (HSub.trans (RdA.closeN (i1 := 10)) (HSub.keep rfl (HSub.drop HSub.nil))) (fun _ _ h => h)
    · have e : txtR l = (⟨((l.drop (numR l).2).take (numR l).1).toArray⟩, (numR l).2 + (numR l).1) := if_neg (by omega)
      rw [show rdT (some l) = (⟨((l.drop (numR l).2).take (numR l).1).toArray⟩, some (l.drop ((numR l).2 + (numR l).1))) from (if_neg (by rw [e]; dsimp only; omega)).trans (by rw [e])]
      exact FinK.fr (y := .ext 0 (RdA p (some (l.drop ((numR l).2 + (numR l).1))))) rfl (RdA.close (bc_len l ((numR l).2 + (numR l).1)) (bc_drop l ((numR l).2 + (numR l).1))) (fun _ _ h => h)
theorem RB.drop {l : List UInt8} (h : RB (some l)) (m : Nat) : RB (some (l.drop m)) := by
  intro l' hl
  simp only [Option.some.injEq] at hl
  subst hl
  have := h l rfl
  simp; omega
theorem RB.none : RB none := fun _ h => by cases h
theorem RB.I {st : RSt} (h : RB st) : RB (rdI st).2 := by
  cases st with
  | none => exact RB.none
  | some l => simp only [rdI]; split; exact RB.none; exact h.drop _
theorem RB.T {st : RSt} (h : RB st) : RB (rdT st).2 := by
  cases st with
  | none => exact RB.none
  | some l => simp only [rdT]; split; exact RB.none; exact h.drop _
end Go.Proofs.YthmjkaljkgjicaaGreatDoor

namespace Go.Proofs.YthmjkaljkgjicaaGreatDoor
open Go Go.X
set_option maxRecDepth 100000
set_option maxHeartbeats 0
def cutL : List UInt8 := [97, 98, 99, 100, 101, 102, 103, 104, 105, 106, 107, 108, 109, 110, 111, 112, 113, 114, 115, 116, 117, 118, 119, 120, 121, 122, 48, 49, 50, 51, 52, 53, 54, 55, 56, 57]
def cutS : ByteArray := ⟨#[97, 98, 99, 100, 101, 102, 103, 104, 105, 106, 107, 108, 109, 110, 111, 112, 113, 114, 115, 116, 117, 118, 119, 120, 121, 122, 48, 49, 50, 51, 52, 53, 54, 55, 56, 57]⟩
def setL (k : Nat) : List SV := (List.range 256).map fun i => .v (.bool ((cutL.take k).contains (UInt8.ofNat i)))
theorem setL_get {k i : Nat} (h : i < 256) : (setL k)[i]? = some (.v (.bool ((cutL.take k).contains (UInt8.ofNat i)))) := by
  unfold setL
  rw [List.getElem?_map, List.getElem?_range h]
  rfl
theorem setL_len (k : Nat) : (setL k).length = 256 := by simp [setL]
theorem setL_succ {k : Nat} (hk : k < 36) : setL (k + 1) = (setL k).set (cutL.getD k 0).toNat (.v (.bool true)) := by
  have hlen : cutL.length = 36 := rfl
  have ht : cutL.take (k + 1) = cutL.take k ++ [cutL.getD k 0] := by
    rw [List.take_add_one, List.getElem?_eq_getElem (by omega)]
    simp [List.getD, List.getElem?_eq_getElem (show k < cutL.length by omega)]
  have hlt := (cutL.getD k 0).toNat_lt
  apply List.ext_getElem?
  intro i
  by_cases hi : i < 256
  · rw [setL_get hi, List.getElem?_set, setL_len]
    by_cases h : (cutL.getD k 0).toNat = i
    · subst h
      rw [if_pos rfl, if_pos hi, ht]
      simp
    · rw [if_neg h, setL_get hi, ht]
      have hne' : ¬ UInt8.ofNat i = cutL.getD k 0 := by
        intro e
        apply h
        rw [← e]
        simp
        omega
      simp
      intro e
      exact absurd e hne'
  · rw [List.getElem?_eq_none (by rw [setL_len]; omega), List.getElem?_eq_none (by rw [List.length_set, setL_len]; omega)]
theorem cut_lt : ∀ k, k < 36 → (cutL.getD k 0).toNat < 128 := by decide
theorem mkset317 (w : World) : Pu Tryz.prog 257 #[.string cutS] w (.tuple #[.agg (denL (setL 36)).toArray, .bool true]) := by
  refine enter_sound TBok Tryz.func257 rfl rfl Tryz.ntmps257 [.v (.string cutS)] (Kn.start w noS) rfl rfl ?_
  conv => whnf
  repeat' (first
 | with_reducible (first | refine r_seq (fun KS hS => ?_) | (refine hS _ _ ?_; clear hS KS) | (refine hA _ ?_; clear hA KA) | (refine hB _ ?_; clear hB KB) | refine r_block ?_)
 | ((with_reducible (first | refine r_region ?_ | refine r_cond (fun KA hA KB hB => ?_) | refine r_ret ?_ | refine r_skip ?_ | refine r_exit ?_ | refine And.intro rfl ?_ | intro b)); conv => whnf)
 | ((with_reducible refine WrapK.i64 ?_ ?_); (focus omega); conv => whnf)
 | ((with_reducible apply OpK.more); (focus refine sok); (conv => whnf); fail_if_success guard_target =ₛ False)
 | ((with_reducible (first | refine InAt.mk (fun K' hK => ?_) | refine AnyAt.mk (fun K' hK => ?_) | (refine hK _ ?_; clear hK K') | (refine hK _ _ ?_; clear hK K'))); conv => whnf)
 | ((refine And.intro ?_ ?_); all_goals (conv => whnf))
 | (apply r_quiet; refine mixed; kernel_rfl; kernel_rfl; kernel_rfl; conv => whnf)
 | ((first | refine if_t (by decide) ?_ | refine if_f (by decide) ?_ | refine if_decT (by omega) ?_ | refine if_decF (by omega) ?_ | refine if_ndecT (by omega) ?_ | refine if_ndecF (by omega) ?_); conv => whnf)
 | ((first | refine if_dec (fun h => ?_) (fun h => ?_) | refine if_ndec (fun h => ?_) (fun h => ?_) | refine if_cond (fun h => ?_) (fun h => ?_)); all_goals (conv => whnf))
 | with_reducible apply_assumption -symm -exfalso)
  refine r_loop (α := Nat) (fun k => [(0, .v (.string cutS)), (2, .loc b 0 0), (4, .v (.int .i64 k))]) (fun k => [.blk 0 b (setL k) 272]) (fun k => k ≤ 36) (fun k => 36 - k) 0 (Nat.zero_le _) ?_ (HSub.keep rfl HSub.nil) ?_
  · repeat' (first | exact Sub.nil | (refine Sub.cons rfl rfl ?_))
  intro k hk KL hL
  by_cases hlt : k < 36
  · have hb : cutL[k]? = some (cutL.getD k 0) := by
      have hlen : cutL.length = 36 := rfl
      simp [List.getD, List.getElem?_eq_getElem (show k < cutL.length by omega)]
    have hc := cut_lt k hlt
    have hs := setL_succ hlt
    have hcs : cutS.size = 36 := rfl
    conv => whnf
    repeat' (first
 | with_reducible (first | refine r_seq (fun KS hS => ?_) | (refine hS _ _ ?_; clear hS KS) | (refine hA _ ?_; clear hA KA) | (refine hB _ ?_; clear hB KB) | refine r_block ?_)
 | ((with_reducible (first | refine r_region ?_ | refine r_cond (fun KA hA KB hB => ?_) | refine r_ret ?_ | refine r_skip ?_ | refine r_exit ?_ | refine And.intro rfl ?_ | intro b)); conv => whnf)
 | ((with_reducible refine WrapK.i64 ?_ ?_); (focus omega); conv => whnf)
 | ((with_reducible refine OpK.id ?_); (first | refine OpK.sIx (b := cutL.getD k 0) rfl rfl rfl rfl rfl (by omega) hb ?_ | (refine OpK.ixA rfl rfl rfl rfl rfl rfl (by omega) (by show _ < (256 : Int); omega) ?_) | (refine OpK.st1 rfl rfl rfl rfl rfl rfl (by repeat (first | with_reducible apply At.head | apply At.tail)) (by rw [setL_len]; show 0 + (Int.toNat _) * 1 < 256; omega) ?_)); conv => whnf)
 | (refine hL (k + 1) _ _ ?_ ?_ ?_ ?_; omega; omega; (repeat' (first | exact Sub.nil | (refine Sub.cons rfl rfl ?_))); refine HSub.keep ?_ HSub.nil)
 | ((with_reducible apply OpK.more); (focus refine sok); (conv => whnf); fail_if_success guard_target =ₛ False)
 | ((with_reducible (first | refine InAt.mk (fun K' hK => ?_) | refine AnyAt.mk (fun K' hK => ?_) | (refine hK _ ?_; clear hK K') | (refine hK _ _ ?_; clear hK K'))); conv => whnf)
 | ((refine And.intro ?_ ?_); all_goals (conv => whnf))
 | (apply r_quiet; refine mixed; kernel_rfl; kernel_rfl; kernel_rfl; conv => whnf)
 | ((first | refine if_t (by decide) ?_ | refine if_f (by decide) ?_ | refine if_decT (by omega) ?_ | refine if_decF (by omega) ?_ | refine if_ndecT (by omega) ?_ | refine if_ndecF (by omega) ?_); conv => whnf)
 | ((first | refine if_dec (fun h => ?_) (fun h => ?_) | refine if_ndec (fun h => ?_) (fun h => ?_) | refine if_cond (fun h => ?_) (fun h => ?_)); all_goals (conv => whnf))
 | with_reducible apply_assumption -symm -exfalso)
    rw [show 0 + (Int.toNat ((cutL.getD k 0).toNat : Int)) * TI.size ti4 = (cutL.getD k 0).toNat from by show 0 + (cutL.getD k 0).toNat * 1 = _; omega]
    exact hs.symm
  · obtain rfl : k = 36 := by omega
    conv => whnf
    repeat' (first
 | with_reducible (first | refine r_seq (fun KS hS => ?_) | (refine hS _ _ ?_; clear hS KS) | (refine hA _ ?_; clear hA KA) | (refine hB _ ?_; clear hB KB) | refine r_block ?_)
 | ((with_reducible (first | refine r_region ?_ | refine r_cond (fun KA hA KB hB => ?_) | refine r_ret ?_ | refine r_skip ?_ | refine r_exit ?_ | refine And.intro rfl ?_ | intro b)); conv => whnf)
 | ((with_reducible refine WrapK.i64 ?_ ?_); (focus omega); conv => whnf)
 | ((with_reducible apply OpK.more); (focus refine sok); (conv => whnf); fail_if_success guard_target =ₛ False)
 | ((with_reducible (first | refine InAt.mk (fun K' hK => ?_) | refine AnyAt.mk (fun K' hK => ?_) | (refine hK _ ?_; clear hK K') | (refine hK _ _ ?_; clear hK K'))); conv => whnf)
 | ((refine And.intro ?_ ?_); all_goals (conv => whnf))
 | (apply r_quiet; refine mixed; kernel_rfl; kernel_rfl; kernel_rfl; conv => whnf)
 | ((first | refine if_t (by decide) ?_ | refine if_f (by decide) ?_ | refine if_decT (by omega) ?_ | refine if_decF (by omega) ?_ | refine if_ndecT (by omega) ?_ | refine if_ndecF (by omega) ?_); conv => whnf)
 | ((first | refine if_dec (fun h => ?_) (fun h => ?_) | refine if_ndec (fun h => ?_) (fun h => ?_) | refine if_cond (fun h => ?_) (fun h => ?_)); all_goals (conv => whnf))
 | with_reducible apply_assumption -symm -exfalso)
    exact FinK.pu rfl
/-- a byte of a name -/
def alnum (c : UInt8) : Bool := cutL.contains c
/-- the block p bears the set of the bytes of names -/
def SetAt (w : World) (p : Nat) : Prop := p < w.heap.size ∧ ∃ C t f, w.heap[p]? = some (.cells C t f) ∧ ∀ c : UInt8, C[c.toNat]? = some (.bool (alnum c))
theorem SetAt.pc {w : World} {p n : Nat} {r : Option Nat} {H : List Blk} (h : SetAt w p) (c : UInt8) : PC ⟨Tryz.prog, TB, n, w, noS, r, TBok⟩ H p c.toNat [.v (.bool (alnum c))] := by
  obtain ⟨hp, C, t, f, h1, h2⟩ := h
  intro ms w' hk
  refine ⟨C, t, f, by rw [Kn0.old hk p hp id]; exact h1, fun j v hj => ?_⟩
  cases j with
  | zero => simp only [denL, den, List.getElem?_cons_zero] at hj; rw [Nat.add_zero, h2 c]; exact hj
  | succ j => simp [denL] at hj
theorem SetAt.pc' {w : World} {p n : Nat} {r : Option Nat} {H : List Blk} (h : SetAt w p) (c : UInt8) : PC ⟨Tryz.prog, TB, n, w, noS, r, TBok⟩ H p (0 + (Int.toNat (c.toNat : Int)) * TI.size ti4) [.v (.bool (alnum c))] := by
  have e : 0 + (Int.toNat (c.toNat : Int)) * TI.size ti4 = c.toNat := by show 0 + c.toNat * 1 = _; omega
  rw [e]
  exact h.pc c
theorem str_ext {a b : ByteArray} (h : a.data.toList = b.data.toList) : a = b := by
  cases a; cases b
  simp only at h
  congr 1
  exact Array.ext' h
theorem str_len (s : ByteArray) : s.data.toList.length = s.size := by rw [Array.length_toList]; rfl
def rstrip (l : List UInt8) : List UInt8 := (l.reverse.dropWhile alnum).reverse
theorem rstrip_snoc (l : List UInt8) (c : UInt8) : rstrip (l ++ [c]) = if alnum c then rstrip l else l ++ [c] := by
  unfold rstrip
  rw [List.reverse_append]
  simp only [List.reverse_cons, List.reverse_nil, List.nil_append, List.singleton_append, List.dropWhile_cons]
  split
  · rfl
  · simp
theorem trimR319 {s : ByteArray} {p : Nat} {w : World} (h : SetAt w p) (hs : s.size ≤ 1099511627776) : Pu Tryz.prog 259 #[.string s, pv p] w (.string ⟨(rstrip s.data.toList).toArray⟩) := by
  refine enter_sound TBok Tryz.func259 rfl rfl Tryz.ntmps259 [.v (.string s), .v (pv p)] (Kn.start w noS) rfl rfl ?_
  conv => whnf
  repeat' (first
 | with_reducible (first | refine r_seq (fun KS hS => ?_) | (refine hS _ _ ?_; clear hS KS) | (refine hA _ ?_; clear hA KA) | (refine hB _ ?_; clear hB KB) | refine r_block ?_)
 | ((with_reducible (first | refine r_region ?_ | refine r_cond (fun KA hA KB hB => ?_) | refine r_ret ?_ | refine r_skip ?_ | refine r_exit ?_ | refine And.intro rfl ?_ | intro b)); conv => whnf)
 | ((with_reducible refine WrapK.i64 ?_ ?_); (focus omega); conv => whnf)
 | ((with_reducible apply OpK.more); (focus refine sok); (conv => whnf); fail_if_success guard_target =ₛ False)
 | ((with_reducible (first | refine InAt.mk (fun K' hK => ?_) | refine AnyAt.mk (fun K' hK => ?_) | (refine hK _ ?_; clear hK K') | (refine hK _ _ ?_; clear hK K'))); conv => whnf)
 | ((refine And.intro ?_ ?_); all_goals (conv => whnf))
 | (apply r_quiet; refine mixed; kernel_rfl; kernel_rfl; kernel_rfl; conv => whnf)
 | ((first | refine if_t (by decide) ?_ | refine if_f (by decide) ?_ | refine if_decT (by omega) ?_ | refine if_decF (by omega) ?_ | refine if_ndecT (by omega) ?_ | refine if_ndecF (by omega) ?_); conv => whnf)
 | ((first | refine if_dec (fun h => ?_) (fun h => ?_) | refine if_ndec (fun h => ?_) (fun h => ?_) | refine if_cond (fun h => ?_) (fun h => ?_)); all_goals (conv => whnf))
 | with_reducible apply_assumption -symm -exfalso)
  refine r_loop (α := ByteArray) (fun s => [(0, .v (.string s)), (1, .v (pv p))]) (fun k => []) (fun s' => s'.size ≤ 1099511627776 ∧ rstrip s'.data.toList = rstrip s.data.toList) (fun s => s.size) s ⟨hs, rfl⟩ ?_ (HSub.refl _) ?_
  · repeat' (first | exact Sub.nil | (refine Sub.cons rfl rfl ?_))
  rintro s' ⟨h1, h2⟩ KL hL
  have hsl := str_len s'
  rcases List.eq_nil_or_concat s'.data.toList with hn | ⟨l, c, hn⟩
  · have h0 : s'.size = 0 := by rw [← hsl, hn]; rfl
    conv => whnf
    repeat' (first
 | with_reducible (first | refine r_seq (fun KS hS => ?_) | (refine hS _ _ ?_; clear hS KS) | (refine hA _ ?_; clear hA KA) | (refine hB _ ?_; clear hB KB) | refine r_block ?_)
 | ((with_reducible (first | refine r_region ?_ | refine r_cond (fun KA hA KB hB => ?_) | refine r_ret ?_ | refine r_skip ?_ | refine r_exit ?_ | refine And.intro rfl ?_ | intro b)); conv => whnf)
 | ((with_reducible refine WrapK.i64 ?_ ?_); (focus omega); conv => whnf)
 | ((with_reducible apply OpK.more); (focus refine sok); (conv => whnf); fail_if_success guard_target =ₛ False)
 | ((with_reducible (first | refine InAt.mk (fun K' hK => ?_) | refine AnyAt.mk (fun K' hK => ?_) | (refine hK _ ?_; clear hK K') | (refine hK _ _ ?_; clear hK K'))); conv => whnf)
 | ((refine And.intro ?_ ?_); all_goals (conv => whnf))
 | (apply r_quiet; refine mixed; kernel_rfl; kernel_rfl; kernel_rfl; conv => whnf)
 | ((first | refine if_t (by decide) ?_ | refine if_f (by decide) ?_ | refine if_decT (by omega) ?_ | refine if_decF (by omega) ?_ | refine if_ndecT (by omega) ?_ | refine if_ndecF (by omega) ?_); conv => whnf)
 | ((first | refine if_dec (fun h => ?_) (fun h => ?_) | refine if_ndec (fun h => ?_) (fun h => ?_) | refine if_cond (fun h => ?_) (fun h => ?_)); all_goals (conv => whnf))
 | with_reducible apply_assumption -symm -exfalso)
    refine FinK.pu ?_
    show Value.string _ = _
    rw [← h2, hn]
    congr 1
    exact str_ext hn
  · have hn : s'.data.toList = l ++ [c] := by rw [hn]; simp
    have h0 : s'.size = l.length + 1 := by rw [← hsl, hn]; simp
    have hb : s'.data.toList[(Int.toNat ((s'.size : Int) - 1))]? = some c := by rw [show (Int.toNat ((s'.size : Int) - 1)) = l.length by omega, hn]; simp
    have hx : (s'.extract (Int.toNat 0) (Int.toNat ((s'.size : Int) - 1))).data.toList = l := by rw [show (Int.toNat ((s'.size : Int) - 1)) = l.length by omega, Lib.extract_data, hn]; simp
    have hxs : (s'.extract (Int.toNat 0) (Int.toNat ((s'.size : Int) - 1))).size = l.length := by rw [← str_len, hx]
    have hr := rstrip_snoc l c
    have hlt := c.toNat_lt
    by_cases hc : alnum c = true
    · rw [if_pos hc, ← hn] at hr
      conv => whnf
      repeat' (first
 | with_reducible (first | refine r_seq (fun KS hS => ?_) | (refine hS _ _ ?_; clear hS KS) | (refine hA _ ?_; clear hA KA) | (refine hB _ ?_; clear hB KB) | refine r_block ?_)
 | ((with_reducible (first | refine r_region ?_ | refine r_cond (fun KA hA KB hB => ?_) | refine r_ret ?_ | refine r_skip ?_ | refine r_exit ?_ | refine And.intro rfl ?_ | intro b)); conv => whnf)
 | ((with_reducible refine WrapK.i64 ?_ ?_); (focus omega); conv => whnf)
 | (apply in331; rfl; rfl; rfl; intro A; conv => whnf)
 | ((with_reducible refine OpK.id ?_); (first | refine OpK.sIx (b := c) rfl rfl rfl rfl rfl (by omega) hb ?_ | (refine OpK.ixP rfl rfl rfl rfl rfl rfl (by omega) (by show _ < (256 : Int); omega) ?_) | (refine OpK.ldp rfl rfl (h.pc' c) (List.cons_ne_nil _ _) ?_; rw [hc]) | refine OpK.slS rfl rfl rfl rfl ?_); conv => whnf)
 | (refine ⟨by omega, by omega, by omega, ?_⟩; conv => whnf)
 | (refine hL (s'.extract (Int.toNat 0) (Int.toNat ((s'.size : Int) - 1))) _ _ ⟨by omega, by rw [hx, ← hr, h2]⟩ (by omega) ?_ (HSub.refl _); repeat' (first | exact Sub.nil | (refine Sub.cons rfl rfl ?_)))
 | ((with_reducible apply OpK.more); (focus refine sok); (conv => whnf); fail_if_success guard_target =ₛ False)
 | ((with_reducible (first | refine InAt.mk (fun K' hK => ?_) | refine AnyAt.mk (fun K' hK => ?_) | (refine hK _ ?_; clear hK K') | (refine hK _ _ ?_; clear hK K'))); conv => whnf)
 | ((refine And.intro ?_ ?_); all_goals (conv => whnf))
 | (apply r_quiet; refine mixed; kernel_rfl; kernel_rfl; kernel_rfl; conv => whnf)
 | ((first | refine if_t (by decide) ?_ | refine if_f (by decide) ?_ | refine if_decT (by omega) ?_ | refine if_decF (by omega) ?_ | refine if_ndecT (by omega) ?_ | refine if_ndecF (by omega) ?_); conv => whnf)
 | ((first | refine if_dec (fun h => ?_) (fun h => ?_) | refine if_ndec (fun h => ?_) (fun h => ?_) | refine if_cond (fun h => ?_) (fun h => ?_)); all_goals (conv => whnf))
 | with_reducible apply_assumption -symm -exfalso)
    · rw [if_neg hc, ← hn] at hr
      rw [Bool.not_eq_true] at hc
      conv => whnf
      repeat' (first
 | with_reducible (first | refine r_seq (fun KS hS => ?_) | (refine hS _ _ ?_; clear hS KS) | (refine hA _ ?_; clear hA KA) | (refine hB _ ?_; clear hB KB) | refine r_block ?_)
 | ((with_reducible (first | refine r_region ?_ | refine r_cond (fun KA hA KB hB => ?_) | refine r_ret ?_ | refine r_skip ?_ | refine r_exit ?_ | refine And.intro rfl ?_ | intro b)); conv => whnf)
 | ((with_reducible refine WrapK.i64 ?_ ?_); (focus omega); conv => whnf)
 | (apply in331; rfl; rfl; rfl; intro A; conv => whnf)
 | ((with_reducible refine OpK.id ?_); (first | refine OpK.sIx (b := c) rfl rfl rfl rfl rfl (by omega) hb ?_ | (refine OpK.ixP rfl rfl rfl rfl rfl rfl (by omega) (by show _ < (256 : Int); omega) ?_) | (refine OpK.ldp rfl rfl (h.pc' c) (List.cons_ne_nil _ _) ?_; rw [hc])); conv => whnf)
 | ((with_reducible apply OpK.more); (focus refine sok); (conv => whnf); fail_if_success guard_target =ₛ False)
 | ((with_reducible (first | refine InAt.mk (fun K' hK => ?_) | refine AnyAt.mk (fun K' hK => ?_) | (refine hK _ ?_; clear hK K') | (refine hK _ _ ?_; clear hK K'))); conv => whnf)
 | ((refine And.intro ?_ ?_); all_goals (conv => whnf))
 | (apply r_quiet; refine mixed; kernel_rfl; kernel_rfl; kernel_rfl; conv => whnf)
 | ((first | refine if_t (by decide) ?_ | refine if_f (by decide) ?_ | refine if_decT (by omega) ?_ | refine if_decF (by omega) ?_ | refine if_ndecT (by omega) ?_ | refine if_ndecF (by omega) ?_); conv => whnf)
 | ((first | refine if_dec (fun h => ?_) (fun h => ?_) | refine if_ndec (fun h => ?_) (fun h => ?_) | refine if_cond (fun h => ?_) (fun h => ?_)); all_goals (conv => whnf))
 | with_reducible apply_assumption -symm -exfalso)
      refine FinK.pu ?_
      show Value.string _ = _
      rw [← h2, hr]
def lstrip (l : List UInt8) : List UInt8 := l.dropWhile alnum
theorem trimL318 {s : ByteArray} {p : Nat} {w : World} (h : SetAt w p) (hs : s.size ≤ 1099511627776) : Pu Tryz.prog 258 #[.string s, pv p] w (.string ⟨(lstrip s.data.toList).toArray⟩) := by
  refine enter_sound TBok Tryz.func258 rfl rfl Tryz.ntmps258 [.v (.string s), .v (pv p)] (Kn.start w noS) rfl rfl ?_
  conv => whnf
  repeat' (first
 | with_reducible (first | refine r_seq (fun KS hS => ?_) | (refine hS _ _ ?_; clear hS KS) | (refine hA _ ?_; clear hA KA) | (refine hB _ ?_; clear hB KB) | refine r_block ?_)
 | ((with_reducible (first | refine r_region ?_ | refine r_cond (fun KA hA KB hB => ?_) | refine r_ret ?_ | refine r_skip ?_ | refine r_exit ?_ | refine And.intro rfl ?_ | intro b)); conv => whnf)
 | ((with_reducible refine WrapK.i64 ?_ ?_); (focus omega); conv => whnf)
 | ((with_reducible apply OpK.more); (focus refine sok); (conv => whnf); fail_if_success guard_target =ₛ False)
 | ((with_reducible (first | refine InAt.mk (fun K' hK => ?_) | refine AnyAt.mk (fun K' hK => ?_) | (refine hK _ ?_; clear hK K') | (refine hK _ _ ?_; clear hK K'))); conv => whnf)
 | ((refine And.intro ?_ ?_); all_goals (conv => whnf))
 | (apply r_quiet; refine mixed; kernel_rfl; kernel_rfl; kernel_rfl; conv => whnf)
 | ((first | refine if_t (by decide) ?_ | refine if_f (by decide) ?_ | refine if_decT (by omega) ?_ | refine if_decF (by omega) ?_ | refine if_ndecT (by omega) ?_ | refine if_ndecF (by omega) ?_); conv => whnf)
 | ((first | refine if_dec (fun h => ?_) (fun h => ?_) | refine if_ndec (fun h => ?_) (fun h => ?_) | refine if_cond (fun h => ?_) (fun h => ?_)); all_goals (conv => whnf))
 | with_reducible apply_assumption -symm -exfalso)
  refine r_loop (α := ByteArray) (fun s => [(0, .v (.string s)), (1, .v (pv p))]) (fun k => []) (fun s' => s'.size ≤ 1099511627776 ∧ lstrip s'.data.toList = lstrip s.data.toList) (fun s => s.size) s ⟨hs, rfl⟩ ?_ (HSub.refl _) ?_
  · repeat' (first | exact Sub.nil | (refine Sub.cons rfl rfl ?_))
  rintro s' ⟨h1, h2⟩ KL hL
  have hsl := str_len s'
  rcases hn : s'.data.toList with _ | ⟨c, l⟩
  · have h0 : s'.size = 0 := by rw [← hsl, hn]; rfl
    conv => whnf
    repeat' (first
 | with_reducible (first | refine r_seq (fun KS hS => ?_) | (refine hS _ _ ?_; clear hS KS) | (refine hA _ ?_; clear hA KA) | (refine hB _ ?_; clear hB KB) | refine r_block ?_)
 | ((with_reducible (first | refine r_region ?_ | refine r_cond (fun KA hA KB hB => ?_) | refine r_ret ?_ | refine r_skip ?_ | refine r_exit ?_ | refine And.intro rfl ?_ | intro b)); conv => whnf)
 | ((with_reducible refine WrapK.i64 ?_ ?_); (focus omega); conv => whnf)
 | ((with_reducible apply OpK.more); (focus refine sok); (conv => whnf); fail_if_success guard_target =ₛ False)
 | ((with_reducible (first | refine InAt.mk (fun K' hK => ?_) | refine AnyAt.mk (fun K' hK => ?_) | (refine hK _ ?_; clear hK K') | (refine hK _ _ ?_; clear hK K'))); conv => whnf)
 | ((refine And.intro ?_ ?_); all_goals (conv => whnf))
 | (apply r_quiet; refine mixed; kernel_rfl; kernel_rfl; kernel_rfl; conv => whnf)
 | ((first | refine if_t (by decide) ?_ | refine if_f (by decide) ?_ | refine if_decT (by omega) ?_ | refine if_decF (by omega) ?_ | refine if_ndecT (by omega) ?_ | refine if_ndecF (by omega) ?_); conv => whnf)
 | ((first | refine if_dec (fun h => ?_) (fun h => ?_) | refine if_ndec (fun h => ?_) (fun h => ?_) | refine if_cond (fun h => ?_) (fun h => ?_)); all_goals (conv => whnf))
 | with_reducible apply_assumption -symm -exfalso)
    refine FinK.pu ?_
    show Value.string _ = _
    rw [← h2, hn]
    congr 1
    exact str_ext hn
  · have h0 : s'.size = l.length + 1 := by rw [← hsl, hn]; simp
    have hb : s'.data.toList[(Int.toNat 0)]? = some c := by rw [hn]; rfl
    have hx : (s'.extract (Int.toNat 1) (Int.toNat (s'.size : Int))).data.toList = l := by rw [Lib.extract_data, hn, h0]; simp
    have hxs : (s'.extract (Int.toNat 1) (Int.toNat (s'.size : Int))).size = l.length := by rw [← str_len, hx]
    have hr : lstrip (c :: l) = if alnum c then lstrip l else c :: l := by unfold lstrip; rw [List.dropWhile_cons]
    have hlt := c.toNat_lt
    by_cases hc : alnum c = true
    · rw [if_pos hc, ← hn] at hr
      conv => whnf
      repeat' (first
 | with_reducible (first | refine r_seq (fun KS hS => ?_) | (refine hS _ _ ?_; clear hS KS) | (refine hA _ ?_; clear hA KA) | (refine hB _ ?_; clear hB KB) | refine r_block ?_)
 | ((with_reducible (first | refine r_region ?_ | refine r_cond (fun KA hA KB hB => ?_) | refine r_ret ?_ | refine r_skip ?_ | refine r_exit ?_ | refine And.intro rfl ?_ | intro b)); conv => whnf)
 | ((with_reducible refine WrapK.i64 ?_ ?_); (focus omega); conv => whnf)
 | (apply in331; rfl; rfl; rfl; intro A; conv => whnf)
 | ((with_reducible refine OpK.id ?_); (first | refine OpK.sIx (b := c) rfl rfl rfl rfl rfl (by omega) hb ?_ | (refine OpK.ixP rfl rfl rfl rfl rfl rfl (by omega) (by show _ < (256 : Int); omega) ?_) | (refine OpK.ldp rfl rfl (h.pc' c) (List.cons_ne_nil _ _) ?_; rw [hc]) | refine OpK.slS rfl rfl rfl rfl ?_); conv => whnf)
 | (refine ⟨by omega, by omega, by omega, ?_⟩; conv => whnf)
 | (refine hL (s'.extract (Int.toNat 1) (Int.toNat (s'.size : Int))) _ _ ⟨by omega, by rw [hx, ← hr, h2]⟩ (by omega) ?_ (HSub.refl _); repeat' (first | exact Sub.nil | (refine Sub.cons rfl rfl ?_)))
 | ((with_reducible apply OpK.more); (focus refine sok); (conv => whnf); fail_if_success guard_target =ₛ False)
 | ((with_reducible (first | refine InAt.mk (fun K' hK => ?_) | refine AnyAt.mk (fun K' hK => ?_) | (refine hK _ ?_; clear hK K') | (refine hK _ _ ?_; clear hK K'))); conv => whnf)
 | ((refine And.intro ?_ ?_); all_goals (conv => whnf))
 | (apply r_quiet; refine mixed; kernel_rfl; kernel_rfl; kernel_rfl; conv => whnf)
 | ((first | refine if_t (by decide) ?_ | refine if_f (by decide) ?_ | refine if_decT (by omega) ?_ | refine if_decF (by omega) ?_ | refine if_ndecT (by omega) ?_ | refine if_ndecF (by omega) ?_); conv => whnf)
 | ((first | refine if_dec (fun h => ?_) (fun h => ?_) | refine if_ndec (fun h => ?_) (fun h => ?_) | refine if_cond (fun h => ?_) (fun h => ?_)); all_goals (conv => whnf))
 | with_reducible apply_assumption -symm -exfalso)
    · rw [if_neg hc, ← hn] at hr
      rw [Bool.not_eq_true] at hc
      conv => whnf
      repeat' (first
 | with_reducible (first | refine r_seq (fun KS hS => ?_) | (refine hS _ _ ?_; clear hS KS) | (refine hA _ ?_; clear hA KA) | (refine hB _ ?_; clear hB KB) | refine r_block ?_)
 | ((with_reducible (first | refine r_region ?_ | refine r_cond (fun KA hA KB hB => ?_) | refine r_ret ?_ | refine r_skip ?_ | refine r_exit ?_ | refine And.intro rfl ?_ | intro b)); conv => whnf)
 | ((with_reducible refine WrapK.i64 ?_ ?_); (focus omega); conv => whnf)
 | (apply in331; rfl; rfl; rfl; intro A; conv => whnf)
 | ((with_reducible refine OpK.id ?_); (first | refine OpK.sIx (b := c) rfl rfl rfl rfl rfl (by omega) hb ?_ | (refine OpK.ixP rfl rfl rfl rfl rfl rfl (by omega) (by show _ < (256 : Int); omega) ?_) | (refine OpK.ldp rfl rfl (h.pc' c) (List.cons_ne_nil _ _) ?_; rw [hc])); conv => whnf)
 | ((with_reducible apply OpK.more); (focus refine sok); (conv => whnf); fail_if_success guard_target =ₛ False)
 | ((with_reducible (first | refine InAt.mk (fun K' hK => ?_) | refine AnyAt.mk (fun K' hK => ?_) | (refine hK _ ?_; clear hK K') | (refine hK _ _ ?_; clear hK K'))); conv => whnf)
 | ((refine And.intro ?_ ?_); all_goals (conv => whnf))
 | (apply r_quiet; refine mixed; kernel_rfl; kernel_rfl; kernel_rfl; conv => whnf)
 | ((first | refine if_t (by decide) ?_ | refine if_f (by decide) ?_ | refine if_decT (by omega) ?_ | refine if_decF (by omega) ?_ | refine if_ndecT (by omega) ?_ | refine if_ndecF (by omega) ?_); conv => whnf)
 | ((first | refine if_dec (fun h => ?_) (fun h => ?_) | refine if_ndec (fun h => ?_) (fun h => ?_) | refine if_cond (fun h => ?_) (fun h => ?_)); all_goals (conv => whnf))
 | with_reducible apply_assumption -symm -exfalso)
      refine FinK.pu ?_
      show Value.string _ = _
      rw [← h2, hr]
theorem alnum_get (c : UInt8) : (denL (setL 36)).toArray[c.toNat]? = some (.bool (alnum c)) := by
  have hlt := c.toNat_lt
  rw [List.getElem?_toArray, denL_getElem?, setL_get (by omega)]
  simp only [Option.map_some, den, alnum]
  congr 3
  simp
theorem rstrip_len (l : List UInt8) : (rstrip l).length ≤ l.length := by
  unfold rstrip
  rw [List.length_reverse]
  exact Nat.le_trans (List.dropWhile_suffix _).length_le (by simp)
theorem SetAt.of {c : Cx} {ms : List Nat} {H : List Blk} {w : World} {i b : Nat} {cs : List SV} {t : Nat} (hk : Kn c.W c.S ms H w) (hm : .blk i b cs t ∈ H) (e : denL cs = denL (setL 36)) : SetAt w b := by
  have hg := hk.got hm
  rw [e] at hg
  exact ⟨(Array.getElem?_eq_some_iff.1 hg).1, _, _, _, hg, alnum_get⟩
theorem trim293 {s : ByteArray} (hs : s.size ≤ 1099511627776) (h0 : s.size ≠ 0) (w : World) : Pu Tryz.prog 229 #[.string s, .string cutS] w (.string ⟨(lstrip (rstrip s.data.toList)).toArray⟩) := by
  refine enter_sound TBok Tryz.func229 rfl rfl Tryz.ntmps229 [.v (.string s), .v (.string cutS)] (Kn.start w noS) rfl rfl ?_
  have hne : ¬ s = ⟨#[]⟩ := by rintro rfl; exact h0 rfl
  have hce : ¬ cutS = ⟨#[]⟩ := by intro e; have := congrArg ByteArray.size e; cases this
  have hcs : cutS.size = 36 := rfl
  have hrs : (ByteArray.mk (rstrip s.data.toList).toArray).size ≤ 1099511627776 := by
    have h1 := rstrip_len s.data.toList
    have h2 := str_len s
    show (rstrip s.data.toList).toArray.size ≤ _
    rw [List.size_toArray]
    omega
  conv => whnf
  repeat' (first
 | with_reducible (first | refine r_seq (fun KS hS => ?_) | (refine hS _ _ ?_; clear hS KS) | (refine hA _ ?_; clear hA KA) | (refine hB _ ?_; clear hB KB) | refine r_block ?_)
 | ((with_reducible (first | refine r_region ?_ | refine r_cond (fun KA hA KB hB => ?_) | refine r_ret ?_ | refine r_skip ?_ | refine r_exit ?_ | refine And.intro rfl ?_ | intro b)); conv => whnf)
 | ((with_reducible refine WrapK.i64 ?_ ?_); (focus omega); conv => whnf)
 | (refine if_decF hne ?_; conv => whnf)
 | (refine if_decF hce ?_; conv => whnf)
 | ((with_reducible refine CallK.at 257 ?_); refine CallK.pu (fun w => mkset317 w) ?_; conv => whnf)
 | ((with_reducible refine CallK.at 259 ?_); refine CallK.puW (fun ms w hk => trimR319 (SetAt.of hk (by repeat (first | constructor | apply List.Mem.tail)) rfl) hs) ?_; conv => whnf)
 | ((with_reducible refine CallK.at 258 ?_); refine CallK.puW (fun ms w hk => trimL318 (SetAt.of hk (by repeat (first | constructor | apply List.Mem.tail)) rfl) hrs) ?_; conv => whnf)
 | ((with_reducible apply OpK.more); (focus refine sok); (conv => whnf); fail_if_success guard_target =ₛ False)
 | ((with_reducible (first | refine InAt.mk (fun K' hK => ?_) | refine AnyAt.mk (fun K' hK => ?_) | (refine hK _ ?_; clear hK K') | (refine hK _ _ ?_; clear hK K'))); conv => whnf)
 | ((refine And.intro ?_ ?_); all_goals (conv => whnf))
 | (apply r_quiet; refine mixed; kernel_rfl; kernel_rfl; kernel_rfl; conv => whnf)
 | ((first | refine if_t (by decide) ?_ | refine if_f (by decide) ?_ | refine if_decT (by omega) ?_ | refine if_decF (by omega) ?_ | refine if_ndecT (by omega) ?_ | refine if_ndecF (by omega) ?_); conv => whnf)
 | ((first | refine if_dec (fun h => ?_) (fun h => ?_) | refine if_ndec (fun h => ?_) (fun h => ?_) | refine if_cond (fun h => ?_) (fun h => ?_)); all_goals (conv => whnf))
 | with_reducible apply_assumption -symm -exfalso)
  exact FinK.pu rfl
theorem alnum_lt {c : UInt8} (h : alnum c = true) : c.toNat ≤ 122 := by
  have : ∀ n : Fin 256, cutL.contains (UInt8.ofNat n.val) = true → n.val ≤ 122 := by decide +kernel
  have h2 := this ⟨c.toNat, c.toNat_lt⟩
  simp only [UInt8.ofNat_toNat] at h2
  exact h2 h
theorem idx335 {s : ByteArray} (hs : s.size ≤ 1099511627776) (ha : ∀ c ∈ s.data.toList, alnum c = true) (w : World) : Pu Tryz.prog 279 #[.string s, .func (.func 231) #[] #[], .bool true] w (.int .i64 (-1)) := by
  refine enter_sound TBok Tryz.func279 rfl rfl Tryz.ntmps279 [.v (.string s), .fn 231 [], .v (.bool true)] (Kn.start w noS) rfl rfl ?_
  conv => whnf
  repeat' (first
 | with_reducible (first | refine r_seq (fun KS hS => ?_) | (refine hS _ _ ?_; clear hS KS) | (refine hA _ ?_; clear hA KA) | (refine hB _ ?_; clear hB KB) | refine r_block ?_)
 | ((with_reducible (first | refine r_region ?_ | refine r_cond (fun KA hA KB hB => ?_) | refine r_ret ?_ | refine r_skip ?_ | refine r_exit ?_ | refine And.intro rfl ?_ | intro b)); conv => whnf)
 | ((with_reducible refine WrapK.i64 ?_ ?_); (focus omega); conv => whnf)
 | ((with_reducible refine OpK.id ?_); refine OpK.rngS rfl rfl rfl rfl ?_; conv => whnf)
 | (intro r; conv => whnf)
 | ((with_reducible apply OpK.more); (focus refine sok); (conv => whnf); fail_if_success guard_target =ₛ False)
 | ((with_reducible (first | refine InAt.mk (fun K' hK => ?_) | refine AnyAt.mk (fun K' hK => ?_) | (refine hK _ ?_; clear hK K') | (refine hK _ _ ?_; clear hK K'))); conv => whnf)
 | ((refine And.intro ?_ ?_); all_goals (conv => whnf))
 | (apply r_quiet; refine mixed; kernel_rfl; kernel_rfl; kernel_rfl; conv => whnf)
 | ((first | refine if_t (by decide) ?_ | refine if_f (by decide) ?_ | refine if_decT (by omega) ?_ | refine if_decF (by omega) ?_ | refine if_ndecT (by omega) ?_ | refine if_ndecF (by omega) ?_); conv => whnf)
 | ((first | refine if_dec (fun h => ?_) (fun h => ?_) | refine if_ndec (fun h => ?_) (fun h => ?_) | refine if_cond (fun h => ?_) (fun h => ?_)); all_goals (conv => whnf))
 | with_reducible apply_assumption -symm -exfalso)
  refine r_loop (α := Nat) (fun _ => [(1, .fn 231 []), (2, .v (.bool true)), (10, .v (.pointer (some ⟨b, 0, none⟩)))]) (fun k => [.ext 0 (StrIt b s k)]) (fun k => k ≤ s.size) (fun k => s.size - k) 0 (Nat.zero_le _) ?_ (HSub.refl _) ?_
  · repeat' (first | exact Sub.nil | (refine Sub.cons rfl rfl ?_))
  intro k hk KL hL
  by_cases hlt : k < s.size
  · obtain ⟨ch, hch⟩ : ∃ ch, s.data.toList[k]? = some ch := ⟨_, List.getElem?_eq_getElem (by rw [str_len]; exact hlt)⟩
    have hal := ha ch (List.mem_of_getElem? hch)
    have hc := alnum_lt hal
    have hd := Go.X.decode_ascii hch (by omega)
    conv => whnf
    repeat' (first
 | with_reducible (first | refine r_seq (fun KS hS => ?_) | (refine hS _ _ ?_; clear hS KS) | (refine hA _ ?_; clear hA KA) | (refine hB _ ?_; clear hB KB) | refine r_block ?_)
 | ((with_reducible (first | refine r_region ?_ | refine r_cond (fun KA hA KB hB => ?_) | refine r_ret ?_ | refine r_skip ?_ | refine r_exit ?_ | refine And.intro rfl ?_ | intro b)); conv => whnf)
 | ((with_reducible refine WrapK.i64 ?_ ?_); (focus omega); conv => whnf)
 | (apply in295; rfl; rfl; rfl; intro A; conv => whnf)
 | ((with_reducible refine OpK.id ?_); refine OpK.nextS rfl rfl (by repeat (first | with_reducible apply At.head | apply At.tail)) (fun _ => ?_) (fun h => absurd hlt h); rw [hd]; dsimp only; conv => whnf)
 | (refine if_f (by simp; omega) ?_; conv => whnf)
 | (refine hL (k + 1) _ _ (by omega) (by omega) ?_ (HSub.refl _); repeat' (first | exact Sub.nil | (refine Sub.cons rfl rfl ?_)))
 | ((with_reducible apply OpK.more); (focus refine sok); (conv => whnf); fail_if_success guard_target =ₛ False)
 | ((with_reducible (first | refine InAt.mk (fun K' hK => ?_) | refine AnyAt.mk (fun K' hK => ?_) | (refine hK _ ?_; clear hK K') | (refine hK _ _ ?_; clear hK K'))); conv => whnf)
 | ((refine And.intro ?_ ?_); all_goals (conv => whnf))
 | (apply r_quiet; refine mixed; kernel_rfl; kernel_rfl; kernel_rfl; conv => whnf)
 | ((first | refine if_t (by decide) ?_ | refine if_f (by decide) ?_ | refine if_decT (by omega) ?_ | refine if_decF (by omega) ?_ | refine if_ndecT (by omega) ?_ | refine if_ndecF (by omega) ?_); conv => whnf)
 | ((first | refine if_dec (fun h => ?_) (fun h => ?_) | refine if_ndec (fun h => ?_) (fun h => ?_) | refine if_cond (fun h => ?_) (fun h => ?_)); all_goals (conv => whnf))
 | with_reducible apply_assumption -symm -exfalso)
  · conv => whnf
    repeat' (first
 | with_reducible (first | refine r_seq (fun KS hS => ?_) | (refine hS _ _ ?_; clear hS KS) | (refine hA _ ?_; clear hA KA) | (refine hB _ ?_; clear hB KB) | refine r_block ?_)
 | ((with_reducible (first | refine r_region ?_ | refine r_cond (fun KA hA KB hB => ?_) | refine r_ret ?_ | refine r_skip ?_ | refine r_exit ?_ | refine And.intro rfl ?_ | intro b)); conv => whnf)
 | ((with_reducible refine WrapK.i64 ?_ ?_); (focus omega); conv => whnf)
 | ((with_reducible refine OpK.id ?_); refine OpK.nextS rfl rfl (by repeat (first | with_reducible apply At.head | apply At.tail)) (fun h => absurd h hlt) (fun h => ?_); conv => whnf)
 | ((with_reducible apply OpK.more); (focus refine sok); (conv => whnf); fail_if_success guard_target =ₛ False)
 | ((with_reducible (first | refine InAt.mk (fun K' hK => ?_) | refine AnyAt.mk (fun K' hK => ?_) | (refine hK _ ?_; clear hK K') | (refine hK _ _ ?_; clear hK K'))); conv => whnf)
 | ((refine And.intro ?_ ?_); all_goals (conv => whnf))
 | (apply r_quiet; refine mixed; kernel_rfl; kernel_rfl; kernel_rfl; conv => whnf)
 | ((first | refine if_t (by decide) ?_ | refine if_f (by decide) ?_ | refine if_decT (by omega) ?_ | refine if_decF (by omega) ?_ | refine if_ndecT (by omega) ?_ | refine if_ndecF (by omega) ?_); conv => whnf)
 | ((first | refine if_dec (fun h => ?_) (fun h => ?_) | refine if_ndec (fun h => ?_) (fun h => ?_) | refine if_cond (fun h => ?_) (fun h => ?_)); all_goals (conv => whnf))
 | with_reducible apply_assumption -symm -exfalso)
    exact FinK.pu rfl
def nameOk (s : ByteArray) : Bool := decide (1 ≤ s.size) && decide (s.size ≤ 16) && s.data.toList.all alnum
theorem dw_nil {p : UInt8 → Bool} : ∀ {l : List UInt8}, l.dropWhile p = [] ↔ ∀ c ∈ l, p c = true
  | [] => by simp
  | c :: l => by
    rw [List.dropWhile_cons]
    split
    · rename_i h
      rw [dw_nil]
      simp [h]
    · rename_i h
      simp [h]
theorem strip_nil (l : List UInt8) : lstrip (rstrip l) = [] ↔ ∀ c ∈ l, alnum c = true := by
  constructor
  · intro h
    have h1 : ∀ c ∈ rstrip l, alnum c = true := by
      have : lstrip (rstrip l) = [] := h
      unfold lstrip at this
      exact fun c hc => dw_nil.1 this c hc
    intro c hc
    have h2 : l.reverse.dropWhile alnum = [] := by
      by_cases he : l.reverse.dropWhile alnum = []
      · exact he
      · have hh := List.head_dropWhile_not (p := alnum) (l := l.reverse) he
        have hm : (l.reverse.dropWhile alnum).head he ∈ rstrip l := by
          unfold rstrip
          rw [List.mem_reverse]
          exact List.head_mem he
        rw [h1 _ hm] at hh
        cases hh
    exact dw_nil.1 h2 c (by simpa using hc)
  · intro h
    have : rstrip l = [] := by
      unfold rstrip
      rw [dw_nil.2 (fun c hc => h c (by simpa using hc))]
      rfl
    rw [this]
    rfl
theorem name218 {s : ByteArray} (hs : s.size ≤ 1099511627776) (w : World) : Pu Tryz.prog 132 #[.string s] w (.bool (nameOk s)) := by
  refine enter_sound TBok Tryz.func132 rfl rfl Tryz.ntmps132 [.v (.string s)] (Kn.start w noS) rfl rfl ?_
  by_cases h1 : 1 ≤ s.size
  · by_cases h2 : s.size ≤ 16
    · by_cases h3 : ∀ c ∈ s.data.toList, alnum c = true
      · have e : (⟨(lstrip (rstrip s.data.toList)).toArray⟩ : ByteArray) = ⟨#[]⟩ := by rw [(strip_nil _).2 h3]
        conv => whnf
        repeat' (first
 | with_reducible (first | refine r_seq (fun KS hS => ?_) | (refine hS _ _ ?_; clear hS KS) | (refine hA _ ?_; clear hA KA) | (refine hB _ ?_; clear hB KB) | refine r_block ?_)
 | ((with_reducible (first | refine r_region ?_ | refine r_cond (fun KA hA KB hB => ?_) | refine r_ret ?_ | refine r_skip ?_ | refine r_exit ?_ | refine And.intro rfl ?_ | intro b)); conv => whnf)
 | ((with_reducible refine WrapK.i64 ?_ ?_); (focus omega); conv => whnf)
 | ((with_reducible refine CallK.id ?_); (first | apply in294 | apply in322); rfl; rfl; rfl; intro A; conv => whnf)
 | ((with_reducible refine CallK.at 229 ?_); refine CallK.pu (fun w => trim293 hs (by omega) w) ?_; conv => whnf)
 | (refine if_decT e ?_; conv => whnf)
 | ((with_reducible refine CallK.at 279 ?_); refine CallK.pu (fun w => idx335 hs h3 w) ?_; conv => whnf)
 | ((with_reducible apply OpK.more); (focus refine sok); (conv => whnf); fail_if_success guard_target =ₛ False)
 | ((with_reducible (first | refine InAt.mk (fun K' hK => ?_) | refine AnyAt.mk (fun K' hK => ?_) | (refine hK _ ?_; clear hK K') | (refine hK _ _ ?_; clear hK K'))); conv => whnf)
 | ((refine And.intro ?_ ?_); all_goals (conv => whnf))
 | (apply r_quiet; refine mixed; kernel_rfl; kernel_rfl; kernel_rfl; conv => whnf)
 | ((first | refine if_t (by decide) ?_ | refine if_f (by decide) ?_ | refine if_decT (by omega) ?_ | refine if_decF (by omega) ?_ | refine if_ndecT (by omega) ?_ | refine if_ndecF (by omega) ?_); conv => whnf)
 | ((first | refine if_dec (fun h => ?_) (fun h => ?_) | refine if_ndec (fun h => ?_) (fun h => ?_) | refine if_cond (fun h => ?_) (fun h => ?_)); all_goals (conv => whnf))
 | with_reducible apply_assumption -symm -exfalso)
        refine FinK.pu ?_
        have h4 : s.data.toList.all alnum = true := List.all_eq_true.2 h3
        simp [den, nameOk, h1, h2, h4]
      · have e : ¬ (⟨(lstrip (rstrip s.data.toList)).toArray⟩ : ByteArray) = ⟨#[]⟩ := by
          intro e
          apply h3
          rw [← strip_nil]
          have := congrArg (fun a => a.data.toList) e
          simpa using this
        conv => whnf
        repeat' (first
 | with_reducible (first | refine r_seq (fun KS hS => ?_) | (refine hS _ _ ?_; clear hS KS) | (refine hA _ ?_; clear hA KA) | (refine hB _ ?_; clear hB KB) | refine r_block ?_)
 | ((with_reducible (first | refine r_region ?_ | refine r_cond (fun KA hA KB hB => ?_) | refine r_ret ?_ | refine r_skip ?_ | refine r_exit ?_ | refine And.intro rfl ?_ | intro b)); conv => whnf)
 | ((with_reducible refine WrapK.i64 ?_ ?_); (focus omega); conv => whnf)
 | ((with_reducible refine CallK.at 229 ?_); refine CallK.pu (fun w => trim293 hs (by omega) w) ?_; conv => whnf)
 | (refine if_decF e ?_; conv => whnf)
 | ((with_reducible apply OpK.more); (focus refine sok); (conv => whnf); fail_if_success guard_target =ₛ False)
 | ((with_reducible (first | refine InAt.mk (fun K' hK => ?_) | refine AnyAt.mk (fun K' hK => ?_) | (refine hK _ ?_; clear hK K') | (refine hK _ _ ?_; clear hK K'))); conv => whnf)
 | ((refine And.intro ?_ ?_); all_goals (conv => whnf))
 | (apply r_quiet; refine mixed; kernel_rfl; kernel_rfl; kernel_rfl; conv => whnf)
 | ((first | refine if_t (by decide) ?_ | refine if_f (by decide) ?_ | refine if_decT (by omega) ?_ | refine if_decF (by omega) ?_ | refine if_ndecT (by omega) ?_ | refine if_ndecF (by omega) ?_); conv => whnf)
 | ((first | refine if_dec (fun h => ?_) (fun h => ?_) | refine if_ndec (fun h => ?_) (fun h => ?_) | refine if_cond (fun h => ?_) (fun h => ?_)); all_goals (conv => whnf))
 | with_reducible apply_assumption -symm -exfalso)
        refine FinK.pu ?_
        have h4 : s.data.toList.all alnum = false := by
          rw [Bool.eq_false_iff]
          exact fun h => h3 (List.all_eq_true.1 h)
        simp [den, nameOk, h4]
    · conv => whnf
      repeat' (first
 | with_reducible (first | refine r_seq (fun KS hS => ?_) | (refine hS _ _ ?_; clear hS KS) | (refine hA _ ?_; clear hA KA) | (refine hB _ ?_; clear hB KB) | refine r_block ?_)
 | ((with_reducible (first | refine r_region ?_ | refine r_cond (fun KA hA KB hB => ?_) | refine r_ret ?_ | refine r_skip ?_ | refine r_exit ?_ | refine And.intro rfl ?_ | intro b)); conv => whnf)
 | ((with_reducible refine WrapK.i64 ?_ ?_); (focus omega); conv => whnf)
 | ((with_reducible apply OpK.more); (focus refine sok); (conv => whnf); fail_if_success guard_target =ₛ False)
 | ((with_reducible (first | refine InAt.mk (fun K' hK => ?_) | refine AnyAt.mk (fun K' hK => ?_) | (refine hK _ ?_; clear hK K') | (refine hK _ _ ?_; clear hK K'))); conv => whnf)
 | ((refine And.intro ?_ ?_); all_goals (conv => whnf))
 | (apply r_quiet; refine mixed; kernel_rfl; kernel_rfl; kernel_rfl; conv => whnf)
 | ((first | refine if_t (by decide) ?_ | refine if_f (by decide) ?_ | refine if_decT (by omega) ?_ | refine if_decF (by omega) ?_ | refine if_ndecT (by omega) ?_ | refine if_ndecF (by omega) ?_); conv => whnf)
 | ((first | refine if_dec (fun h => ?_) (fun h => ?_) | refine if_ndec (fun h => ?_) (fun h => ?_) | refine if_cond (fun h => ?_) (fun h => ?_)); all_goals (conv => whnf))
 | with_reducible apply_assumption -symm -exfalso)
      refine FinK.pu ?_
      simp [den, nameOk, h2]
  · conv => whnf
    repeat' (first
 | with_reducible (first | refine r_seq (fun KS hS => ?_) | (refine hS _ _ ?_; clear hS KS) | (refine hA _ ?_; clear hA KA) | (refine hB _ ?_; clear hB KB) | refine r_block ?_)
 | ((with_reducible (first | refine r_region ?_ | refine r_cond (fun KA hA KB hB => ?_) | refine r_ret ?_ | refine r_skip ?_ | refine r_exit ?_ | refine And.intro rfl ?_ | intro b)); conv => whnf)
 | ((with_reducible refine WrapK.i64 ?_ ?_); (focus omega); conv => whnf)
 | ((with_reducible apply OpK.more); (focus refine sok); (conv => whnf); fail_if_success guard_target =ₛ False)
 | ((with_reducible (first | refine InAt.mk (fun K' hK => ?_) | refine AnyAt.mk (fun K' hK => ?_) | (refine hK _ ?_; clear hK K') | (refine hK _ _ ?_; clear hK K'))); conv => whnf)
 | ((refine And.intro ?_ ?_); all_goals (conv => whnf))
 | (apply r_quiet; refine mixed; kernel_rfl; kernel_rfl; kernel_rfl; conv => whnf)
 | ((first | refine if_t (by decide) ?_ | refine if_f (by decide) ?_ | refine if_decT (by omega) ?_ | refine if_decF (by omega) ?_ | refine if_ndecT (by omega) ?_ | refine if_ndecF (by omega) ?_); conv => whnf)
 | ((first | refine if_dec (fun h => ?_) (fun h => ?_) | refine if_ndec (fun h => ?_) (fun h => ?_) | refine if_cond (fun h => ?_) (fun h => ?_)); all_goals (conv => whnf))
 | with_reducible apply_assumption -symm -exfalso)
    refine FinK.pu ?_
    simp [den, nameOk, h1]
end Go.Proofs.YthmjkaljkgjicaaGreatDoor

namespace Go.Proofs.YthmjkaljkgjicaaGreatDoor
open Go Go.X
set_option maxRecDepth 100000
set_option maxHeartbeats 0
def EffOk (s t p : Int) : Prop := 1 ≤ s ∧ s ≤ 9999 ∧ 0 ≤ t ∧ t < 8 ∧ 1 ≤ p ∧ p ≤ 3
instance (s t p : Int) : Decidable (EffOk s t p) := inferInstanceAs (Decidable (_ ∧ _))
def ItemOk (s t p m : Int) (i : Bool) (g : Int) : Prop := 1 ≤ g ∧ g ≤ 7 ∧ ((m = 0 ∧ i = false ∧ EffOk s t p) ∨ (1 ≤ m ∧ m ≤ 64 ∧ s = 0 ∧ t = 0 ∧ p = 0))
instance (s t p m : Int) (i : Bool) (g : Int) : Decidable (ItemOk s t p m i g) := inferInstanceAs (Decidable (_ ∧ _))
theorem effOk94 {s t p : Int} (h : EffOk s t p) (w : World) : Pu Tryz.prog 75 #[.agg #[.int .i64 s, .int .i64 t, .int .i64 p]] w (.int .i64 0) := by
  obtain ⟨h1, h2, h3, h4, h5, h6⟩ := h
  refine enter_sound TBok Tryz.func75 rfl rfl Tryz.ntmps75 [.agg [.v (.int .i64 s), .v (.int .i64 t), .v (.int .i64 p)]] (Kn.start w noS) rfl rfl ?_
  conv => whnf
  repeat' (first
 | with_reducible (first | refine r_seq (fun KS hS => ?_) | (refine hS _ _ ?_; clear hS KS) | (refine hA _ ?_; clear hA KA) | (refine hB _ ?_; clear hB KB) | refine r_block ?_)
 | ((with_reducible (first | refine r_region ?_ | refine r_cond (fun KA hA KB hB => ?_) | refine r_ret ?_ | refine r_skip ?_ | refine r_exit ?_ | refine And.intro rfl ?_ | intro b)); conv => whnf)
 | ((with_reducible refine WrapK.i64 ?_ ?_); (focus omega); conv => whnf)
 | ((with_reducible apply OpK.more); (focus refine sok); (conv => whnf); fail_if_success guard_target =ₛ False)
 | ((with_reducible (first | refine InAt.mk (fun K' hK => ?_) | refine AnyAt.mk (fun K' hK => ?_) | (refine hK _ ?_; clear hK K') | (refine hK _ _ ?_; clear hK K'))); conv => whnf)
 | ((refine And.intro ?_ ?_); all_goals (conv => whnf))
 | (apply r_quiet; refine mixed; kernel_rfl; kernel_rfl; kernel_rfl; conv => whnf)
 | ((first | refine if_t (by decide) ?_ | refine if_f (by decide) ?_ | refine if_decT (by omega) ?_ | refine if_decF (by omega) ?_ | refine if_ndecT (by omega) ?_ | refine if_ndecF (by omega) ?_); conv => whnf)
 | ((first | refine if_dec (fun h => ?_) (fun h => ?_) | refine if_ndec (fun h => ?_) (fun h => ?_) | refine if_cond (fun h => ?_) (fun h => ?_)); all_goals (conv => whnf))
 | with_reducible apply_assumption -symm -exfalso)
  exact FinK.pu rfl
theorem itemOk50 {s t p m : Int} {i : Bool} {g : Int} (h : ItemOk s t p m i g) (w : World) : Pu Tryz.prog 47 #[.agg #[.int .i64 s, .int .i64 t, .int .i64 p, .int .i64 m, .bool i, .int .i64 g]] w (.int .i64 0) := by
  obtain ⟨h1, h2, h3⟩ := h
  refine enter_sound TBok Tryz.func47 rfl rfl Tryz.ntmps47 [.agg [.v (.int .i64 s), .v (.int .i64 t), .v (.int .i64 p), .v (.int .i64 m), .v (.bool i), .v (.int .i64 g)]] (Kn.start w noS) rfl rfl ?_
  rcases h3 with ⟨rfl, rfl, h3⟩ | ⟨h3, h4, rfl, rfl, rfl⟩
  · conv => whnf
    repeat' (first
 | with_reducible (first | refine r_seq (fun KS hS => ?_) | (refine hS _ _ ?_; clear hS KS) | (refine hA _ ?_; clear hA KA) | (refine hB _ ?_; clear hB KB) | refine r_block ?_)
 | ((with_reducible (first | refine r_region ?_ | refine r_cond (fun KA hA KB hB => ?_) | refine r_ret ?_ | refine r_skip ?_ | refine r_exit ?_ | refine And.intro rfl ?_ | intro b)); conv => whnf)
 | ((with_reducible refine WrapK.i64 ?_ ?_); (focus omega); conv => whnf)
 | ((with_reducible refine CallK.at 75 ?_); refine CallK.pu (fun w => effOk94 h3 w) ?_; conv => whnf)
 | ((with_reducible apply OpK.more); (focus refine sok); (conv => whnf); fail_if_success guard_target =ₛ False)
 | ((with_reducible (first | refine InAt.mk (fun K' hK => ?_) | refine AnyAt.mk (fun K' hK => ?_) | (refine hK _ ?_; clear hK K') | (refine hK _ _ ?_; clear hK K'))); conv => whnf)
 | ((refine And.intro ?_ ?_); all_goals (conv => whnf))
 | (apply r_quiet; refine mixed; kernel_rfl; kernel_rfl; kernel_rfl; conv => whnf)
 | ((first | refine if_t (by decide) ?_ | refine if_f (by decide) ?_ | refine if_decT (by omega) ?_ | refine if_decF (by omega) ?_ | refine if_ndecT (by omega) ?_ | refine if_ndecF (by omega) ?_); conv => whnf)
 | ((first | refine if_dec (fun h => ?_) (fun h => ?_) | refine if_ndec (fun h => ?_) (fun h => ?_) | refine if_cond (fun h => ?_) (fun h => ?_)); all_goals (conv => whnf))
 | with_reducible apply_assumption -symm -exfalso)
    exact FinK.pu rfl
  · conv => whnf
    repeat' (first
 | with_reducible (first | refine r_seq (fun KS hS => ?_) | (refine hS _ _ ?_; clear hS KS) | (refine hA _ ?_; clear hA KA) | (refine hB _ ?_; clear hB KB) | refine r_block ?_)
 | ((with_reducible (first | refine r_region ?_ | refine r_cond (fun KA hA KB hB => ?_) | refine r_ret ?_ | refine r_skip ?_ | refine r_exit ?_ | refine And.intro rfl ?_ | intro b)); conv => whnf)
 | ((with_reducible refine WrapK.i64 ?_ ?_); (focus omega); conv => whnf)
 | ((with_reducible apply OpK.more); (focus refine sok); (conv => whnf); fail_if_success guard_target =ₛ False)
 | ((with_reducible (first | refine InAt.mk (fun K' hK => ?_) | refine AnyAt.mk (fun K' hK => ?_) | (refine hK _ ?_; clear hK K') | (refine hK _ _ ?_; clear hK K'))); conv => whnf)
 | ((refine And.intro ?_ ?_); all_goals (conv => whnf))
 | (apply r_quiet; refine mixed; kernel_rfl; kernel_rfl; kernel_rfl; conv => whnf)
 | ((first | refine if_t (by decide) ?_ | refine if_f (by decide) ?_ | refine if_decT (by omega) ?_ | refine if_decF (by omega) ?_ | refine if_ndecT (by omega) ?_ | refine if_ndecF (by omega) ?_); conv => whnf)
 | ((first | refine if_dec (fun h => ?_) (fun h => ?_) | refine if_ndec (fun h => ?_) (fun h => ?_) | refine if_cond (fun h => ?_) (fun h => ?_)); all_goals (conv => whnf))
 | with_reducible apply_assumption -symm -exfalso)
    exact FinK.pu rfl
def itemNum (s t p m : Int) (i : Bool) (g : Int) : Int := if m = 0 then (((s - 1) * 8 + t) * 3 + p - 1) * 7 + g else if i then (239976 + 2 * m - 1) * 7 + g else (239976 + 2 * m - 2) * 7 + g
theorem numOk70 {s t p m : Int} {i : Bool} {g : Int} (h : ItemOk s t p m i g) (w : World) : Pu Tryz.prog 20 #[.agg #[.int .i64 s, .int .i64 t, .int .i64 p, .int .i64 m, .bool i, .int .i64 g]] w (.tuple #[.int .i64 (itemNum s t p m i g), .int .i64 0]) := by
  have h' := h
  obtain ⟨h1, h2, h3⟩ := h
  refine enter_sound TBok Tryz.func20 rfl rfl Tryz.ntmps20 [.agg [.v (.int .i64 s), .v (.int .i64 t), .v (.int .i64 p), .v (.int .i64 m), .v (.bool i), .v (.int .i64 g)]] (Kn.start w noS) rfl rfl ?_
  rcases h3 with ⟨rfl, rfl, h3⟩ | ⟨h3, h4, rfl, rfl, rfl⟩
  · unfold EffOk at h3
    conv => whnf
    repeat' (first
 | with_reducible (first | refine r_seq (fun KS hS => ?_) | (refine hS _ _ ?_; clear hS KS) | (refine hA _ ?_; clear hA KA) | (refine hB _ ?_; clear hB KB) | refine r_block ?_)
 | ((with_reducible (first | refine r_region ?_ | refine r_cond (fun KA hA KB hB => ?_) | refine r_ret ?_ | refine r_skip ?_ | refine r_exit ?_ | refine And.intro rfl ?_ | intro b)); conv => whnf)
 | ((with_reducible refine WrapK.i64 ?_ ?_); (focus omega); conv => whnf)
 | ((with_reducible refine CallK.at 47 ?_); refine CallK.pu (fun w => itemOk50 h' w) ?_; conv => whnf)
 | ((with_reducible apply OpK.more); (focus refine sok); (conv => whnf); fail_if_success guard_target =ₛ False)
 | ((with_reducible (first | refine InAt.mk (fun K' hK => ?_) | refine AnyAt.mk (fun K' hK => ?_) | (refine hK _ ?_; clear hK K') | (refine hK _ _ ?_; clear hK K'))); conv => whnf)
 | ((refine And.intro ?_ ?_); all_goals (conv => whnf))
 | (apply r_quiet; refine mixed; kernel_rfl; kernel_rfl; kernel_rfl; conv => whnf)
 | ((first | refine if_t (by decide) ?_ | refine if_f (by decide) ?_ | refine if_decT (by omega) ?_ | refine if_decF (by omega) ?_ | refine if_ndecT (by omega) ?_ | refine if_ndecF (by omega) ?_); conv => whnf)
 | ((first | refine if_dec (fun h => ?_) (fun h => ?_) | refine if_ndec (fun h => ?_) (fun h => ?_) | refine if_cond (fun h => ?_) (fun h => ?_)); all_goals (conv => whnf))
 | with_reducible apply_assumption -symm -exfalso)
    exact FinK.pu rfl
  · have hm : ¬ m = 0 := by omega
    cases i with
    | false =>
      conv => whnf
      repeat' (first
 | with_reducible (first | refine r_seq (fun KS hS => ?_) | (refine hS _ _ ?_; clear hS KS) | (refine hA _ ?_; clear hA KA) | (refine hB _ ?_; clear hB KB) | refine r_block ?_)
 | ((with_reducible (first | refine r_region ?_ | refine r_cond (fun KA hA KB hB => ?_) | refine r_ret ?_ | refine r_skip ?_ | refine r_exit ?_ | refine And.intro rfl ?_ | intro b)); conv => whnf)
 | ((with_reducible refine WrapK.i64 ?_ ?_); (focus omega); conv => whnf)
 | ((with_reducible refine CallK.at 47 ?_); refine CallK.pu (fun w => itemOk50 h' w) ?_; conv => whnf)
 | ((with_reducible apply OpK.more); (focus refine sok); (conv => whnf); fail_if_success guard_target =ₛ False)
 | ((with_reducible (first | refine InAt.mk (fun K' hK => ?_) | refine AnyAt.mk (fun K' hK => ?_) | (refine hK _ ?_; clear hK K') | (refine hK _ _ ?_; clear hK K'))); conv => whnf)
 | ((refine And.intro ?_ ?_); all_goals (conv => whnf))
 | (apply r_quiet; refine mixed; kernel_rfl; kernel_rfl; kernel_rfl; conv => whnf)
 | ((first | refine if_t (by decide) ?_ | refine if_f (by decide) ?_ | refine if_decT (by omega) ?_ | refine if_decF (by omega) ?_ | refine if_ndecT (by omega) ?_ | refine if_ndecF (by omega) ?_); conv => whnf)
 | ((first | refine if_dec (fun h => ?_) (fun h => ?_) | refine if_ndec (fun h => ?_) (fun h => ?_) | refine if_cond (fun h => ?_) (fun h => ?_)); all_goals (conv => whnf))
 | with_reducible apply_assumption -symm -exfalso)
      refine FinK.pu ?_
      simp [den, denL, itemNum, hm]
    | true =>
      conv => whnf
      repeat' (first
 | with_reducible (first | refine r_seq (fun KS hS => ?_) | (refine hS _ _ ?_; clear hS KS) | (refine hA _ ?_; clear hA KA) | (refine hB _ ?_; clear hB KB) | refine r_block ?_)
 | ((with_reducible (first | refine r_region ?_ | refine r_cond (fun KA hA KB hB => ?_) | refine r_ret ?_ | refine r_skip ?_ | refine r_exit ?_ | refine And.intro rfl ?_ | intro b)); conv => whnf)
 | ((with_reducible refine WrapK.i64 ?_ ?_); (focus omega); conv => whnf)
 | ((with_reducible refine CallK.at 47 ?_); refine CallK.pu (fun w => itemOk50 h' w) ?_; conv => whnf)
 | ((with_reducible apply OpK.more); (focus refine sok); (conv => whnf); fail_if_success guard_target =ₛ False)
 | ((with_reducible (first | refine InAt.mk (fun K' hK => ?_) | refine AnyAt.mk (fun K' hK => ?_) | (refine hK _ ?_; clear hK K') | (refine hK _ _ ?_; clear hK K'))); conv => whnf)
 | ((refine And.intro ?_ ?_); all_goals (conv => whnf))
 | (apply r_quiet; refine mixed; kernel_rfl; kernel_rfl; kernel_rfl; conv => whnf)
 | ((first | refine if_t (by decide) ?_ | refine if_f (by decide) ?_ | refine if_decT (by omega) ?_ | refine if_decF (by omega) ?_ | refine if_ndecT (by omega) ?_ | refine if_ndecF (by omega) ?_); conv => whnf)
 | ((first | refine if_dec (fun h => ?_) (fun h => ?_) | refine if_ndec (fun h => ?_) (fun h => ?_) | refine if_cond (fun h => ?_) (fun h => ?_)); all_goals (conv => whnf))
 | with_reducible apply_assumption -symm -exfalso)
      refine FinK.pu ?_
      simp [den, denL, itemNum, hm]
theorem fromEff75 {n : Int} (h : 1 ≤ n ∧ n ≤ 1679832) (w : World) : Pu Tryz.prog 62 #[.int .i64 n] w (.tuple #[.agg #[.int .i64 ((n - 1) / 7 / 3 / 8 + 1), .int .i64 ((n - 1) / 7 / 3 % 8), .int .i64 ((n - 1) / 7 % 3 + 1), .int .i64 0, .bool false, .int .i64 ((n - 1) % 7 + 1)], .int .i64 0]) := by
  refine enter_sound TBok Tryz.func62 rfl rfl Tryz.ntmps62 [.v (.int .i64 n)] (Kn.start w noS) rfl rfl ?_
  conv => whnf
  repeat' (first
 | with_reducible (first | refine r_seq (fun KS hS => ?_) | (refine hS _ _ ?_; clear hS KS) | (refine hA _ ?_; clear hA KA) | (refine hB _ ?_; clear hB KB) | refine r_block ?_)
 | ((with_reducible (first | refine r_region ?_ | refine r_cond (fun KA hA KB hB => ?_) | refine r_ret ?_ | refine r_skip ?_ | refine r_exit ?_ | refine And.intro rfl ?_ | intro b)); conv => whnf)
 | ((with_reducible refine WrapK.i64 ?_ ?_); (focus omega); conv => whnf)
 | ((with_reducible refine RemK.id ?_); refine RemK.eq (by omega) (IntWalk.rem_in _ _ (by omega)) ?_; conv => whnf)
 | ((with_reducible refine QuoK.id ?_); refine QuoK.eq (by omega) (IntWalk.i64_quo _ _ (by omega)) ?_; conv => whnf)
 | ((with_reducible apply OpK.more); (focus refine sok); (conv => whnf); fail_if_success guard_target =ₛ False)
 | ((with_reducible (first | refine InAt.mk (fun K' hK => ?_) | refine AnyAt.mk (fun K' hK => ?_) | (refine hK _ ?_; clear hK K') | (refine hK _ _ ?_; clear hK K'))); conv => whnf)
 | ((refine And.intro ?_ ?_); all_goals (conv => whnf))
 | (apply r_quiet; refine mixed; kernel_rfl; kernel_rfl; kernel_rfl; conv => whnf)
 | ((first | refine if_t (by decide) ?_ | refine if_f (by decide) ?_ | refine if_decT (by omega) ?_ | refine if_decF (by omega) ?_ | refine if_ndecT (by omega) ?_ | refine if_ndecF (by omega) ?_); conv => whnf)
 | ((first | refine if_dec (fun h => ?_) (fun h => ?_) | refine if_ndec (fun h => ?_) (fun h => ?_) | refine if_cond (fun h => ?_) (fun h => ?_)); all_goals (conv => whnf))
 | with_reducible apply_assumption -symm -exfalso)
  all_goals exact FinK.pu rfl
theorem fromMove75 {n : Int} (h : 1679832 < n ∧ n ≤ 1680728) (w : World) : Pu Tryz.prog 62 #[.int .i64 n] w (.tuple #[.agg #[.int .i64 0, .int .i64 0, .int .i64 0, .int .i64 (((n - 1) / 7 - 239976) / 2 + 1), .bool (decide (((n - 1) / 7 - 239976) % 2 = 1)), .int .i64 ((n - 1) % 7 + 1)], .int .i64 0]) := by
  refine enter_sound TBok Tryz.func62 rfl rfl Tryz.ntmps62 [.v (.int .i64 n)] (Kn.start w noS) rfl rfl ?_
  conv => whnf
  repeat' (first
 | with_reducible (first | refine r_seq (fun KS hS => ?_) | (refine hS _ _ ?_; clear hS KS) | (refine hA _ ?_; clear hA KA) | (refine hB _ ?_; clear hB KB) | refine r_block ?_)
 | ((with_reducible (first | refine r_region ?_ | refine r_cond (fun KA hA KB hB => ?_) | refine r_ret ?_ | refine r_skip ?_ | refine r_exit ?_ | refine And.intro rfl ?_ | intro b)); conv => whnf)
 | ((with_reducible refine WrapK.i64 ?_ ?_); (focus omega); conv => whnf)
 | ((with_reducible refine RemK.id ?_); refine RemK.eq (by omega) (IntWalk.rem_in _ _ (by omega)) ?_; conv => whnf)
 | ((with_reducible refine QuoK.id ?_); refine QuoK.eq (by omega) (IntWalk.i64_quo _ _ (by omega)) ?_; conv => whnf)
 | ((with_reducible apply OpK.more); (focus refine sok); (conv => whnf); fail_if_success guard_target =ₛ False)
 | ((with_reducible (first | refine InAt.mk (fun K' hK => ?_) | refine AnyAt.mk (fun K' hK => ?_) | (refine hK _ ?_; clear hK K') | (refine hK _ _ ?_; clear hK K'))); conv => whnf)
 | ((refine And.intro ?_ ?_); all_goals (conv => whnf))
 | (apply r_quiet; refine mixed; kernel_rfl; kernel_rfl; kernel_rfl; conv => whnf)
 | ((first | refine if_t (by decide) ?_ | refine if_f (by decide) ?_ | refine if_decT (by omega) ?_ | refine if_decF (by omega) ?_ | refine if_ndecT (by omega) ?_ | refine if_ndecF (by omega) ?_); conv => whnf)
 | ((first | refine if_dec (fun h => ?_) (fun h => ?_) | refine if_ndec (fun h => ?_) (fun h => ?_) | refine if_cond (fun h => ?_) (fun h => ?_)); all_goals (conv => whnf))
 | with_reducible apply_assumption -symm -exfalso)
  all_goals exact FinK.pu rfl
def NumOk (a : Int) : Prop := -1152921504606846976 ≤ a ∧ a ≤ 1152921504606846976
theorem numOk131 {a : Int} (h : NumOk a) (w : World) : Pu Tryz.prog 105 #[.int .i64 a] w (.int .i64 0) := by
  unfold NumOk at h
  refine enter_sound TBok Tryz.func105 rfl rfl Tryz.ntmps105 [.v (.int .i64 a)] (Kn.start w noS) rfl rfl ?_
  conv => whnf
  repeat' (first
 | with_reducible (first | refine r_seq (fun KS hS => ?_) | (refine hS _ _ ?_; clear hS KS) | (refine hA _ ?_; clear hA KA) | (refine hB _ ?_; clear hB KB) | refine r_block ?_)
 | ((with_reducible (first | refine r_region ?_ | refine r_cond (fun KA hA KB hB => ?_) | refine r_ret ?_ | refine r_skip ?_ | refine r_exit ?_ | refine And.intro rfl ?_ | intro b)); conv => whnf)
 | ((with_reducible refine WrapK.i64 ?_ ?_); (focus omega); conv => whnf)
 | ((with_reducible apply OpK.more); (focus refine sok); (conv => whnf); fail_if_success guard_target =ₛ False)
 | ((with_reducible (first | refine InAt.mk (fun K' hK => ?_) | refine AnyAt.mk (fun K' hK => ?_) | (refine hK _ ?_; clear hK K') | (refine hK _ _ ?_; clear hK K'))); conv => whnf)
 | ((refine And.intro ?_ ?_); all_goals (conv => whnf))
 | (apply r_quiet; refine mixed; kernel_rfl; kernel_rfl; kernel_rfl; conv => whnf)
 | ((first | refine if_t (by decide) ?_ | refine if_f (by decide) ?_ | refine if_decT (by omega) ?_ | refine if_decF (by omega) ?_ | refine if_ndecT (by omega) ?_ | refine if_ndecF (by omega) ?_); conv => whnf)
 | ((first | refine if_dec (fun h => ?_) (fun h => ?_) | refine if_ndec (fun h => ?_) (fun h => ?_) | refine if_cond (fun h => ?_) (fun h => ?_)); all_goals (conv => whnf))
 | with_reducible apply_assumption -symm -exfalso)
  exact FinK.pu rfl
end Go.Proofs.YthmjkaljkgjicaaGreatDoor

namespace Go.Proofs.YthmjkaljkgjicaaGreatDoor
open Go Go.X
set_option maxRecDepth 100000
set_option maxHeartbeats 0
section
variable {c : Cx}
theorem CallQ.puS {g : FuncId} {l : List SV} {H : List Blk} {k : SV → Prop} (s : SV) (h : ∀ w, Pu c.P g (denL l).toArray w (den s)) (hn : k s) : CallQ c g l H k :=
  ⟨s, fun ms w hk => CT.mono (h w) fun e w' ⟨he, hb⟩ => ⟨he, Kn.below hk hb⟩, hn⟩
theorem CallK.puS {g : FuncId} {l : List SV} {H : List Blk} {nx : K1} (s : SV) (h : ∀ w, Pu c.P g (denL l).toArray w (den s)) (hn : nx s H) : CallK c g l H nx :=
  CallK.pure s (fun _ w _ => h w) hn
end
theorem acc217 {b off : Nat} (w : World) : Pu Tryz.prog 131 #[.pointer (some ⟨b, off, none⟩)] w (.pointer (some ⟨b, off + 6, none⟩)) := by
  refine enter_sound TBok Tryz.func131 rfl rfl Tryz.ntmps131 [.loc b 0 off] (Kn.start w noS) rfl rfl ?_
  conv => whnf
  repeat' (first
 | with_reducible (first | refine r_seq (fun KS hS => ?_) | (refine hS _ _ ?_; clear hS KS) | (refine hA _ ?_; clear hA KA) | (refine hB _ ?_; clear hB KB) | refine r_block ?_)
 | ((with_reducible (first | refine r_region ?_ | refine r_cond (fun KA hA KB hB => ?_) | refine r_ret ?_ | refine r_skip ?_ | refine r_exit ?_ | refine And.intro rfl ?_ | intro b)); conv => whnf)
 | ((with_reducible refine WrapK.i64 ?_ ?_); (focus omega); conv => whnf)
 | ((with_reducible apply OpK.more); (focus refine sok); (conv => whnf); fail_if_success guard_target =ₛ False)
 | ((with_reducible (first | refine InAt.mk (fun K' hK => ?_) | refine AnyAt.mk (fun K' hK => ?_) | (refine hK _ ?_; clear hK K') | (refine hK _ _ ?_; clear hK K'))); conv => whnf)
 | ((refine And.intro ?_ ?_); all_goals (conv => whnf))
 | (apply r_quiet; refine mixed; kernel_rfl; kernel_rfl; kernel_rfl; conv => whnf)
 | ((first | refine if_t (by decide) ?_ | refine if_f (by decide) ?_ | refine if_decT (by omega) ?_ | refine if_decF (by omega) ?_ | refine if_ndecT (by omega) ?_ | refine if_ndecF (by omega) ?_); conv => whnf)
 | ((first | refine if_dec (fun h => ?_) (fun h => ?_) | refine if_ndec (fun h => ?_) (fun h => ?_) | refine if_cond (fun h => ?_) (fun h => ?_)); all_goals (conv => whnf))
 | with_reducible apply_assumption -symm -exfalso)
  exact FinK.pu rfl
theorem aq217 {n : Nat} {W : World} {S : Nat → Prop} {r : Option Nat} {b i off : Nat} {H : List Blk} {k : SV → Prop} (h : k (.loc b i (off + 6))) : CallQ ⟨Tryz.prog, TB, n, W, S, r, TBok⟩ 131 [.loc b i off] H k :=
  CallQ.puS (.loc b i (off + 6)) (fun w => acc217 w) h
theorem ak217 {n : Nat} {W : World} {S : Nat → Prop} {r : Option Nat} {b i off : Nat} {H : List Blk} {nx : K1} (h : nx (.loc b i (off + 6)) H) : CallK ⟨Tryz.prog, TB, n, W, S, r, TBok⟩ 131 [.loc b i off] H nx :=
  CallK.puS (.loc b i (off + 6)) (fun w => acc217 w) h
theorem acc228 {b off : Nat} (w : World) : Pu Tryz.prog 142 #[.pointer (some ⟨b, off, none⟩)] w (.pointer (some ⟨b, off + 8, none⟩)) := by
  refine enter_sound TBok Tryz.func142 rfl rfl Tryz.ntmps142 [.loc b 0 off] (Kn.start w noS) rfl rfl ?_
  conv => whnf
  repeat' (first
 | with_reducible (first | refine r_seq (fun KS hS => ?_) | (refine hS _ _ ?_; clear hS KS) | (refine hA _ ?_; clear hA KA) | (refine hB _ ?_; clear hB KB) | refine r_block ?_)
 | ((with_reducible (first | refine r_region ?_ | refine r_cond (fun KA hA KB hB => ?_) | refine r_ret ?_ | refine r_skip ?_ | refine r_exit ?_ | refine And.intro rfl ?_ | intro b)); conv => whnf)
 | ((with_reducible refine WrapK.i64 ?_ ?_); (focus omega); conv => whnf)
 | ((with_reducible apply OpK.more); (focus refine sok); (conv => whnf); fail_if_success guard_target =ₛ False)
 | ((with_reducible (first | refine InAt.mk (fun K' hK => ?_) | refine AnyAt.mk (fun K' hK => ?_) | (refine hK _ ?_; clear hK K') | (refine hK _ _ ?_; clear hK K'))); conv => whnf)
 | ((refine And.intro ?_ ?_); all_goals (conv => whnf))
 | (apply r_quiet; refine mixed; kernel_rfl; kernel_rfl; kernel_rfl; conv => whnf)
 | ((first | refine if_t (by decide) ?_ | refine if_f (by decide) ?_ | refine if_decT (by omega) ?_ | refine if_decF (by omega) ?_ | refine if_ndecT (by omega) ?_ | refine if_ndecF (by omega) ?_); conv => whnf)
 | ((first | refine if_dec (fun h => ?_) (fun h => ?_) | refine if_ndec (fun h => ?_) (fun h => ?_) | refine if_cond (fun h => ?_) (fun h => ?_)); all_goals (conv => whnf))
 | with_reducible apply_assumption -symm -exfalso)
  exact FinK.pu rfl
theorem aq228 {n : Nat} {W : World} {S : Nat → Prop} {r : Option Nat} {b i off : Nat} {H : List Blk} {k : SV → Prop} (h : k (.loc b i (off + 8))) : CallQ ⟨Tryz.prog, TB, n, W, S, r, TBok⟩ 142 [.loc b i off] H k :=
  CallQ.puS (.loc b i (off + 8)) (fun w => acc228 w) h
theorem ak228 {n : Nat} {W : World} {S : Nat → Prop} {r : Option Nat} {b i off : Nat} {H : List Blk} {nx : K1} (h : nx (.loc b i (off + 8)) H) : CallK ⟨Tryz.prog, TB, n, W, S, r, TBok⟩ 142 [.loc b i off] H nx :=
  CallK.puS (.loc b i (off + 8)) (fun w => acc228 w) h
theorem acc236 {b off : Nat} (w : World) : Pu Tryz.prog 150 #[.pointer (some ⟨b, off, none⟩)] w (.pointer (some ⟨b, off + 23, none⟩)) := by
  refine enter_sound TBok Tryz.func150 rfl rfl Tryz.ntmps150 [.loc b 0 off] (Kn.start w noS) rfl rfl ?_
  conv => whnf
  repeat' (first
 | with_reducible (first | refine r_seq (fun KS hS => ?_) | (refine hS _ _ ?_; clear hS KS) | (refine hA _ ?_; clear hA KA) | (refine hB _ ?_; clear hB KB) | refine r_block ?_)
 | ((with_reducible (first | refine r_region ?_ | refine r_cond (fun KA hA KB hB => ?_) | refine r_ret ?_ | refine r_skip ?_ | refine r_exit ?_ | refine And.intro rfl ?_ | intro b)); conv => whnf)
 | ((with_reducible refine WrapK.i64 ?_ ?_); (focus omega); conv => whnf)
 | ((with_reducible apply OpK.more); (focus refine sok); (conv => whnf); fail_if_success guard_target =ₛ False)
 | ((with_reducible (first | refine InAt.mk (fun K' hK => ?_) | refine AnyAt.mk (fun K' hK => ?_) | (refine hK _ ?_; clear hK K') | (refine hK _ _ ?_; clear hK K'))); conv => whnf)
 | ((refine And.intro ?_ ?_); all_goals (conv => whnf))
 | (apply r_quiet; refine mixed; kernel_rfl; kernel_rfl; kernel_rfl; conv => whnf)
 | ((first | refine if_t (by decide) ?_ | refine if_f (by decide) ?_ | refine if_decT (by omega) ?_ | refine if_decF (by omega) ?_ | refine if_ndecT (by omega) ?_ | refine if_ndecF (by omega) ?_); conv => whnf)
 | ((first | refine if_dec (fun h => ?_) (fun h => ?_) | refine if_ndec (fun h => ?_) (fun h => ?_) | refine if_cond (fun h => ?_) (fun h => ?_)); all_goals (conv => whnf))
 | with_reducible apply_assumption -symm -exfalso)
  exact FinK.pu rfl
theorem aq236 {n : Nat} {W : World} {S : Nat → Prop} {r : Option Nat} {b i off : Nat} {H : List Blk} {k : SV → Prop} (h : k (.loc b i (off + 23))) : CallQ ⟨Tryz.prog, TB, n, W, S, r, TBok⟩ 150 [.loc b i off] H k :=
  CallQ.puS (.loc b i (off + 23)) (fun w => acc236 w) h
theorem ak236 {n : Nat} {W : World} {S : Nat → Prop} {r : Option Nat} {b i off : Nat} {H : List Blk} {nx : K1} (h : nx (.loc b i (off + 23)) H) : CallK ⟨Tryz.prog, TB, n, W, S, r, TBok⟩ 150 [.loc b i off] H nx :=
  CallK.puS (.loc b i (off + 23)) (fun w => acc236 w) h
end Go.Proofs.YthmjkaljkgjicaaGreatDoor

namespace Go.Proofs.YthmjkaljkgjicaaGreatDoor
open Go Go.X
set_option maxRecDepth 100000
theorem in103 : InSt 51 Tryz.f51 58 := InSt.mk' Tryz.func51 rfl Tryz.ntmps51
theorem in143 : InSt 78 Tryz.f78 2 := InSt.mk' Tryz.func78 rfl Tryz.ntmps78
theorem in144 : InSt 79 Tryz.f79 2 := InSt.mk' Tryz.func79 rfl Tryz.ntmps79
theorem in145 : InSt 80 Tryz.f80 2 := InSt.mk' Tryz.func80 rfl Tryz.ntmps80
theorem in147 : InSt 82 Tryz.f82 2 := InSt.mk' Tryz.func82 rfl Tryz.ntmps82
theorem in148 : InSt 83 Tryz.f83 2 := InSt.mk' Tryz.func83 rfl Tryz.ntmps83
theorem in149 : InSt 84 Tryz.f84 2 := InSt.mk' Tryz.func84 rfl Tryz.ntmps84
theorem in216 : InSt 130 Tryz.f130 13 := InSt.mk' Tryz.func130 rfl Tryz.ntmps130
theorem in226 : InSt 140 Tryz.f140 13 := InSt.mk' Tryz.func140 rfl Tryz.ntmps140
theorem in210 : InSt 124 Tryz.f124 9 := InSt.mk' Tryz.func124 rfl Tryz.ntmps124
theorem in288 : InSt 224 Tryz.f224 12 := InSt.mk' Tryz.func224 rfl Tryz.ntmps224
theorem in220 : InSt 134 Tryz.f134 16 := InSt.mk' Tryz.func134 rfl Tryz.ntmps134
theorem in297 : InSt 233 Tryz.f233 14 := InSt.mk' Tryz.func233 rfl Tryz.ntmps233
theorem in298 : InSt 234 Tryz.f234 15 := InSt.mk' Tryz.func234 rfl Tryz.ntmps234
theorem in229 : InSt 143 Tryz.f143 9 := InSt.mk' Tryz.func143 rfl Tryz.ntmps143
theorem in238 : InSt 152 Tryz.f152 6 := InSt.mk' Tryz.func152 rfl Tryz.ntmps152
theorem in289 : InSt 225 Tryz.f225 12 := InSt.mk' Tryz.func225 rfl Tryz.ntmps225
theorem in215 : InSt 129 Tryz.f129 6 := InSt.mk' Tryz.func129 rfl Tryz.ntmps129
theorem in292 : InSt 228 Tryz.f228 7 := InSt.mk' Tryz.func228 rfl Tryz.ntmps228
theorem in225 : InSt 139 Tryz.f139 5 := InSt.mk' Tryz.func139 rfl Tryz.ntmps139
theorem in302 : InSt 238 Tryz.f238 7 := InSt.mk' Tryz.func238 rfl Tryz.ntmps238
theorem in235 : InSt 149 Tryz.f149 6 := InSt.mk' Tryz.func149 rfl Tryz.ntmps149
theorem in29 : InSt 76 Tryz.f76 93 := InSt.mk' Tryz.func76 rfl Tryz.ntmps76
theorem in66 : InSt 122 Tryz.f122 31 := InSt.mk' Tryz.func122 rfl Tryz.ntmps122
theorem in112 : InSt 223 Tryz.f223 26 := InSt.mk' Tryz.func223 rfl Tryz.ntmps223
theorem in237 : InSt 151 Tryz.f151 6 := InSt.mk' Tryz.func151 rfl Tryz.ntmps151
theorem in250 : InSt 165 Tryz.f165 9 := InSt.mk' Tryz.func165 rfl Tryz.ntmps165
theorem in211 : InSt 125 Tryz.f125 28 := InSt.mk' Tryz.func125 rfl Tryz.ntmps125
theorem in221 : InSt 135 Tryz.f135 10 := InSt.mk' Tryz.func135 rfl Tryz.ntmps135
theorem in231 : InSt 145 Tryz.f145 18 := InSt.mk' Tryz.func145 rfl Tryz.ntmps145
theorem in299 : InSt 235 Tryz.f235 13 := InSt.mk' Tryz.func235 rfl Tryz.ntmps235
theorem in290 : InSt 226 Tryz.f226 11 := InSt.mk' Tryz.func226 rfl Tryz.ntmps226
theorem in300 : InSt 236 Tryz.f236 13 := InSt.mk' Tryz.func236 rfl Tryz.ntmps236
theorem in212 : InSt 126 Tryz.f126 22 := InSt.mk' Tryz.func126 rfl Tryz.ntmps126
theorem in222 : InSt 136 Tryz.f136 9 := InSt.mk' Tryz.func136 rfl Tryz.ntmps136
theorem in232 : InSt 146 Tryz.f146 16 := InSt.mk' Tryz.func146 rfl Tryz.ntmps146
end Go.Proofs.YthmjkaljkgjicaaGreatDoor
