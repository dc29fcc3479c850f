/- Contracts and lemmas for the claim (part XN1); no condition of its own. -/
import Derived.Test.YtbgnoibellfojaaGreatDoorXT
set_option linter.all false
set_option linter.unusedVariables false
set_option linter.unusedSimpArgs false
set_option linter.unnecessarySimpa false
namespace Go.Proofs.YtbgnoibellfojaaGreatDoor
open Go Go.X
set_option maxRecDepth 100000
set_option maxHeartbeats 0
theorem shl_u64 {x i : Nat} (hi : 7 * i ≤ 64) (h : x * 2 ^ (7 * i) < 2 ^ 64) : IntKind.u64.wrap ((x : Int) * 2 ^ min ((7 * (i : Int)).toNat) IntKind.u64.bits) = ((x * 2 ^ (7 * i) : Nat) : Int) := by
  have e : min ((7 * (i : Int)).toNat) IntKind.u64.bits = 7 * i := by simp only [IntKind.bits]; omega
  rw [e]
  have e2 : (x : Int) * 2 ^ (7 * i) = ((x * 2 ^ (7 * i) : Nat) : Int) := by push_cast; rfl
  rw [e2]
  exact IntWalk.u64_in _ (by omega)
theorem byte_room {c i : Nat} (hc : c < 256) (hi : i ≤ 9) (h9 : i = 9 → c ≤ 1) : c % 128 * 2 ^ (7 * i) < 2 ^ 64 := by
  have : i = 0 ∨ i = 1 ∨ i = 2 ∨ i = 3 ∨ i = 4 ∨ i = 5 ∨ i = 6 ∨ i = 7 ∨ i = 8 ∨ i = 9 := by omega
  rcases this with rfl | rfl | rfl | rfl | rfl | rfl | rfl | rfl | rfl | rfl <;> simp <;> omega
theorem numG_step {l : List UInt8} {i s : Nat} (hi : i < l.length) : numG i s (l.drop i) =
    if (i = 9 ∧ 1 < (l.getD i 0).toNat) ∨ (0 < i ∧ (l.getD i 0).toNat = 0) then (0, 0) else if (l.getD i 0).toNat < 128 then (s + (l.getD i 0).toNat % 128 * 2 ^ (7 * i), i + 1) else numG (i + 1) (s + (l.getD i 0).toNat % 128 * 2 ^ (7 * i)) (l.drop (i + 1)) := by
  rw [List.drop_eq_getElem_cons hi, numG]
  simp [List.getD, List.getElem?_eq_getElem hi]
theorem acc_room {s x i : Nat} (hs : s < 2 ^ (7 * i)) (hx : x < 128) : s + x * 2 ^ (7 * i) < 2 ^ (7 * (i + 1)) := by
  have e : 2 ^ (7 * (i + 1)) = 128 * 2 ^ (7 * i) := by rw [show 7 * (i + 1) = 7 + 7 * i by omega, Nat.pow_add]
  have : x * 2 ^ (7 * i) ≤ 127 * 2 ^ (7 * i) := Nat.mul_le_mul_right _ (by omega)
  omega
theorem pow_room {s i : Nat} (hs : s < 2 ^ (7 * i)) (hi : i ≤ 9) : s < 2 ^ 64 := Nat.lt_of_lt_of_le hs (Nat.pow_le_pow_right (by omega) (by omega))
theorem number196 {a : Option Addr} {n cap : Nat} {l : List UInt8} {w : World} (h : RdS w 5 1 a n cap (bcells l)) (hl : n ≤ 1152921504606846976) :
    Pu Tryz.prog 196 #[.slice a n cap] w (.tuple #[.int .u64 (numR l).1, .int .i64 (numR l).2]) := by
  have hs := fun n' r H => Sees.old (c := ⟨Tryz.prog, TB, n', w, noS, r, TBok⟩) (H := H) h.old
  have hlen : l.length = n := by
    obtain ⟨T, h1, _⟩ := h
    have := SlA.len h1
    rw [bcells_length, Nat.mul_one] at this
    exact this
  have hc : ∀ i, i < n → ((bcells l).drop ((i : Int).toNat * 1)).take 1 = denL [.v (bcell (l.getD i 0))] := by
    intro i hi
    have hi' : i < (bcells l).length := by rw [bcells_length]; omega
    rw [Int.toNat_natCast, Nat.mul_one, List.drop_eq_getElem_cons hi']
    simp [bcells, denL, den, List.getD, List.getElem?_eq_getElem (show i < l.length by omega)]
  refine enter_sound TBok Tryz.func196 rfl rfl Tryz.ntmps196 [.v (.slice a n cap)] (Kn.start w noS) rfl rfl ?_
  conv => whnf
  repeat' (first
    | ((with_reducible refine r_seq (fun KS hS => ?_)))
    | ((with_reducible refine r_region ?_); conv => whnf)
    | ((with_reducible refine r_cond (fun KA hA KB hB => ?_)); conv => whnf)
    | ((with_reducible refine hS _ _ ?_); clear hS KS)
    | ((with_reducible refine hA _ ?_); clear hA KA)
    | ((with_reducible refine hB _ ?_); clear hB KB)
    | ((with_reducible refine r_block ?_))
    | ((with_reducible refine r_ret ?_); conv => whnf)
    | ((with_reducible refine r_skip ?_); conv => whnf)
    | ((with_reducible refine r_exit ?_); conv => whnf)
    | ((with_reducible refine WrapK.i64 ?_ ?_); (focus omega); conv => whnf)
    | ((with_reducible refine And.intro rfl ?_); conv => whnf)
    | ((with_reducible intro b); conv => whnf)
    | ((with_reducible apply OpK.more); (focus refine sok); (conv => whnf); fail_if_success guard_target =ₛ False)
    | ((with_reducible refine InAt.mk (fun K' hK => ?_)); conv => whnf)
    | ((with_reducible refine AnyAt.mk (fun K' hK => ?_)); conv => whnf)
    | ((with_reducible refine hK _ ?_); clear hK K'; conv => whnf)
    | ((with_reducible refine hK _ _ ?_); clear hK K'; conv => whnf)
    | ((refine And.intro ?_ ?_); all_goals (conv => whnf))
    | (apply r_quiet; refine mixed; kernel_rfl; kernel_rfl; kernel_rfl; conv => whnf)
    | ((refine if_t ?_ ?_); (focus decide); conv => whnf)
    | ((refine if_f ?_ ?_); (focus decide); conv => whnf)
    | ((refine if_decT ?_ ?_); (focus omega); conv => whnf)
    | ((refine if_decF ?_ ?_); (focus omega); conv => whnf)
    | ((refine if_ndecT ?_ ?_); (focus omega); conv => whnf)
    | ((refine if_ndecF ?_ ?_); (focus omega); conv => whnf)
    | ((refine if_dec (fun h => ?_) (fun h => ?_)); conv => whnf)
    | ((refine if_ndec (fun h => ?_) (fun h => ?_)); conv => whnf)
    | ((refine if_cond (fun h => ?_) (fun h => ?_)); conv => whnf)
    | ((with_reducible apply_assumption -symm -exfalso)))
  refine r_loop (α := Nat × Nat) (fun x => [(7, .v (.slice a n cap)), (8, .v (.int .i64 n)), (9, .v (.int .i64 x.1)), (4, .v (.int .u64 x.2))]) (fun _ => [])
    (fun x => x.1 ≤ n ∧ x.1 ≤ 9 ∧ x.2 < 2 ^ (7 * x.1) ∧ numR l = numG x.1 x.2 (l.drop x.1)) (fun x => n - x.1) (0, 0) ⟨by simp, by simp, by simp, rfl⟩ ?_ (HSub.refl _) ?_
  · repeat' (first | exact Sub.nil | (refine Sub.cons rfl rfl ?_))
  rintro ⟨i, s⟩ ⟨h1, h2, h3, h4⟩ KL hL
  dsimp only at h1 h2 h3 h4 hL ⊢
  have hb := (l.getD i 0).toNat_lt
  have hb2 : (l.getD i 0).toNat % 128 < 128 := Nat.mod_lt _ (by omega)
  have hp0 := pow_room h3 h2
  by_cases hi : i < n
  · have hst := numG_step (s := s) (show i < l.length by omega)
    rw [← h4] at hst
    have hrm := acc_room h3 hb2
    conv => whnf
    repeat' (first
    | ((with_reducible refine r_seq (fun KS hS => ?_)))
    | ((with_reducible refine r_region ?_); conv => whnf)
    | ((with_reducible refine r_cond (fun KA hA KB hB => ?_)); conv => whnf)
    | ((with_reducible refine hS _ _ ?_); clear hS KS)
    | ((with_reducible refine hA _ ?_); clear hA KA)
    | ((with_reducible refine hB _ ?_); clear hB KB)
    | ((with_reducible refine r_block ?_))
    | ((with_reducible refine r_ret ?_); conv => whnf)
    | ((with_reducible refine r_skip ?_); conv => whnf)
    | ((with_reducible refine r_exit ?_); conv => whnf)
    | ((with_reducible refine WrapK.i64 ?_ ?_); (focus omega); conv => whnf)
    | ((with_reducible refine And.intro rfl ?_); conv => whnf)
    | ((with_reducible intro b); conv => whnf)
    | (refine OpK.idx rfl rfl rfl rfl rfl rfl rfl (hs _ _ _) (by omega) (by omega) (hc i (by omega)) (fun b off hp => ?_); conv => whnf)
    | (refine OpK.ldp rfl rfl hp (List.cons_ne_nil _ _) ?_; conv => whnf)
    | (refine BitK.eq (bits_andNot _) ?_; conv => whnf)
    | (refine WrapK.eq (IntWalk.u64_in _ (by omega)) ?_; conv => whnf)
    | ((have hroom := byte_room hb h2 (by omega)); refine OpK.shl rfl rfl rfl (by omega) (shl_u64 (by omega) hroom) ?_; conv => whnf)
    | (refine BitK.eq (bits_or64 _ _ _ h3 hroom hp0) ?_; conv => whnf)
    | (rw [if_neg (by omega), if_neg (by omega)] at hst; refine hL (i + 1, _) _ _ ⟨by dsimp only; omega, by dsimp only; omega, hrm, hst⟩ (by dsimp only; omega) ?_ (HSub.refl _); repeat' (first | exact Sub.nil | (refine Sub.cons rfl rfl ?_)))
    | ((with_reducible apply OpK.more); (focus refine sok); (conv => whnf); fail_if_success guard_target =ₛ False)
    | ((with_reducible refine InAt.mk (fun K' hK => ?_)); conv => whnf)
    | ((with_reducible refine AnyAt.mk (fun K' hK => ?_)); conv => whnf)
    | ((with_reducible refine hK _ ?_); clear hK K'; conv => whnf)
    | ((with_reducible refine hK _ _ ?_); clear hK K'; conv => whnf)
    | ((refine And.intro ?_ ?_); all_goals (conv => whnf))
    | (apply r_quiet; refine mixed; kernel_rfl; kernel_rfl; kernel_rfl; conv => whnf)
    | ((refine if_t ?_ ?_); (focus decide); conv => whnf)
    | ((refine if_f ?_ ?_); (focus decide); conv => whnf)
    | ((refine if_decT ?_ ?_); (focus omega); conv => whnf)
    | ((refine if_decF ?_ ?_); (focus omega); conv => whnf)
    | ((refine if_ndecT ?_ ?_); (focus omega); conv => whnf)
    | ((refine if_ndecF ?_ ?_); (focus omega); conv => whnf)
    | ((refine if_dec (fun h => ?_) (fun h => ?_)); conv => whnf)
    | ((refine if_ndec (fun h => ?_) (fun h => ?_)); conv => whnf)
    | ((refine if_cond (fun h => ?_) (fun h => ?_)); conv => whnf)
    | ((with_reducible apply_assumption -symm -exfalso)))
    all_goals (refine FinK.pu ?_; rw [hst]; simp only [den, denL]; first | (rw [if_pos (by omega)]; rfl) | (rw [if_neg (by omega), if_pos (by omega)]; simp [List.map]))
  · have hlast : l.drop i = [] := List.drop_of_length_le (by omega)
    rw [hlast] at h4
    conv => whnf
    repeat' (first
    | ((with_reducible refine r_seq (fun KS hS => ?_)))
    | ((with_reducible refine r_region ?_); conv => whnf)
    | ((with_reducible refine r_cond (fun KA hA KB hB => ?_)); conv => whnf)
    | ((with_reducible refine hS _ _ ?_); clear hS KS)
    | ((with_reducible refine hA _ ?_); clear hA KA)
    | ((with_reducible refine hB _ ?_); clear hB KB)
    | ((with_reducible refine r_block ?_))
    | ((with_reducible refine r_ret ?_); conv => whnf)
    | ((with_reducible refine r_skip ?_); conv => whnf)
    | ((with_reducible refine r_exit ?_); conv => whnf)
    | ((with_reducible refine WrapK.i64 ?_ ?_); (focus omega); conv => whnf)
    | ((with_reducible refine And.intro rfl ?_); conv => whnf)
    | ((with_reducible intro b); conv => whnf)
    | ((with_reducible apply OpK.more); (focus refine sok); (conv => whnf); fail_if_success guard_target =ₛ False)
    | ((with_reducible refine InAt.mk (fun K' hK => ?_)); conv => whnf)
    | ((with_reducible refine AnyAt.mk (fun K' hK => ?_)); conv => whnf)
    | ((with_reducible refine hK _ ?_); clear hK K'; conv => whnf)
    | ((with_reducible refine hK _ _ ?_); clear hK K'; conv => whnf)
    | ((refine And.intro ?_ ?_); all_goals (conv => whnf))
    | (apply r_quiet; refine mixed; kernel_rfl; kernel_rfl; kernel_rfl; conv => whnf)
    | ((refine if_t ?_ ?_); (focus decide); conv => whnf)
    | ((refine if_f ?_ ?_); (focus decide); conv => whnf)
    | ((refine if_decT ?_ ?_); (focus omega); conv => whnf)
    | ((refine if_decF ?_ ?_); (focus omega); conv => whnf)
    | ((refine if_ndecT ?_ ?_); (focus omega); conv => whnf)
    | ((refine if_ndecF ?_ ?_); (focus omega); conv => whnf)
    | ((refine if_dec (fun h => ?_) (fun h => ?_)); conv => whnf)
    | ((refine if_ndec (fun h => ?_) (fun h => ?_)); conv => whnf)
    | ((refine if_cond (fun h => ?_) (fun h => ?_)); conv => whnf)
    | ((with_reducible apply_assumption -symm -exfalso)))
    refine FinK.pu ?_
    rw [h4]
    rfl
end Go.Proofs.YtbgnoibellfojaaGreatDoor

namespace Go.Proofs.YtbgnoibellfojaaGreatDoor
open Go Go.X
set_option maxRecDepth 100000
set_option maxHeartbeats 0
theorem uvar_lt {n : Nat} (h : n < 128) : uvar n = [UInt8.ofNat n] := by rw [uvar, dif_pos h]
theorem uvar_ge {n : Nat} (h : ¬ n < 128) : uvar n = UInt8.ofNat (n % 128 + 128) :: uvar (n / 128) := by rw [uvar, dif_neg h]
theorem uvar_len (n : Nat) : ∀ k, n < 128 ^ (k + 1) → (uvar n).length ≤ k + 1 := by
  induction n using Nat.strongRecOn with
  | _ n ih =>
    intro k hk
    by_cases h : n < 128
    · rw [uvar_lt h]; simp
    · rw [uvar_ge h]
      cases k with
      | zero => simp at hk; omega
      | succ k =>
        have : n / 128 < 128 ^ (k + 1) := by rw [Nat.div_lt_iff_lt_mul (by omega), ← Nat.pow_succ]; exact hk
        have := ih (n / 128) (by omega) k this
        simp; omega
theorem uvar_len64 {n : Nat} (h : n < 2 ^ 64) : (uvar n).length ≤ 10 := uvar_len n 9 (Nat.lt_of_lt_of_le h (by decide))
theorem shr7 (m : Nat) : (m : Int).fdiv (2 ^ min (Int.toNat 7) IntKind.u64.bits) = ((m / 128 : Nat) : Int) := by
  have e : (2 : Int) ^ min (Int.toNat 7) IntKind.u64.bits = 128 := by decide
  rw [e, Int.fdiv_eq_ediv_of_nonneg _ (by omega)]
  omega
theorem u8_wrap (m : Nat) : IntKind.u8.wrap (m : Int) = ((m % 256 : Nat) : Int) := by rw [IntKind.wrap_u8]; omega
def byteX (c : UInt8) : List SV := [.v (bcell c)]
def ulast (n : Nat) : Nat := if n < 128 then n else ulast (n / 128)
termination_by n
decreasing_by omega
theorem ulast_lt {n : Nat} (h : n < 128) : ulast n = n := by rw [ulast, if_pos h]
theorem ulast_ge {n : Nat} (h : ¬ n < 128) : ulast n = ulast (n / 128) := by rw [ulast, if_neg h]
theorem Upd.a2 {x y z : Blk} {H : List Blk} : Upd (z :: x :: H) x y (z :: y :: H) := .tail .head
theorem digits209 {b : Nat} {n : Nat} (hn : n < 2 ^ 64) : ItS Tryz.prog 209 (denL [.loc b 1 0]) [.blk 1 b [.v (.int .u64 n)] 148] [.blk 1 b [.v (.int .u64 (ulast n))] 148] (((uvar n).map byteX).map denL) := by
  intro J yv hyv w
  refine enter_fr TBok (H := .ext 0 (J 0) :: [.blk 1 b [.v (.int .u64 n)] 148]) all_foot Tryz.func209 rfl rfl Tryz.ntmps209 [.v yv, .loc b 1 0] rfl rfl ?_
  intro S
  conv => whnf
  repeat' (first
    | ((with_reducible refine r_seq (fun KS hS => ?_)))
    | ((with_reducible refine r_region ?_); conv => whnf)
    | ((with_reducible refine r_cond (fun KA hA KB hB => ?_)); conv => whnf)
    | ((with_reducible refine hS _ _ ?_); clear hS KS)
    | ((with_reducible refine hA _ ?_); clear hA KA)
    | ((with_reducible refine hB _ ?_); clear hB KB)
    | ((with_reducible refine r_block ?_))
    | ((with_reducible refine r_ret ?_); conv => whnf)
    | ((with_reducible refine r_skip ?_); conv => whnf)
    | ((with_reducible refine r_exit ?_); conv => whnf)
    | ((with_reducible refine WrapK.i64 ?_ ?_); (focus omega); conv => whnf)
    | ((with_reducible refine And.intro rfl ?_); conv => whnf)
    | ((with_reducible intro b); conv => whnf)
    | ((with_reducible apply OpK.more); (focus refine sok); (conv => whnf); fail_if_success guard_target =ₛ False)
    | ((with_reducible refine InAt.mk (fun K' hK => ?_)); conv => whnf)
    | ((with_reducible refine AnyAt.mk (fun K' hK => ?_)); conv => whnf)
    | ((with_reducible refine hK _ ?_); clear hK K'; conv => whnf)
    | ((with_reducible refine hK _ _ ?_); clear hK K'; conv => whnf)
    | ((refine And.intro ?_ ?_); all_goals (conv => whnf))
    | (apply r_quiet; refine mixed; kernel_rfl; kernel_rfl; kernel_rfl; conv => whnf)
    | ((refine if_t ?_ ?_); (focus decide); conv => whnf)
    | ((refine if_f ?_ ?_); (focus decide); conv => whnf)
    | ((refine if_decT ?_ ?_); (focus omega); conv => whnf)
    | ((refine if_decF ?_ ?_); (focus omega); conv => whnf)
    | ((refine if_ndecT ?_ ?_); (focus omega); conv => whnf)
    | ((refine if_ndecF ?_ ?_); (focus omega); conv => whnf)
    | ((refine if_dec (fun h => ?_) (fun h => ?_)); conv => whnf)
    | ((refine if_ndec (fun h => ?_) (fun h => ?_)); conv => whnf)
    | ((refine if_cond (fun h => ?_) (fun h => ?_)); conv => whnf)
    | ((with_reducible apply_assumption -symm -exfalso)))
  refine r_loop (α := Nat × Nat) (fun _ => [(0, .v yv), (1, .loc b 1 0)]) (fun x => [.ext 0 (J x.1), .blk 1 b [.v (.int .u64 x.2)] 148])
    (fun x => (uvar n).drop x.1 = uvar x.2 ∧ x.2 < 2 ^ 64 ∧ ulast x.2 = ulast n) (fun x => x.2) (0, n) ⟨rfl, hn, rfl⟩ ?_ (HSub.refl _) ?_
  · repeat' (first | exact Sub.nil | (refine Sub.cons rfl rfl ?_))
  rintro ⟨k, m⟩ ⟨h1, h2, h3⟩ KL hL
  dsimp only at h1 h2 h3 hL ⊢
  by_cases hm : m < 128
  · rw [uvar_lt hm] at h1
    have hk : (uvar n)[k]? = some (UInt8.ofNat m) := by
      have := congrArg (fun l => l[0]?) h1
      simpa using this
    have hlen : (uvar n).length = k + 1 := by
      have := congrArg List.length h1
      simp at this
      omega
    have hy := hyv k [bcell (UInt8.ofNat m)] (by simp [hk, byteX, denL, den])
    have hv : IntKind.u8.wrap (m : Int) = ((UInt8.ofNat m).toNat : Int) := by rw [u8_wrap]; simp
    conv => whnf
    repeat' (first
    | ((with_reducible refine r_seq (fun KS hS => ?_)))
    | ((with_reducible refine r_region ?_); conv => whnf)
    | ((with_reducible refine r_cond (fun KA hA KB hB => ?_)); conv => whnf)
    | ((with_reducible refine hS _ _ ?_); clear hS KS)
    | ((with_reducible refine hA _ ?_); clear hA KA)
    | ((with_reducible refine hB _ ?_); clear hB KB)
    | ((with_reducible refine r_block ?_))
    | ((with_reducible refine r_ret ?_); conv => whnf)
    | ((with_reducible refine r_skip ?_); conv => whnf)
    | ((with_reducible refine r_exit ?_); conv => whnf)
    | ((with_reducible refine WrapK.i64 ?_ ?_); (focus omega); conv => whnf)
    | ((with_reducible refine And.intro rfl ?_); conv => whnf)
    | ((with_reducible intro b); conv => whnf)
    | (refine WrapK.eq hv ?_; conv => whnf)
    | (refine CallV.fr Upd.head (v := .bool true) (y := .ext 0 (J (k + 1))) (fun w S h1 h2 => hy w S h1 h2) ?_; conv => whnf)
    | ((with_reducible apply OpK.more); (focus refine sok); (conv => whnf); fail_if_success guard_target =ₛ False)
    | ((with_reducible refine InAt.mk (fun K' hK => ?_)); conv => whnf)
    | ((with_reducible refine AnyAt.mk (fun K' hK => ?_)); conv => whnf)
    | ((with_reducible refine hK _ ?_); clear hK K'; conv => whnf)
    | ((with_reducible refine hK _ _ ?_); clear hK K'; conv => whnf)
    | ((refine And.intro ?_ ?_); all_goals (conv => whnf))
    | (apply r_quiet; refine mixed; kernel_rfl; kernel_rfl; kernel_rfl; conv => whnf)
    | ((refine if_t ?_ ?_); (focus decide); conv => whnf)
    | ((refine if_f ?_ ?_); (focus decide); conv => whnf)
    | ((refine if_decT ?_ ?_); (focus omega); conv => whnf)
    | ((refine if_decF ?_ ?_); (focus omega); conv => whnf)
    | ((refine if_ndecT ?_ ?_); (focus omega); conv => whnf)
    | ((refine if_ndecF ?_ ?_); (focus omega); conv => whnf)
    | ((refine if_dec (fun h => ?_) (fun h => ?_)); conv => whnf)
    | ((refine if_ndec (fun h => ?_) (fun h => ?_)); conv => whnf)
    | ((refine if_cond (fun h => ?_) (fun h => ?_)); conv => whnf)
    | ((with_reducible apply_assumption -symm -exfalso)))
    rw [← h3, ulast_lt hm, List.length_map, List.length_map, hlen]
    exact FinK.frL rfl (HSub.refl _)
  · rw [uvar_ge hm] at h1
    have hk : (uvar n)[k]? = some (UInt8.ofNat (m % 128 + 128)) := by
      have := congrArg (fun l => l[0]?) h1
      simpa using this
    have hd : (uvar n).drop (k + 1) = uvar (m / 128) := by
      have := congrArg (fun l => l.drop 1) h1
      simpa [List.drop_drop, Nat.add_comm] using this
    have hy := hyv k [bcell (UInt8.ofNat (m % 128 + 128))] (by simp [hk, byteX, denL, den])
    rw [ulast_ge hm] at h3
    have hv : IntKind.u8.wrap (bitN .or .u8 ((m % 256 : Nat) : Int) 128) = ((UInt8.ofNat (m % 128 + 128)).toNat : Int) := by
      rw [bits_or128 _ (Nat.mod_lt _ (by omega))]
      simp
      omega
    conv => whnf
    repeat' (first
    | ((with_reducible refine r_seq (fun KS hS => ?_)))
    | ((with_reducible refine r_region ?_); conv => whnf)
    | ((with_reducible refine r_cond (fun KA hA KB hB => ?_)); conv => whnf)
    | ((with_reducible refine hS _ _ ?_); clear hS KS)
    | ((with_reducible refine hA _ ?_); clear hA KA)
    | ((with_reducible refine hB _ ?_); clear hB KB)
    | ((with_reducible refine r_block ?_))
    | ((with_reducible refine r_ret ?_); conv => whnf)
    | ((with_reducible refine r_skip ?_); conv => whnf)
    | ((with_reducible refine r_exit ?_); conv => whnf)
    | ((with_reducible refine WrapK.i64 ?_ ?_); (focus omega); conv => whnf)
    | ((with_reducible refine And.intro rfl ?_); conv => whnf)
    | ((with_reducible intro b); conv => whnf)
    | (refine WrapK.eq (u8_wrap m) ?_; conv => whnf)
    | (refine BitK.eq hv ?_; conv => whnf)
    | (refine CallV.fr Upd.head (v := .bool true) (y := .ext 0 (J (k + 1))) (fun w S h1 h2 => hy w S h1 h2) ?_; conv => whnf)
    | (refine OpK.shr rfl rfl rfl (by omega) (shr7 m) ?_; conv => whnf)
    | (refine hL (k + 1, m / 128) _ _ ⟨hd, by dsimp only; omega, h3⟩ (by dsimp only; omega) ?_ (HSub.refl _); repeat' (first | exact Sub.nil | (refine Sub.cons rfl rfl ?_)))
    | ((with_reducible apply OpK.more); (focus refine sok); (conv => whnf); fail_if_success guard_target =ₛ False)
    | ((with_reducible refine InAt.mk (fun K' hK => ?_)); conv => whnf)
    | ((with_reducible refine AnyAt.mk (fun K' hK => ?_)); conv => whnf)
    | ((with_reducible refine hK _ ?_); clear hK K'; conv => whnf)
    | ((with_reducible refine hK _ _ ?_); clear hK K'; conv => whnf)
    | ((refine And.intro ?_ ?_); all_goals (conv => whnf))
    | (apply r_quiet; refine mixed; kernel_rfl; kernel_rfl; kernel_rfl; conv => whnf)
    | ((refine if_t ?_ ?_); (focus decide); conv => whnf)
    | ((refine if_f ?_ ?_); (focus decide); conv => whnf)
    | ((refine if_decT ?_ ?_); (focus omega); conv => whnf)
    | ((refine if_decF ?_ ?_); (focus omega); conv => whnf)
    | ((refine if_ndecT ?_ ?_); (focus omega); conv => whnf)
    | ((refine if_ndecF ?_ ?_); (focus omega); conv => whnf)
    | ((refine if_dec (fun h => ?_) (fun h => ?_)); conv => whnf)
    | ((refine if_ndec (fun h => ?_) (fun h => ?_)); conv => whnf)
    | ((refine if_cond (fun h => ?_) (fun h => ?_)); conv => whnf)
    | ((with_reducible apply_assumption -symm -exfalso)))
/-- a writer, and what it holds -/
def WrA (p : Nat) (l : List UInt8) : Ass :=
  ⟨fun w S => ∃ a cap, Holds w [.blk 10 p [.v (.bool true), .v (.slice a l.length cap)] 209, .ext 11 (SlA 5 1 a l.length cap (bcells l))] S, fun _ _ _ h ⟨a, cap, hx⟩ => ⟨a, cap, hx.loc h⟩⟩
def pv (p : Nat) : Value := .pointer (some ⟨p, 0, none⟩)
theorem WrA.open {w : World} {S : Nat → Prop} {X Y : List Blk} {p j : Nat} {l : List UInt8} (h : Holds w (X ++ .ext j (WrA p l) :: Y) S) :
    ∃ (z : Option Addr × Nat) (S' : Nat → Prop), Holds w (X ++ .blk 10 p [.v (.bool true), .v (.slice z.1 l.length z.2)] 209 :: .ext 11 (SlA 5 1 z.1 l.length z.2 (bcells l)) :: Y) S' ∧ ∀ k, S' k → S k := by
  obtain ⟨TX, TY, h1, h2, h3, h4⟩ := h.split _ _
  cases h2 with
  | @cons _ _ Sx T hx hb hY hd =>
    obtain ⟨a, cap, hz⟩ := hx
    obtain ⟨T', q1, q2⟩ := Holds.glue _ _ hz hY hd
    obtain ⟨T'', q3, q4⟩ := Holds.glue _ _ h1 q1 (fun k hk hk' => h3 k hk ((q2 k).1 hk'))
    exact ⟨(a, cap), T'', q3, fun k hk => (h4 k).2 (((q4 k).1 hk).imp id (q2 k).1)⟩
theorem WrA.close {p j : Nat} {l : List UInt8} {a n cap} {cs : List Value} {i1 i2 : Nat} (hn : n = l.length) (hc : cs = bcells l) : HSub [.ext j (WrA p l)] [.blk i1 p [.v (.bool true), .v (.slice a n cap)] 209, .ext i2 (SlA 5 1 a n cap cs)] :=
  HSub.close fun w S h => by
    subst hn hc
    cases h with
    | @cons _ _ S1 T1 hx hb hH hd =>
      cases hH with
      | @cons _ _ S2 T2 hx2 hb2 hH2 hd2 =>
        cases hH2
        exact ⟨a, cap, .cons (x := .blk 10 p _ 209) hx hb (.cons (x := .ext 11 _) hx2 hb2 .nil hd2) hd⟩
theorem uint83 {p n : Nat} {l : List UInt8} (hn : n < 2 ^ 64) (hl : l.length ≤ 1099511627776) (w : World) : Fr Tryz.prog 83 #[pv p, .int .u64 n] w (WrA p l) (.tuple #[]) (WrA p (l ++ uvar n)) := by
  refine enter_fr TBok (A' := WrA p (l ++ uvar n)) (H := [.ext 12 (WrA p l)]) one_foot Tryz.func83 rfl rfl Tryz.ntmps83 [.loc p 10 0, .v (.int .u64 n)] rfl rfl ?_
  intro S
  refine Run.open (α := Option Addr × Nat) (A := []) (B := []) (fun z => [.blk 10 p [.v (.bool true), .v (.slice z.1 l.length z.2)] 209, .ext 11 (SlA 5 1 z.1 l.length z.2 (bcells l))]) (fun w S h => WrA.open (X := []) (Y := []) h) ?_
  rintro ⟨a, cap⟩
  dsimp only
  conv => whnf
  repeat' (first
    | ((with_reducible refine r_seq (fun KS hS => ?_)))
    | ((with_reducible refine r_region ?_); conv => whnf)
    | ((with_reducible refine r_cond (fun KA hA KB hB => ?_)); conv => whnf)
    | ((with_reducible refine hS _ _ ?_); clear hS KS)
    | ((with_reducible refine hA _ ?_); clear hA KA)
    | ((with_reducible refine hB _ ?_); clear hB KB)
    | ((with_reducible refine r_block ?_))
    | ((with_reducible refine r_ret ?_); conv => whnf)
    | ((with_reducible refine r_skip ?_); conv => whnf)
    | ((with_reducible refine r_exit ?_); conv => whnf)
    | ((with_reducible refine WrapK.i64 ?_ ?_); (focus omega); conv => whnf)
    | ((with_reducible refine And.intro rfl ?_); conv => whnf)
    | ((with_reducible intro b); conv => whnf)
    | (apply in132; refine Tryz.ntmps132; rfl; rfl; rfl; intro A; conv => whnf)
    | ((with_reducible apply OpK.more); (focus refine sok); (conv => whnf); fail_if_success guard_target =ₛ False)
    | ((with_reducible refine InAt.mk (fun K' hK => ?_)); conv => whnf)
    | ((with_reducible refine AnyAt.mk (fun K' hK => ?_)); conv => whnf)
    | ((with_reducible refine hK _ ?_); clear hK K'; conv => whnf)
    | ((with_reducible refine hK _ _ ?_); clear hK K'; conv => whnf)
    | ((refine And.intro ?_ ?_); all_goals (conv => whnf))
    | (apply r_quiet; refine mixed; kernel_rfl; kernel_rfl; kernel_rfl; conv => whnf)
    | ((refine if_t ?_ ?_); (focus decide); conv => whnf)
    | ((refine if_f ?_ ?_); (focus decide); conv => whnf)
    | ((refine if_decT ?_ ?_); (focus omega); conv => whnf)
    | ((refine if_decF ?_ ?_); (focus omega); conv => whnf)
    | ((refine if_ndecT ?_ ?_); (focus omega); conv => whnf)
    | ((refine if_ndecF ?_ ?_); (focus omega); conv => whnf)
    | ((refine if_dec (fun h => ?_) (fun h => ?_)); conv => whnf)
    | ((refine if_ndec (fun h => ?_) (fun h => ?_)); conv => whnf)
    | ((refine if_cond (fun h => ?_) (fun h => ?_)); conv => whnf)
    | ((with_reducible apply_assumption -symm -exfalso)))
  rename_i bt
  have h10 := uvar_len64 hn
  refine r_rangeFunc (fun i => [.blk 11 bt [.loc p 10 0] 145, .ext 12 (WrA p (l ++ (uvar n).take i))]) ((uvar n).map byteX) 14 rfl ?_
    (digits209 (b := b) hn) (by simp [byteX]) (by decide) ?_ ?_
  · rw [List.take_zero, List.append_nil]
    exact HSub.keep rfl (HSub.keep rfl (WrA.close rfl rfl))
  · intro i x hx lp rc W' S'
    obtain ⟨c, hc, rfl⟩ : ∃ c, (uvar n)[i]? = some c ∧ byteX c = x := by simpa using hx
    have hi : i < (uvar n).length := (List.getElem?_eq_some_iff.1 hc).1
    have hlen : (l ++ (uvar n).take i).length = l.length + i := by simp; omega
    have hnx : l ++ (uvar n).take (i + 1) = l ++ (uvar n).take i ++ [c] := by rw [List.take_add_one, hc]; simp
    have hlen1 : (l ++ (uvar n).take i).length + 1 = (l ++ (uvar n).take (i + 1)).length := by rw [hnx]; simp only [List.length_append, List.length_singleton]
    have hcs1 : bcells (l ++ (uvar n).take i) ++ [bcell c] = bcells (l ++ (uvar n).take (i + 1)) := by rw [hnx, bcells_append (l ++ (uvar n).take i)]; rfl
    conv => whnf
    repeat' (first
    | ((with_reducible refine r_seq (fun KS hS => ?_)))
    | ((with_reducible refine r_region ?_); conv => whnf)
    | ((with_reducible refine r_cond (fun KA hA KB hB => ?_)); conv => whnf)
    | ((with_reducible refine hS _ _ ?_); clear hS KS)
    | ((with_reducible refine hA _ ?_); clear hA KA)
    | ((with_reducible refine hB _ ?_); clear hB KB)
    | ((with_reducible refine r_block ?_))
    | ((with_reducible refine r_ret ?_); conv => whnf)
    | ((with_reducible refine r_skip ?_); conv => whnf)
    | ((with_reducible refine r_exit ?_); conv => whnf)
    | ((with_reducible refine WrapK.i64 ?_ ?_); (focus omega); conv => whnf)
    | ((with_reducible refine And.intro rfl ?_); conv => whnf)
    | ((with_reducible intro b); conv => whnf)
    | ((with_reducible apply OpK.more); (focus refine sok); (conv => whnf); fail_if_success guard_target =ₛ False)
    | ((with_reducible refine InAt.mk (fun K' hK => ?_)); conv => whnf)
    | ((with_reducible refine AnyAt.mk (fun K' hK => ?_)); conv => whnf)
    | ((with_reducible refine hK _ ?_); clear hK K'; conv => whnf)
    | ((with_reducible refine hK _ _ ?_); clear hK K'; conv => whnf)
    | ((refine And.intro ?_ ?_); all_goals (conv => whnf))
    | (apply r_quiet; refine mixed; kernel_rfl; kernel_rfl; kernel_rfl; conv => whnf)
    | ((refine if_t ?_ ?_); (focus decide); conv => whnf)
    | ((refine if_f ?_ ?_); (focus decide); conv => whnf)
    | ((refine if_decT ?_ ?_); (focus omega); conv => whnf)
    | ((refine if_decF ?_ ?_); (focus omega); conv => whnf)
    | ((refine if_ndecT ?_ ?_); (focus omega); conv => whnf)
    | ((refine if_ndecF ?_ ?_); (focus omega); conv => whnf)
    | ((refine if_dec (fun h => ?_) (fun h => ?_)); conv => whnf)
    | ((refine if_ndec (fun h => ?_) (fun h => ?_)); conv => whnf)
    | ((refine if_cond (fun h => ?_) (fun h => ?_)); conv => whnf)
    | ((with_reducible apply_assumption -symm -exfalso)))
    refine ⟨_, rfl, ?_⟩
    refine r_block ?_
    refine Run.open (α := Option Addr × Nat) (A := []) (B := []) (fun z => [.ext 14 (lrA lp { rc with state := .busy }), .blk 11 bt [.loc p 10 0] 145, .blk 10 p [.v (.bool true), .v (.slice z.1 (l ++ (uvar n).take i).length z.2)] 209, .ext 11 (SlA 5 1 z.1 (l ++ (uvar n).take i).length z.2 (bcells (l ++ (uvar n).take i)))]) (fun w S h => WrA.open (X := [_, _]) (Y := []) h) ?_
    rintro ⟨a, cap⟩
    dsimp only
    apply r_any
    · refine mixed
    · kernel_rfl
    · kernel_rfl
    conv => whnf
    repeat' (first
    | ((with_reducible refine r_seq (fun KS hS => ?_)))
    | ((with_reducible refine r_region ?_); conv => whnf)
    | ((with_reducible refine r_cond (fun KA hA KB hB => ?_)); conv => whnf)
    | ((with_reducible refine hS _ _ ?_); clear hS KS)
    | ((with_reducible refine hA _ ?_); clear hA KA)
    | ((with_reducible refine hB _ ?_); clear hB KB)
    | ((with_reducible refine r_block ?_))
    | ((with_reducible refine r_ret ?_); conv => whnf)
    | ((with_reducible refine r_skip ?_); conv => whnf)
    | ((with_reducible refine r_exit ?_); conv => whnf)
    | ((with_reducible refine WrapK.i64 ?_ ?_); (focus omega); conv => whnf)
    | ((with_reducible refine And.intro rfl ?_); conv => whnf)
    | ((with_reducible intro b); conv => whnf)
    | (refine OpK.app (k := 1) rfl rfl rfl rfl rfl rfl rfl rfl (by repeat (first | with_reducible apply At.head | apply At.tail)) (SrcK.slc rfl rfl (by repeat (first | constructor | apply List.Mem.tail)) (Nat.le_refl _) rfl) (by rw [hlen]; show (_ + 1) * (1 + 1) ≤ 140737488355328; omega) (fun a' cap' => ?_); conv => whnf)
    | ((with_reducible apply OpK.more); (focus refine sok); (conv => whnf); fail_if_success guard_target =ₛ False)
    | ((with_reducible refine InAt.mk (fun K' hK => ?_)); conv => whnf)
    | ((with_reducible refine AnyAt.mk (fun K' hK => ?_)); conv => whnf)
    | ((with_reducible refine hK _ ?_); clear hK K'; conv => whnf)
    | ((with_reducible refine hK _ _ ?_); clear hK K'; conv => whnf)
    | ((refine And.intro ?_ ?_); all_goals (conv => whnf))
    | (apply r_quiet; refine mixed; kernel_rfl; kernel_rfl; kernel_rfl; conv => whnf)
    | ((refine if_t ?_ ?_); (focus decide); conv => whnf)
    | ((refine if_f ?_ ?_); (focus decide); conv => whnf)
    | ((refine if_decT ?_ ?_); (focus omega); conv => whnf)
    | ((refine if_decF ?_ ?_); (focus omega); conv => whnf)
    | ((refine if_ndecT ?_ ?_); (focus omega); conv => whnf)
    | ((refine if_ndecF ?_ ?_); (focus omega); conv => whnf)
    | ((refine if_dec (fun h => ?_) (fun h => ?_)); conv => whnf)
    | ((refine if_ndec (fun h => ?_) (fun h => ?_)); conv => whnf)
    | ((refine if_cond (fun h => ?_) (fun h => ?_)); conv => whnf)
    | ((with_reducible apply_assumption -symm -exfalso)))
    all_goals (refine ⟨HSub.drop (HSub.ext (fun _ _ h => h) (HSub.keep rfl (WrA.close hlen1 hcs1)))⟩)
  · conv => whnf
    rw [List.length_map, List.take_length]
    exact FinK.fr (y := .ext 0 (WrA p (l ++ uvar n))) rfl (HSub.drop (HSub.drop (HSub.ext (fun _ _ h => h) HSub.nil))) (fun _ _ h => h)
end Go.Proofs.YtbgnoibellfojaaGreatDoor

namespace Go.Proofs.YtbgnoibellfojaaGreatDoor
open Go Go.X
set_option maxRecDepth 100000
set_option maxHeartbeats 0
theorem bone (l : List UInt8) : ∀ u ∈ bcells l, u.oneCell' = true := by
  intro u hu
  obtain ⟨b, _, rfl⟩ := List.mem_map.1 hu
  rfl
theorem clone191 {a : Option Addr} {n cap : Nat} {l : List UInt8} {w : World} (h : RdS w 5 1 a n cap (bcells l)) (hl : n ≤ 1099511627776) :
    FrZ Tryz.prog 191 #[.slice a n cap] w emp (fun z : Option Addr × Nat => .slice z.1 n z.2) (fun z => SlA 5 1 z.1 n z.2 (bcells l)) := by
  refine enter_frZ TBok (H := []) emp_foot Tryz.func191 rfl rfl Tryz.ntmps191 [.v (.slice a n cap)] rfl rfl ?_
  intro S hS _
  have hs := fun n' r H => Sees.old (c := ⟨Tryz.prog, TB, n', w, S, r, TBok⟩) (H := H) (h.oldE hS)
  have hlen := h.len
  cases a with
  | none =>
    obtain ⟨rfl, rfl, hb⟩ : n = 0 ∧ cap = 0 ∧ bcells l = [] := by
      obtain ⟨T, h1, _⟩ := h
      rcases h1 with ⟨_, h2, h3, h4⟩ | ⟨b, _, _, _, _, h2, _⟩
      · exact ⟨h2, h3, h4⟩
      · cases h2
    conv => whnf
    repeat' (first
    | ((with_reducible refine r_seq (fun KS hS => ?_)))
    | ((with_reducible refine r_region ?_); conv => whnf)
    | ((with_reducible refine r_cond (fun KA hA KB hB => ?_)); conv => whnf)
    | ((with_reducible refine hS _ _ ?_); clear hS KS)
    | ((with_reducible refine hA _ ?_); clear hA KA)
    | ((with_reducible refine hB _ ?_); clear hB KB)
    | ((with_reducible refine r_block ?_))
    | ((with_reducible refine r_ret ?_); conv => whnf)
    | ((with_reducible refine r_skip ?_); conv => whnf)
    | ((with_reducible refine r_exit ?_); conv => whnf)
    | ((with_reducible refine WrapK.i64 ?_ ?_); (focus omega); conv => whnf)
    | ((with_reducible refine And.intro rfl ?_); conv => whnf)
    | ((with_reducible intro b); conv => whnf)
    | (refine OpK.slNil (b := true) rfl rfl rfl rfl rfl (.inl ⟨rfl, rfl⟩) ?_; conv => whnf)
    | ((with_reducible apply OpK.more); (focus refine sok); (conv => whnf); fail_if_success guard_target =ₛ False)
    | ((with_reducible refine InAt.mk (fun K' hK => ?_)); conv => whnf)
    | ((with_reducible refine AnyAt.mk (fun K' hK => ?_)); conv => whnf)
    | ((with_reducible refine hK _ ?_); clear hK K'; conv => whnf)
    | ((with_reducible refine hK _ _ ?_); clear hK K'; conv => whnf)
    | ((refine And.intro ?_ ?_); all_goals (conv => whnf))
    | (apply r_quiet; refine mixed; kernel_rfl; kernel_rfl; kernel_rfl; conv => whnf)
    | ((refine if_t ?_ ?_); (focus decide); conv => whnf)
    | ((refine if_f ?_ ?_); (focus decide); conv => whnf)
    | ((refine if_decT ?_ ?_); (focus omega); conv => whnf)
    | ((refine if_decF ?_ ?_); (focus omega); conv => whnf)
    | ((refine if_ndecT ?_ ?_); (focus omega); conv => whnf)
    | ((refine if_ndecF ?_ ?_); (focus omega); conv => whnf)
    | ((refine if_dec (fun h => ?_) (fun h => ?_)); conv => whnf)
    | ((refine if_ndec (fun h => ?_) (fun h => ?_)); conv => whnf)
    | ((refine if_cond (fun h => ?_) (fun h => ?_)); conv => whnf)
    | ((with_reducible apply_assumption -symm -exfalso)))
    exact FinK.frZ (i := 0) (none, 0) rfl (HSub.trans (HSub.close (A := SlA 5 1 none 0 0 (bcells l)) fun w S _ => .inl ⟨rfl, rfl, rfl, hb⟩) (HSub.refl []))
  | some a =>
    conv => whnf
    repeat' (first
    | ((with_reducible refine r_seq (fun KS hS => ?_)))
    | ((with_reducible refine r_region ?_); conv => whnf)
    | ((with_reducible refine r_cond (fun KA hA KB hB => ?_)); conv => whnf)
    | ((with_reducible refine hS _ _ ?_); clear hS KS)
    | ((with_reducible refine hA _ ?_); clear hA KA)
    | ((with_reducible refine hB _ ?_); clear hB KB)
    | ((with_reducible refine r_block ?_))
    | ((with_reducible refine r_ret ?_); conv => whnf)
    | ((with_reducible refine r_skip ?_); conv => whnf)
    | ((with_reducible refine r_exit ?_); conv => whnf)
    | ((with_reducible refine WrapK.i64 ?_ ?_); (focus omega); conv => whnf)
    | ((with_reducible refine And.intro rfl ?_); conv => whnf)
    | ((with_reducible intro b); conv => whnf)
    | (refine OpK.slNil (b := false) rfl rfl rfl rfl rfl (.inl ⟨rfl, rfl⟩) ?_; conv => whnf)
    | (refine OpK.appS (k := 1) rfl rfl rfl rfl rfl rfl rfl rfl At.head rfl (SrcK.sees rfl rfl (hs _ _ _) (bone l)) (by show (0 + n) * (1 + 1) ≤ 140737488355328; omega) (fun a' cap' => ?_); conv => whnf)
    | ((with_reducible apply OpK.more); (focus refine sok); (conv => whnf); fail_if_success guard_target =ₛ False)
    | ((with_reducible refine InAt.mk (fun K' hK => ?_)); conv => whnf)
    | ((with_reducible refine AnyAt.mk (fun K' hK => ?_)); conv => whnf)
    | ((with_reducible refine hK _ ?_); clear hK K'; conv => whnf)
    | ((with_reducible refine hK _ _ ?_); clear hK K'; conv => whnf)
    | ((refine And.intro ?_ ?_); all_goals (conv => whnf))
    | (apply r_quiet; refine mixed; kernel_rfl; kernel_rfl; kernel_rfl; conv => whnf)
    | ((refine if_t ?_ ?_); (focus decide); conv => whnf)
    | ((refine if_f ?_ ?_); (focus decide); conv => whnf)
    | ((refine if_decT ?_ ?_); (focus omega); conv => whnf)
    | ((refine if_decF ?_ ?_); (focus omega); conv => whnf)
    | ((refine if_ndecT ?_ ?_); (focus omega); conv => whnf)
    | ((refine if_ndecF ?_ ?_); (focus omega); conv => whnf)
    | ((refine if_dec (fun h => ?_) (fun h => ?_)); conv => whnf)
    | ((refine if_ndec (fun h => ?_) (fun h => ?_)); conv => whnf)
    | ((refine if_cond (fun h => ?_) (fun h => ?_)); conv => whnf)
    | ((with_reducible apply_assumption -symm -exfalso)))
    exact FinK.frZ (a', cap') (by rw [Nat.zero_add]; rfl) (by rw [Nat.zero_add]; exact HSub.refl _)

/-- a reader, and what is left -/
def RdH (p : Nat) : RSt → Option Addr × Nat → List Blk
  | none, _ => [.blk 10 p [.v (.bool true), .v (.bool true), .v (.slice none 0 0)] 238]
  | some l, z => [.blk 10 p [.v (.bool true), .v (.bool false), .v (.slice z.1 l.length z.2)] 238, .ext 11 (SlA 5 1 z.1 l.length z.2 (bcells l))]
def RdA (p : Nat) (st : RSt) : Ass :=
  ⟨fun w S => ∃ z, Holds w (RdH p st z) S, fun _ _ _ h ⟨z, hx⟩ => ⟨z, hx.loc h⟩⟩
theorem RdA.open {w : World} {S : Nat → Prop} {X Y : List Blk} {p j : Nat} {st : RSt} (h : Holds w (X ++ .ext j (RdA p st) :: Y) S) :
    ∃ (z : Option Addr × Nat) (S' : Nat → Prop), Holds w (X ++ (RdH p st z ++ Y)) S' ∧ ∀ k, S' k → S k := by
  obtain ⟨TX, TY, h1, h2, h3, h4⟩ := h.split _ _
  cases h2 with
  | @cons _ _ Sx T hx hb hY hd =>
    obtain ⟨z, hz⟩ := hx
    obtain ⟨T', q1, q2⟩ := Holds.glue _ _ hz hY hd
    obtain ⟨T'', q3, q4⟩ := Holds.glue _ _ h1 q1 (fun k hk hk' => h3 k hk ((q2 k).1 hk'))
    exact ⟨z, T'', q3, fun k hk => (h4 k).2 (((q4 k).1 hk).imp id (q2 k).1)⟩
theorem RdA.close {p j : Nat} {l : List UInt8} {a n cap} {cs : List Value} {i1 i2 : Nat} (hn : n = l.length) (hc : cs = bcells l) : HSub [.ext j (RdA p (some l))] [.blk i1 p [.v (.bool true), .v (.bool false), .v (.slice a n cap)] 238, .ext i2 (SlA 5 1 a n cap cs)] :=
  HSub.close fun w S h => by
    subst hn hc
    cases h with
    | @cons _ _ S1 T1 hx hb hH hd =>
      cases hH with
      | @cons _ _ S2 T2 hx2 hb2 hH2 hd2 =>
        cases hH2
        exact ⟨(a, cap), .cons (x := .blk 10 p _ 238) hx hb (.cons (x := .ext 11 _) hx2 hb2 .nil hd2) hd⟩
theorem RdA.closeN {p j : Nat} {i1 : Nat} : HSub [.ext j (RdA p none)] [.blk i1 p [.v (.bool true), .v (.bool true), .v (.slice none 0 0)] 238] :=
  HSub.close fun w S h => by
    cases h with
    | @cons _ _ S1 T1 hx hb hH hd =>
      cases hH
      exact ⟨(none, 0), .cons (x := .blk 10 p _ 238) hx hb .nil hd⟩
def RB (st : RSt) : Prop := ∀ l, st = some l → l.length ≤ 1099511627776
theorem uint192 {p : Nat} {st : RSt} (hb : RB st) (w : World) : Fr Tryz.prog 192 #[pv p] w (RdA p st) (.int .u64 (rdU st).1) (RdA p (rdU st).2) := by
  refine enter_fr TBok (A' := RdA p (rdU st).2) (H := [.ext 12 (RdA p st)]) one_foot Tryz.func192 rfl rfl Tryz.ntmps192 [.loc p 10 0] rfl rfl ?_
  intro S
  refine Run.open (α := Option Addr × Nat) (A := []) (B := []) (fun z => RdH p st z ++ []) (fun w S h => RdA.open (X := []) (Y := []) h) ?_
  rintro ⟨a, cap⟩
  cases st with
  | none =>
    dsimp only [RdH, List.cons_append, List.nil_append]
    conv => whnf
    repeat' (first
    | ((with_reducible refine r_seq (fun KS hS => ?_)))
    | ((with_reducible refine r_region ?_); conv => whnf)
    | ((with_reducible refine r_cond (fun KA hA KB hB => ?_)); conv => whnf)
    | ((with_reducible refine hS _ _ ?_); clear hS KS)
    | ((with_reducible refine hA _ ?_); clear hA KA)
    | ((with_reducible refine hB _ ?_); clear hB KB)
    | ((with_reducible refine r_block ?_))
    | ((with_reducible refine r_ret ?_); conv => whnf)
    | ((with_reducible refine r_skip ?_); conv => whnf)
    | ((with_reducible refine r_exit ?_); conv => whnf)
    | ((with_reducible refine WrapK.i64 ?_ ?_); (focus omega); conv => whnf)
    | ((with_reducible refine And.intro rfl ?_); conv => whnf)
    | ((with_reducible intro b); conv => whnf)
    | (apply in279; refine Tryz.ntmps279; rfl; rfl; rfl; intro A; conv => whnf)
    | (apply in193; refine Tryz.ntmps193; rfl; rfl; rfl; intro A; conv => whnf)
    | ((with_reducible apply OpK.more); (focus refine sok); (conv => whnf); fail_if_success guard_target =ₛ False)
    | ((with_reducible refine InAt.mk (fun K' hK => ?_)); conv => whnf)
    | ((with_reducible refine AnyAt.mk (fun K' hK => ?_)); conv => whnf)
    | ((with_reducible refine hK _ ?_); clear hK K'; conv => whnf)
    | ((with_reducible refine hK _ _ ?_); clear hK K'; conv => whnf)
    | ((refine And.intro ?_ ?_); all_goals (conv => whnf))
    | (apply r_quiet; refine mixed; kernel_rfl; kernel_rfl; kernel_rfl; conv => whnf)
    | ((refine if_t ?_ ?_); (focus decide); conv => whnf)
    | ((refine if_f ?_ ?_); (focus decide); conv => whnf)
    | ((refine if_decT ?_ ?_); (focus omega); conv => whnf)
    | ((refine if_decF ?_ ?_); (focus omega); conv => whnf)
    | ((refine if_ndecT ?_ ?_); (focus omega); conv => whnf)
    | ((refine if_ndecF ?_ ?_); (focus omega); conv => whnf)
    | ((refine if_dec (fun h => ?_) (fun h => ?_)); conv => whnf)
    | ((refine if_ndec (fun h => ?_) (fun h => ?_)); conv => whnf)
    | ((refine if_cond (fun h => ?_) (fun h => ?_)); conv => whnf)
    | ((with_reducible apply_assumption -symm -exfalso)))
    exact FinK.fr (y := .ext 0 (RdA p none)) rfl RdA.closeN (fun _ _ h => h)
  | some l =>
    have hl := hb l rfl
    have hR := numR_le l
    dsimp only [RdH, List.cons_append, List.nil_append]
    conv => whnf
    repeat' (first
    | ((with_reducible refine r_seq (fun KS hS => ?_)))
    | ((with_reducible refine r_region ?_); conv => whnf)
    | ((with_reducible refine r_cond (fun KA hA KB hB => ?_)); conv => whnf)
    | ((with_reducible refine hS _ _ ?_); clear hS KS)
    | ((with_reducible refine hA _ ?_); clear hA KA)
    | ((with_reducible refine hB _ ?_); clear hB KB)
    | ((with_reducible refine r_block ?_))
    | ((with_reducible refine r_ret ?_); conv => whnf)
    | ((with_reducible refine r_skip ?_); conv => whnf)
    | ((with_reducible refine r_exit ?_); conv => whnf)
    | ((with_reducible refine WrapK.i64 ?_ ?_); (focus omega); conv => whnf)
    | ((with_reducible refine And.intro rfl ?_); conv => whnf)
    | ((with_reducible intro b); conv => whnf)
    | (apply in279; refine Tryz.ntmps279; rfl; rfl; rfl; intro A; conv => whnf)
    | (apply in193; refine Tryz.ntmps193; rfl; rfl; rfl; intro A; conv => whnf)
    | (refine CallK.puW (fun ms w hk => number196 (l := l) (Sees.rd (Sees.ext (by repeat (first | with_reducible apply At.head | apply At.tail))) hk) (by omega)) ?_; conv => whnf)
    | (refine OpK.slE (k := 1) rfl rfl rfl rfl rfl rfl (by repeat (first | with_reducible apply At.head | apply At.tail)) ?_; conv => whnf)
    | (refine ⟨by omega, by omega, by omega, fun a' => ?_⟩; conv => whnf)
    | ((with_reducible apply OpK.more); (focus refine sok); (conv => whnf); fail_if_success guard_target =ₛ False)
    | ((with_reducible refine InAt.mk (fun K' hK => ?_)); conv => whnf)
    | ((with_reducible refine AnyAt.mk (fun K' hK => ?_)); conv => whnf)
    | ((with_reducible refine hK _ ?_); clear hK K'; conv => whnf)
    | ((with_reducible refine hK _ _ ?_); clear hK K'; conv => whnf)
    | ((refine And.intro ?_ ?_); all_goals (conv => whnf))
    | (apply r_quiet; refine mixed; kernel_rfl; kernel_rfl; kernel_rfl; conv => whnf)
    | ((refine if_t ?_ ?_); (focus decide); conv => whnf)
    | ((refine if_f ?_ ?_); (focus decide); conv => whnf)
    | ((refine if_decT ?_ ?_); (focus omega); conv => whnf)
    | ((refine if_decF ?_ ?_); (focus omega); conv => whnf)
    | ((refine if_ndecT ?_ ?_); (focus omega); conv => whnf)
    | ((refine if_ndecF ?_ ?_); (focus omega); conv => whnf)
    | ((refine if_dec (fun h => ?_) (fun h => ?_)); conv => whnf)
    | ((refine if_ndec (fun h => ?_) (fun h => ?_)); conv => whnf)
    | ((refine if_cond (fun h => ?_) (fun h => ?_)); conv => whnf)
    | ((with_reducible apply_assumption -symm -exfalso)))
    · rw [show rdU (some l) = (0, none) from if_pos (by omega)]
      exact FinK.fr (y := .ext 0 (RdA p none)) rfl (HSub.trans (RdA.closeN (i1 := 10)) (HSub.keep rfl (HSub.drop HSub.nil))) (fun _ _ h => h)
    · rw [show rdU (some l) = ((numR l).1, some (l.drop (numR l).2)) from if_neg (by omega)]
      exact FinK.fr (y := .ext 0 (RdA p (some (l.drop (numR l).2)))) rfl (RdA.close (bc_len _ _) (bc_drop _ _)) (fun _ _ h => h)
theorem RB.U {st : RSt} (h : RB st) : RB (rdU st).2 := by
  intro l hl
  cases st with
  | none => cases hl
  | some l' =>
    simp only [rdU] at hl
    split at hl
    · cases hl
    · simp only [Option.some.injEq] at hl
      subst hl
      have := h l' rfl
      simp; omega
theorem numG_lt : ∀ (l : List UInt8) (i a : Nat), a < 2 ^ (7 * i) → i ≤ 9 → (numG i a l).1 < 2 ^ 64
  | [], i, a, _, _ => by simp [numG]
  | c :: l, i, a, ha, hi => by
    rw [numG]
    split
    · simp
    · rename_i hc
      have hb := c.toNat_lt
      have h1 := byte_room (c := c.toNat) (i := i) hb hi (by omega)
      have h2 := acc_room (x := c.toNat % 128) ha (Nat.mod_lt _ (by omega))
      by_cases h9 : i = 9
      · subst h9
        rw [if_pos (by omega)]
        have hh : c.toNat % 128 ≤ 1 := by omega
        have h3 : c.toNat % 128 * 2 ^ (7 * 9) ≤ 1 * 2 ^ (7 * 9) := Nat.mul_le_mul_right _ hh
        exact Nat.lt_of_lt_of_le (Nat.add_lt_add_of_lt_of_le ha h3) (by decide)
      · split
        · exact pow_room h2 (by omega)
        · exact numG_lt l (i + 1) _ h2 (by omega)
theorem numR_lt (l : List UInt8) : (numR l).1 < 2 ^ 64 := numG_lt l 0 0 (by simp) (by omega)
theorem rdU_lt (st : RSt) : (rdU st).1 < 2 ^ 64 := by
  cases st with
  | none => simp [rdU]
  | some l =>
    simp only [rdU]
    split
    · simp
    · exact numR_lt l
theorem fail193 {p : Nat} {st : RSt} (w : World) : Fr Tryz.prog 193 #[pv p] w (RdA p st) (.tuple #[]) (RdA p none) := by
  refine enter_fr TBok (A' := RdA p none) (H := [.ext 12 (RdA p st)]) one_foot Tryz.func193 rfl rfl Tryz.ntmps193 [.loc p 10 0] rfl rfl ?_
  intro S
  refine Run.open (α := Option Addr × Nat) (A := []) (B := []) (fun z => RdH p st z ++ []) (fun w S h => RdA.open (X := []) (Y := []) h) ?_
  rintro ⟨a, cap⟩
  cases st with
  | none =>
    dsimp only [RdH, List.cons_append, List.nil_append]
    conv => whnf
    repeat' (first
    | ((with_reducible refine r_seq (fun KS hS => ?_)))
    | ((with_reducible refine r_region ?_); conv => whnf)
    | ((with_reducible refine r_cond (fun KA hA KB hB => ?_)); conv => whnf)
    | ((with_reducible refine hS _ _ ?_); clear hS KS)
    | ((with_reducible refine hA _ ?_); clear hA KA)
    | ((with_reducible refine hB _ ?_); clear hB KB)
    | ((with_reducible refine r_block ?_))
    | ((with_reducible refine r_ret ?_); conv => whnf)
    | ((with_reducible refine r_skip ?_); conv => whnf)
    | ((with_reducible refine r_exit ?_); conv => whnf)
    | ((with_reducible refine WrapK.i64 ?_ ?_); (focus omega); conv => whnf)
    | ((with_reducible refine And.intro rfl ?_); conv => whnf)
    | ((with_reducible intro b); conv => whnf)
    | ((with_reducible apply OpK.more); (focus refine sok); (conv => whnf); fail_if_success guard_target =ₛ False)
    | ((with_reducible refine InAt.mk (fun K' hK => ?_)); conv => whnf)
    | ((with_reducible refine AnyAt.mk (fun K' hK => ?_)); conv => whnf)
    | ((with_reducible refine hK _ ?_); clear hK K'; conv => whnf)
    | ((with_reducible refine hK _ _ ?_); clear hK K'; conv => whnf)
    | ((refine And.intro ?_ ?_); all_goals (conv => whnf))
    | (apply r_quiet; refine mixed; kernel_rfl; kernel_rfl; kernel_rfl; conv => whnf)
    | ((refine if_t ?_ ?_); (focus decide); conv => whnf)
    | ((refine if_f ?_ ?_); (focus decide); conv => whnf)
    | ((refine if_decT ?_ ?_); (focus omega); conv => whnf)
    | ((refine if_decF ?_ ?_); (focus omega); conv => whnf)
    | ((refine if_ndecT ?_ ?_); (focus omega); conv => whnf)
    | ((refine if_ndecF ?_ ?_); (focus omega); conv => whnf)
    | ((refine if_dec (fun h => ?_) (fun h => ?_)); conv => whnf)
    | ((refine if_ndec (fun h => ?_) (fun h => ?_)); conv => whnf)
    | ((refine if_cond (fun h => ?_) (fun h => ?_)); conv => whnf)
    | ((with_reducible apply_assumption -symm -exfalso)))
    exact FinK.fr (y := .ext 0 (RdA p none)) rfl RdA.closeN (fun _ _ h => h)
  | some l =>
    dsimp only [RdH, List.cons_append, List.nil_append]
    conv => whnf
    repeat' (first
    | ((with_reducible refine r_seq (fun KS hS => ?_)))
    | ((with_reducible refine r_region ?_); conv => whnf)
    | ((with_reducible refine r_cond (fun KA hA KB hB => ?_)); conv => whnf)
    | ((with_reducible refine hS _ _ ?_); clear hS KS)
    | ((with_reducible refine hA _ ?_); clear hA KA)
    | ((with_reducible refine hB _ ?_); clear hB KB)
    | ((with_reducible refine r_block ?_))
    | ((with_reducible refine r_ret ?_); conv => whnf)
    | ((with_reducible refine r_skip ?_); conv => whnf)
    | ((with_reducible refine r_exit ?_); conv => whnf)
    | ((with_reducible refine WrapK.i64 ?_ ?_); (focus omega); conv => whnf)
    | ((with_reducible refine And.intro rfl ?_); conv => whnf)
    | ((with_reducible intro b); conv => whnf)
    | ((with_reducible apply OpK.more); (focus refine sok); (conv => whnf); fail_if_success guard_target =ₛ False)
    | ((with_reducible refine InAt.mk (fun K' hK => ?_)); conv => whnf)
    | ((with_reducible refine AnyAt.mk (fun K' hK => ?_)); conv => whnf)
    | ((with_reducible refine hK _ ?_); clear hK K'; conv => whnf)
    | ((with_reducible refine hK _ _ ?_); clear hK K'; conv => whnf)
    | ((refine And.intro ?_ ?_); all_goals (conv => whnf))
    | (apply r_quiet; refine mixed; kernel_rfl; kernel_rfl; kernel_rfl; conv => whnf)
    | ((refine if_t ?_ ?_); (focus decide); conv => whnf)
    | ((refine if_f ?_ ?_); (focus decide); conv => whnf)
    | ((refine if_decT ?_ ?_); (focus omega); conv => whnf)
    | ((refine if_decF ?_ ?_); (focus omega); conv => whnf)
    | ((refine if_ndecT ?_ ?_); (focus omega); conv => whnf)
    | ((refine if_ndecF ?_ ?_); (focus omega); conv => whnf)
    | ((refine if_dec (fun h => ?_) (fun h => ?_)); conv => whnf)
    | ((refine if_ndec (fun h => ?_) (fun h => ?_)); conv => whnf)
    | ((refine if_cond (fun h => ?_) (fun h => ?_)); conv => whnf)
    | ((with_reducible apply_assumption -symm -exfalso)))
    exact FinK.fr (y := .ext 0 (RdA p none)) rfl (HSub.trans (RdA.closeN (i1 := 10)) (HSub.keep rfl (HSub.drop HSub.nil))) (fun _ _ h => h)
theorem small114 {p : Nat} {st : RSt} {most : Nat} (hb : RB st) (hm : most ≤ 9223372036854775807) (w : World) : Fr Tryz.prog 114 #[pv p, .int .i64 most] w (RdA p st) (.int .i64 (rdS most st).1) (RdA p (rdS most st).2) := by
  have hlt := rdU_lt st
  by_cases hc : (rdU st).1 > most
  · rw [show rdS most st = (0, none) from if_pos hc]
    refine enter_fr TBok (A' := RdA p none) (H := [.ext 12 (RdA p st)]) one_foot Tryz.func114 rfl rfl Tryz.ntmps114 [.loc p 10 0, .v (.int .i64 most)] rfl rfl ?_
    intro S
    conv => whnf
    repeat' (first
    | ((with_reducible refine r_seq (fun KS hS => ?_)))
    | ((with_reducible refine r_region ?_); conv => whnf)
    | ((with_reducible refine r_cond (fun KA hA KB hB => ?_)); conv => whnf)
    | ((with_reducible refine hS _ _ ?_); clear hS KS)
    | ((with_reducible refine hA _ ?_); clear hA KA)
    | ((with_reducible refine hB _ ?_); clear hB KB)
    | ((with_reducible refine r_block ?_))
    | ((with_reducible refine r_ret ?_); conv => whnf)
    | ((with_reducible refine r_skip ?_); conv => whnf)
    | ((with_reducible refine r_exit ?_); conv => whnf)
    | ((with_reducible refine WrapK.i64 ?_ ?_); (focus omega); conv => whnf)
    | ((with_reducible refine And.intro rfl ?_); conv => whnf)
    | ((with_reducible intro b); conv => whnf)
    | (refine CallK.fr1 12 At.head (fun ms w _ => uint192 hb w) ?_; conv => whnf)
    | (refine WrapK.eq (IntWalk.u64_in _ (by omega)) ?_; conv => whnf)
    | (refine CallK.fr1 12 At.head (fun ms w _ => fail193 w) ?_; conv => whnf)
    | ((with_reducible apply OpK.more); (focus refine sok); (conv => whnf); fail_if_success guard_target =ₛ False)
    | ((with_reducible refine InAt.mk (fun K' hK => ?_)); conv => whnf)
    | ((with_reducible refine AnyAt.mk (fun K' hK => ?_)); conv => whnf)
    | ((with_reducible refine hK _ ?_); clear hK K'; conv => whnf)
    | ((with_reducible refine hK _ _ ?_); clear hK K'; conv => whnf)
    | ((refine And.intro ?_ ?_); all_goals (conv => whnf))
    | (apply r_quiet; refine mixed; kernel_rfl; kernel_rfl; kernel_rfl; conv => whnf)
    | ((refine if_t ?_ ?_); (focus decide); conv => whnf)
    | ((refine if_f ?_ ?_); (focus decide); conv => whnf)
    | ((refine if_decT ?_ ?_); (focus omega); conv => whnf)
    | ((refine if_decF ?_ ?_); (focus omega); conv => whnf)
    | ((refine if_ndecT ?_ ?_); (focus omega); conv => whnf)
    | ((refine if_ndecF ?_ ?_); (focus omega); conv => whnf)
    | ((refine if_dec (fun h => ?_) (fun h => ?_)); conv => whnf)
    | ((refine if_ndec (fun h => ?_) (fun h => ?_)); conv => whnf)
    | ((refine if_cond (fun h => ?_) (fun h => ?_)); conv => whnf)
    | ((with_reducible apply_assumption -symm -exfalso)))
    exact FinK.fr (y := .ext 0 (RdA p none)) rfl (HSub.ext (fun _ _ h => h) HSub.nil) (fun _ _ h => h)
  · rw [show rdS most st = rdU st from if_neg hc]
    refine enter_fr TBok (A' := RdA p (rdU st).2) (H := [.ext 12 (RdA p st)]) one_foot Tryz.func114 rfl rfl Tryz.ntmps114 [.loc p 10 0, .v (.int .i64 most)] rfl rfl ?_
    intro S
    conv => whnf
    repeat' (first
    | ((with_reducible refine r_seq (fun KS hS => ?_)))
    | ((with_reducible refine r_region ?_); conv => whnf)
    | ((with_reducible refine r_cond (fun KA hA KB hB => ?_)); conv => whnf)
    | ((with_reducible refine hS _ _ ?_); clear hS KS)
    | ((with_reducible refine hA _ ?_); clear hA KA)
    | ((with_reducible refine hB _ ?_); clear hB KB)
    | ((with_reducible refine r_block ?_))
    | ((with_reducible refine r_ret ?_); conv => whnf)
    | ((with_reducible refine r_skip ?_); conv => whnf)
    | ((with_reducible refine r_exit ?_); conv => whnf)
    | ((with_reducible refine WrapK.i64 ?_ ?_); (focus omega); conv => whnf)
    | ((with_reducible refine And.intro rfl ?_); conv => whnf)
    | ((with_reducible intro b); conv => whnf)
    | (refine CallK.fr1 12 At.head (fun ms w _ => uint192 hb w) ?_; conv => whnf)
    | (refine WrapK.eq (IntWalk.u64_in _ (by omega)) ?_; conv => whnf)
    | ((with_reducible apply OpK.more); (focus refine sok); (conv => whnf); fail_if_success guard_target =ₛ False)
    | ((with_reducible refine InAt.mk (fun K' hK => ?_)); conv => whnf)
    | ((with_reducible refine AnyAt.mk (fun K' hK => ?_)); conv => whnf)
    | ((with_reducible refine hK _ ?_); clear hK K'; conv => whnf)
    | ((with_reducible refine hK _ _ ?_); clear hK K'; conv => whnf)
    | ((refine And.intro ?_ ?_); all_goals (conv => whnf))
    | (apply r_quiet; refine mixed; kernel_rfl; kernel_rfl; kernel_rfl; conv => whnf)
    | ((refine if_t ?_ ?_); (focus decide); conv => whnf)
    | ((refine if_f ?_ ?_); (focus decide); conv => whnf)
    | ((refine if_decT ?_ ?_); (focus omega); conv => whnf)
    | ((refine if_decF ?_ ?_); (focus omega); conv => whnf)
    | ((refine if_ndecT ?_ ?_); (focus omega); conv => whnf)
    | ((refine if_ndecF ?_ ?_); (focus omega); conv => whnf)
    | ((refine if_dec (fun h => ?_) (fun h => ?_)); conv => whnf)
    | ((refine if_ndec (fun h => ?_) (fun h => ?_)); conv => whnf)
    | ((refine if_cond (fun h => ?_) (fun h => ?_)); conv => whnf)
    | ((with_reducible apply_assumption -symm -exfalso)))
    exact FinK.fr (y := .ext 0 (RdA p (rdU st).2)) rfl (HSub.ext (fun _ _ h => h) HSub.nil) (fun _ _ h => h)
theorem RB.S {st : RSt} {most : Nat} (h : RB st) : RB (rdS most st).2 := by
  unfold rdS
  split
  · intro l hl; cases hl
  · exact h.U
end Go.Proofs.YtbgnoibellfojaaGreatDoor

namespace Go.Proofs.YtbgnoibellfojaaGreatDoor
open Go Go.X
set_option maxRecDepth 100000
set_option maxHeartbeats 0
theorem i64_xor0 {x : Nat} (h : x < 2 ^ 63) : IntKind.i64.wrap (bitN .xor .i64 (x : Int) 0) = x := by
  have h1 : bitN .xor .i64 (x : Int) 0 = x := by
    show (BitVec.ofInt 64 (x : Int) ^^^ BitVec.ofInt 64 0).toNat = x
    rw [show BitVec.ofInt 64 0 = 0#64 by rfl, BitVec.xor_zero, BitVec.ofInt_natCast, BitVec.toNat_ofNat]
    exact Nat.mod_eq_of_lt (by omega)
  rw [h1]
  exact IntWalk.i64_in _ (by omega)
theorem i64_xor1 {x : Nat} (h : x < 2 ^ 63) : IntKind.i64.wrap (bitN .xor .i64 (x : Int) (-1)) = -(x : Int) - 1 := by
  have h1 : bitN .xor .i64 (x : Int) (-1) = 2 ^ 64 - 1 - x := by
    show (BitVec.ofInt 64 (x : Int) ^^^ BitVec.ofInt 64 (-1)).toNat = _
    rw [show BitVec.ofInt 64 (-1) = BitVec.allOnes 64 by rfl, BitVec.xor_allOnes, BitVec.ofInt_natCast, BitVec.toNat_not, BitVec.toNat_ofNat, Nat.mod_eq_of_lt (by omega)]
  rw [h1, IntKind.wrap_i64]
  omega
theorem u64_and1 (x : Nat) (h : x < 2 ^ 64) : IntKind.u64.wrap (bitN .and .u64 (x : Int) 1) = ((x % 2 : Nat) : Int) := by
  have h1 : bitN .and .u64 (x : Int) 1 = x % 2 := by
    show (BitVec.ofInt 64 (x : Int) &&& BitVec.ofInt 64 1).toNat = _
    rw [BitVec.toNat_and, BitVec.ofInt_natCast, BitVec.toNat_ofNat, Nat.mod_eq_of_lt (by omega), show (BitVec.ofInt 64 1).toNat = 1 by rfl, Nat.and_one_is_mod]
  rw [h1]
  exact IntWalk.u64_in _ (by omega)
theorem shr1 (m : Nat) : (m : Int).fdiv (2 ^ min (Int.toNat 1) IntKind.u64.bits) = ((m / 2 : Nat) : Int) := by
  have e : (2 : Int) ^ min (Int.toNat 1) IntKind.u64.bits = 2 := by decide
  rw [e, Int.fdiv_eq_ediv_of_nonneg _ (by omega)]
  omega
theorem zag197 {u : Nat} (hu : u < 2 ^ 64) (w : World) : Pu Tryz.prog 197 #[.int .u64 u] w (.int .i64 (zagI u)) := by
  refine enter_sound TBok Tryz.func197 rfl rfl Tryz.ntmps197 [.v (.int .u64 u)] (Kn.start w noS) rfl rfl ?_
  conv => whnf
  repeat' (first
    | ((with_reducible refine r_seq (fun KS hS => ?_)))
    | ((with_reducible refine r_region ?_); conv => whnf)
    | ((with_reducible refine r_cond (fun KA hA KB hB => ?_)); conv => whnf)
    | ((with_reducible refine hS _ _ ?_); clear hS KS)
    | ((with_reducible refine hA _ ?_); clear hA KA)
    | ((with_reducible refine hB _ ?_); clear hB KB)
    | ((with_reducible refine r_block ?_))
    | ((with_reducible refine r_ret ?_); conv => whnf)
    | ((with_reducible refine r_skip ?_); conv => whnf)
    | ((with_reducible refine r_exit ?_); conv => whnf)
    | ((with_reducible refine WrapK.i64 ?_ ?_); (focus omega); conv => whnf)
    | ((with_reducible refine And.intro rfl ?_); conv => whnf)
    | ((with_reducible intro b); conv => whnf)
    | (refine OpK.shr rfl rfl rfl (by omega) (shr1 u) ?_; conv => whnf)
    | (refine BitK.eq (u64_and1 u hu) ?_; conv => whnf)
    | ((with_reducible apply OpK.more); (focus refine sok); (conv => whnf); fail_if_success guard_target =ₛ False)
    | ((with_reducible refine InAt.mk (fun K' hK => ?_)); conv => whnf)
    | ((with_reducible refine AnyAt.mk (fun K' hK => ?_)); conv => whnf)
    | ((with_reducible refine hK _ ?_); clear hK K'; conv => whnf)
    | ((with_reducible refine hK _ _ ?_); clear hK K'; conv => whnf)
    | ((refine And.intro ?_ ?_); all_goals (conv => whnf))
    | (apply r_quiet; refine mixed; kernel_rfl; kernel_rfl; kernel_rfl; conv => whnf)
    | ((refine if_t ?_ ?_); (focus decide); conv => whnf)
    | ((refine if_f ?_ ?_); (focus decide); conv => whnf)
    | ((refine if_decT ?_ ?_); (focus omega); conv => whnf)
    | ((refine if_decF ?_ ?_); (focus omega); conv => whnf)
    | ((refine if_ndecT ?_ ?_); (focus omega); conv => whnf)
    | ((refine if_ndecF ?_ ?_); (focus omega); conv => whnf)
    | ((refine if_dec (fun h => ?_) (fun h => ?_)); all_goals (conv => whnf))
    | ((refine if_ndec (fun h => ?_) (fun h => ?_)); all_goals (conv => whnf))
    | ((refine if_cond (fun h => ?_) (fun h => ?_)); all_goals (conv => whnf))
    | ((with_reducible apply_assumption -symm -exfalso)))
  by_cases h : u % 2 = 0
  · refine BitK.eq (z := ((u / 2 : Nat) : Int)) ?_ ?_
    · rw [h]
      exact i64_xor0 (by omega)
    conv => whnf
    repeat' (first
    | ((with_reducible refine r_seq (fun KS hS => ?_)))
    | ((with_reducible refine r_region ?_); conv => whnf)
    | ((with_reducible refine r_cond (fun KA hA KB hB => ?_)); conv => whnf)
    | ((with_reducible refine hS _ _ ?_); clear hS KS)
    | ((with_reducible refine hA _ ?_); clear hA KA)
    | ((with_reducible refine hB _ ?_); clear hB KB)
    | ((with_reducible refine r_block ?_))
    | ((with_reducible refine r_ret ?_); conv => whnf)
    | ((with_reducible refine r_skip ?_); conv => whnf)
    | ((with_reducible refine r_exit ?_); conv => whnf)
    | ((with_reducible refine WrapK.i64 ?_ ?_); (focus omega); conv => whnf)
    | ((with_reducible refine And.intro rfl ?_); conv => whnf)
    | ((with_reducible intro b); conv => whnf)
    | ((with_reducible apply OpK.more); (focus refine sok); (conv => whnf); fail_if_success guard_target =ₛ False)
    | ((with_reducible refine InAt.mk (fun K' hK => ?_)); conv => whnf)
    | ((with_reducible refine AnyAt.mk (fun K' hK => ?_)); conv => whnf)
    | ((with_reducible refine hK _ ?_); clear hK K'; conv => whnf)
    | ((with_reducible refine hK _ _ ?_); clear hK K'; conv => whnf)
    | ((refine And.intro ?_ ?_); all_goals (conv => whnf))
    | (apply r_quiet; refine mixed; kernel_rfl; kernel_rfl; kernel_rfl; conv => whnf)
    | ((refine if_t ?_ ?_); (focus decide); conv => whnf)
    | ((refine if_f ?_ ?_); (focus decide); conv => whnf)
    | ((refine if_decT ?_ ?_); (focus omega); conv => whnf)
    | ((refine if_decF ?_ ?_); (focus omega); conv => whnf)
    | ((refine if_ndecT ?_ ?_); (focus omega); conv => whnf)
    | ((refine if_ndecF ?_ ?_); (focus omega); conv => whnf)
    | ((refine if_dec (fun h => ?_) (fun h => ?_)); all_goals (conv => whnf))
    | ((refine if_ndec (fun h => ?_) (fun h => ?_)); all_goals (conv => whnf))
    | ((refine if_cond (fun h => ?_) (fun h => ?_)); all_goals (conv => whnf))
    | ((with_reducible apply_assumption -symm -exfalso)))
    refine FinK.pu ?_
    simp [den, zagI, h]
  · refine BitK.eq (z := -((u / 2 : Nat) : Int) - 1) ?_ ?_
    · rw [show u % 2 = 1 by omega]
      exact i64_xor1 (by omega)
    conv => whnf
    repeat' (first
    | ((with_reducible refine r_seq (fun KS hS => ?_)))
    | ((with_reducible refine r_region ?_); conv => whnf)
    | ((with_reducible refine r_cond (fun KA hA KB hB => ?_)); conv => whnf)
    | ((with_reducible refine hS _ _ ?_); clear hS KS)
    | ((with_reducible refine hA _ ?_); clear hA KA)
    | ((with_reducible refine hB _ ?_); clear hB KB)
    | ((with_reducible refine r_block ?_))
    | ((with_reducible refine r_ret ?_); conv => whnf)
    | ((with_reducible refine r_skip ?_); conv => whnf)
    | ((with_reducible refine r_exit ?_); conv => whnf)
    | ((with_reducible refine WrapK.i64 ?_ ?_); (focus omega); conv => whnf)
    | ((with_reducible refine And.intro rfl ?_); conv => whnf)
    | ((with_reducible intro b); conv => whnf)
    | ((with_reducible apply OpK.more); (focus refine sok); (conv => whnf); fail_if_success guard_target =ₛ False)
    | ((with_reducible refine InAt.mk (fun K' hK => ?_)); conv => whnf)
    | ((with_reducible refine AnyAt.mk (fun K' hK => ?_)); conv => whnf)
    | ((with_reducible refine hK _ ?_); clear hK K'; conv => whnf)
    | ((with_reducible refine hK _ _ ?_); clear hK K'; conv => whnf)
    | ((refine And.intro ?_ ?_); all_goals (conv => whnf))
    | (apply r_quiet; refine mixed; kernel_rfl; kernel_rfl; kernel_rfl; conv => whnf)
    | ((refine if_t ?_ ?_); (focus decide); conv => whnf)
    | ((refine if_f ?_ ?_); (focus decide); conv => whnf)
    | ((refine if_decT ?_ ?_); (focus omega); conv => whnf)
    | ((refine if_decF ?_ ?_); (focus omega); conv => whnf)
    | ((refine if_ndecT ?_ ?_); (focus omega); conv => whnf)
    | ((refine if_ndecF ?_ ?_); (focus omega); conv => whnf)
    | ((refine if_dec (fun h => ?_) (fun h => ?_)); all_goals (conv => whnf))
    | ((refine if_ndec (fun h => ?_) (fun h => ?_)); all_goals (conv => whnf))
    | ((refine if_cond (fun h => ?_) (fun h => ?_)); all_goals (conv => whnf))
    | ((with_reducible apply_assumption -symm -exfalso)))
    refine FinK.pu ?_
    simp [den, zagI, h]
theorem u64_xor0 {x : Nat} (h : x < 2 ^ 64) : IntKind.u64.wrap (bitN .xor .u64 (x : Int) 0) = x := by
  have h1 : bitN .xor .u64 (x : Int) 0 = x := by
    show (BitVec.ofInt 64 (x : Int) ^^^ BitVec.ofInt 64 0).toNat = x
    rw [show BitVec.ofInt 64 0 = 0#64 by rfl, BitVec.xor_zero, BitVec.ofInt_natCast, BitVec.toNat_ofNat]
    exact Nat.mod_eq_of_lt h
  rw [h1]
  exact IntWalk.u64_in _ (by omega)
theorem u64_xor1 {x : Nat} (h : x < 2 ^ 64) : IntKind.u64.wrap (bitN .xor .u64 (x : Int) 18446744073709551615) = 18446744073709551615 - (x : Int) := by
  have h1 : bitN .xor .u64 (x : Int) 18446744073709551615 = 2 ^ 64 - 1 - x := by
    show (BitVec.ofInt 64 (x : Int) ^^^ BitVec.ofInt 64 18446744073709551615).toNat = _
    rw [show BitVec.ofInt 64 18446744073709551615 = BitVec.allOnes 64 by rfl, BitVec.xor_allOnes, BitVec.ofInt_natCast, BitVec.toNat_not, BitVec.toNat_ofNat, Nat.mod_eq_of_lt (by omega)]
  rw [h1]
  have : ((2 ^ 64 - 1 - x : Nat) : Int) = 18446744073709551615 - (x : Int) := by omega
  rw [this]
  exact IntWalk.u64_in _ (by omega)
theorem u64_neg {a : Int} (h : -18446744073709551616 ≤ a ∧ a < 0) : IntKind.u64.wrap a = a + 18446744073709551616 := by
  simp [IntKind.wrap, IntKind.bits, IntKind.signed]; omega
theorem shl1 (z : Int) : IntKind.u64.wrap (z * 2 ^ min (Int.toNat 1) IntKind.u64.bits) = IntKind.u64.wrap (2 * z) := by
  have e : (2 : Int) ^ min (Int.toNat 1) IntKind.u64.bits = 2 := by decide
  rw [e, Int.mul_comm]
theorem u64_big {a : Int} (h : 18446744073709551616 ≤ a ∧ a < 36893488147419103232) : IntKind.u64.wrap a = a - 18446744073709551616 := by
  simp [IntKind.wrap, IntKind.bits, IntKind.signed]; omega
theorem shr63p {a : Int} (h : 0 ≤ a) (h2 : a ≤ 9223372036854775807) : a.fdiv (2 ^ min (Int.toNat 63) IntKind.i64.bits) = 0 := by
  have e : (2 : Int) ^ min (Int.toNat 63) IntKind.i64.bits = 9223372036854775808 := by decide
  rw [e, Int.fdiv_eq_ediv_of_nonneg _ (by omega)]
  omega
theorem shr63n {a : Int} (h : a < 0) (h2 : -9223372036854775808 ≤ a) : a.fdiv (2 ^ min (Int.toNat 63) IntKind.i64.bits) = -1 := by
  have e : (2 : Int) ^ min (Int.toNat 63) IntKind.i64.bits = 9223372036854775808 := by decide
  rw [e, Int.fdiv_eq_ediv_of_nonneg _ (by omega)]
  omega
theorem zigN_pos {a : Int} (h : 0 ≤ a) : (zigN a : Int) = 2 * a := by unfold zigN; rw [if_pos h]; omega
theorem zigN_neg {a : Int} (h : a < 0) : (zigN a : Int) = -2 * a - 1 := by unfold zigN; rw [if_neg (by omega)]; omega
theorem zigN_lt {a : Int} (ha : -9223372036854775808 ≤ a ∧ a ≤ 9223372036854775807) : zigN a < 2 ^ 64 := by
  rcases Int.lt_or_le a 0 with h | h
  · have := zigN_neg h; omega
  · have := zigN_pos h; omega
theorem zig133 {a : Int} (ha : -9223372036854775808 ≤ a ∧ a ≤ 9223372036854775807) (w : World) : Pu Tryz.prog 133 #[.int .i64 a] w (.int .u64 (zigN a)) := by
  refine enter_sound TBok Tryz.func133 rfl rfl Tryz.ntmps133 [.v (.int .i64 a)] (Kn.start w noS) rfl rfl ?_
  by_cases h : 0 ≤ a
  · have hz := zigN_pos h
    conv => whnf
    repeat' (first
    | ((with_reducible refine r_seq (fun KS hS => ?_)))
    | ((with_reducible refine r_region ?_); conv => whnf)
    | ((with_reducible refine r_cond (fun KA hA KB hB => ?_)); conv => whnf)
    | ((with_reducible refine hS _ _ ?_); clear hS KS)
    | ((with_reducible refine hA _ ?_); clear hA KA)
    | ((with_reducible refine hB _ ?_); clear hB KB)
    | ((with_reducible refine r_block ?_))
    | ((with_reducible refine r_ret ?_); conv => whnf)
    | ((with_reducible refine r_skip ?_); conv => whnf)
    | ((with_reducible refine r_exit ?_); conv => whnf)
    | ((with_reducible refine WrapK.i64 ?_ ?_); (focus omega); conv => whnf)
    | ((with_reducible refine And.intro rfl ?_); conv => whnf)
    | ((with_reducible intro b); conv => whnf)
    | (refine WrapK.eq (IntWalk.u64_in _ (by omega)) ?_; conv => whnf)
    | (refine OpK.shl (z := (zigN a : Int)) rfl rfl rfl (by omega) (by rw [shl1, IntWalk.u64_in _ (by omega)]; omega) ?_; conv => whnf)
    | (refine OpK.shr rfl rfl rfl (by omega) (shr63p h ha.2) ?_; conv => whnf)
    | (refine BitK.eq (u64_xor0 (zigN_lt ha)) ?_; conv => whnf)
    | ((with_reducible apply OpK.more); (focus refine sok); (conv => whnf); fail_if_success guard_target =ₛ False)
    | ((with_reducible refine InAt.mk (fun K' hK => ?_)); conv => whnf)
    | ((with_reducible refine AnyAt.mk (fun K' hK => ?_)); conv => whnf)
    | ((with_reducible refine hK _ ?_); clear hK K'; conv => whnf)
    | ((with_reducible refine hK _ _ ?_); clear hK K'; conv => whnf)
    | ((refine And.intro ?_ ?_); all_goals (conv => whnf))
    | (apply r_quiet; refine mixed; kernel_rfl; kernel_rfl; kernel_rfl; conv => whnf)
    | ((refine if_t ?_ ?_); (focus decide); conv => whnf)
    | ((refine if_f ?_ ?_); (focus decide); conv => whnf)
    | ((refine if_decT ?_ ?_); (focus omega); conv => whnf)
    | ((refine if_decF ?_ ?_); (focus omega); conv => whnf)
    | ((refine if_ndecT ?_ ?_); (focus omega); conv => whnf)
    | ((refine if_ndecF ?_ ?_); (focus omega); conv => whnf)
    | ((refine if_dec (fun h => ?_) (fun h => ?_)); all_goals (conv => whnf))
    | ((refine if_ndec (fun h => ?_) (fun h => ?_)); all_goals (conv => whnf))
    | ((refine if_cond (fun h => ?_) (fun h => ?_)); all_goals (conv => whnf))
    | ((with_reducible apply_assumption -symm -exfalso)))
    exact FinK.pu rfl
  · have hz := zigN_neg (show a < 0 by omega)
    have hlt := zigN_lt ha
    have hx : ((2 ^ 64 - 1 - zigN a : Nat) : Int) = 2 * (a + 18446744073709551616) - 18446744073709551616 := by omega
    have hr := u64_xor1 (x := 2 ^ 64 - 1 - zigN a) (by omega)
    conv => whnf
    repeat' (first
    | ((with_reducible refine r_seq (fun KS hS => ?_)))
    | ((with_reducible refine r_region ?_); conv => whnf)
    | ((with_reducible refine r_cond (fun KA hA KB hB => ?_)); conv => whnf)
    | ((with_reducible refine hS _ _ ?_); clear hS KS)
    | ((with_reducible refine hA _ ?_); clear hA KA)
    | ((with_reducible refine hB _ ?_); clear hB KB)
    | ((with_reducible refine r_block ?_))
    | ((with_reducible refine r_ret ?_); conv => whnf)
    | ((with_reducible refine r_skip ?_); conv => whnf)
    | ((with_reducible refine r_exit ?_); conv => whnf)
    | ((with_reducible refine WrapK.i64 ?_ ?_); (focus omega); conv => whnf)
    | ((with_reducible refine And.intro rfl ?_); conv => whnf)
    | ((with_reducible intro b); conv => whnf)
    | (refine WrapK.eq (u64_neg (by omega)) ?_; conv => whnf)
    | (refine OpK.shl (z := ((2 ^ 64 - 1 - zigN a : Nat) : Int)) rfl rfl rfl (by omega) (by rw [shl1, u64_big (by omega)]; omega) ?_; conv => whnf)
    | (refine OpK.shr rfl rfl rfl (by omega) (shr63n (by omega) ha.1) ?_; conv => whnf)
    | (refine BitK.eq hr ?_; conv => whnf)
    | ((with_reducible apply OpK.more); (focus refine sok); (conv => whnf); fail_if_success guard_target =ₛ False)
    | ((with_reducible refine InAt.mk (fun K' hK => ?_)); conv => whnf)
    | ((with_reducible refine AnyAt.mk (fun K' hK => ?_)); conv => whnf)
    | ((with_reducible refine hK _ ?_); clear hK K'; conv => whnf)
    | ((with_reducible refine hK _ _ ?_); clear hK K'; conv => whnf)
    | ((refine And.intro ?_ ?_); all_goals (conv => whnf))
    | (apply r_quiet; refine mixed; kernel_rfl; kernel_rfl; kernel_rfl; conv => whnf)
    | ((refine if_t ?_ ?_); (focus decide); conv => whnf)
    | ((refine if_f ?_ ?_); (focus decide); conv => whnf)
    | ((refine if_decT ?_ ?_); (focus omega); conv => whnf)
    | ((refine if_decF ?_ ?_); (focus omega); conv => whnf)
    | ((refine if_ndecT ?_ ?_); (focus omega); conv => whnf)
    | ((refine if_ndecF ?_ ?_); (focus omega); conv => whnf)
    | ((refine if_dec (fun h => ?_) (fun h => ?_)); all_goals (conv => whnf))
    | ((refine if_ndec (fun h => ?_) (fun h => ?_)); all_goals (conv => whnf))
    | ((refine if_cond (fun h => ?_) (fun h => ?_)); all_goals (conv => whnf))
    | ((with_reducible apply_assumption -symm -exfalso)))
    refine FinK.pu ?_
    show Value.int .u64 _ = _
    congr 1
    omega
theorem text85 {p : Nat} {l : List UInt8} {s : ByteArray} (hs : s.size ≤ 1099511627776) (hl : l.length ≤ 549755813888) (w : World) : Fr Tryz.prog 85 #[pv p, .string s] w (WrA p l) (.tuple #[]) (WrA p (l ++ uvar s.size ++ s.data.toList)) := by
  refine enter_fr TBok (A' := WrA p (l ++ uvar s.size ++ s.data.toList)) (H := [.ext 12 (WrA p l)]) one_foot Tryz.func85 rfl rfl Tryz.ntmps85 [.loc p 10 0, .v (.string s)] rfl rfl ?_
  intro S
  have h10 := uvar_len64 (n := s.size) (by omega)
  have hll : (l ++ uvar s.size).length ≤ 549755813898 := by rw [List.length_append]; omega
  have hsz : s.data.toList.length = s.size := by rw [Array.length_toList]; rfl
  have hap : (l ++ uvar s.size ++ s.data.toList).length = (l ++ uvar s.size).length + s.size := by rw [List.length_append, hsz]
  conv => whnf
  repeat' (first
    | ((with_reducible refine r_seq (fun KS hS => ?_)))
    | ((with_reducible refine r_region ?_); conv => whnf)
    | ((with_reducible refine r_cond (fun KA hA KB hB => ?_)); conv => whnf)
    | ((with_reducible refine hS _ _ ?_); clear hS KS)
    | ((with_reducible refine hA _ ?_); clear hA KA)
    | ((with_reducible refine hB _ ?_); clear hB KB)
    | ((with_reducible refine r_block ?_))
    | ((with_reducible refine r_ret ?_); conv => whnf)
    | ((with_reducible refine r_skip ?_); conv => whnf)
    | ((with_reducible refine r_exit ?_); conv => whnf)
    | ((with_reducible refine WrapK.i64 ?_ ?_); (focus omega); conv => whnf)
    | ((with_reducible refine And.intro rfl ?_); conv => whnf)
    | ((with_reducible intro b); conv => whnf)
    | (refine WrapK.eq (IntWalk.u64_in _ (by omega)) ?_; conv => whnf)
    | (refine CallK.fr1 12 At.head (fun ms w _ => uint83 (n := s.size) (by omega) (by omega) w) ?_; (conv => whnf); (refine hS _ _ ?_); clear hS KS; (refine Run.open (α := Option Addr × Nat) (A := []) (B := []) (fun z => [.blk 10 p [.v (.bool true), .v (.slice z.1 (l ++ uvar s.size).length z.2)] 209, .ext 11 (SlA 5 1 z.1 (l ++ uvar s.size).length z.2 (bcells (l ++ uvar s.size)))]) (fun w S h => WrA.open (X := []) (Y := []) h) ?_); rintro ⟨a, cap⟩; dsimp only)
    | (refine OpK.app (k := 1) rfl rfl rfl rfl rfl rfl rfl rfl (by repeat (first | with_reducible apply At.head | apply At.tail)) (SrcK.str rfl rfl) (by show (_ + _) * (1 + 1) ≤ 140737488355328; omega) (fun a' cap' => ?_); conv => whnf)
    | ((with_reducible apply OpK.more); (focus refine sok); (conv => whnf); fail_if_success guard_target =ₛ False)
    | ((with_reducible refine InAt.mk (fun K' hK => ?_)); conv => whnf)
    | ((with_reducible refine AnyAt.mk (fun K' hK => ?_)); conv => whnf)
    | ((with_reducible refine hK _ ?_); clear hK K'; conv => whnf)
    | ((with_reducible refine hK _ _ ?_); clear hK K'; conv => whnf)
    | ((refine And.intro ?_ ?_); all_goals (conv => whnf))
    | (apply r_quiet; refine mixed; kernel_rfl; kernel_rfl; kernel_rfl; conv => whnf)
    | ((refine if_t ?_ ?_); (focus decide); conv => whnf)
    | ((refine if_f ?_ ?_); (focus decide); conv => whnf)
    | ((refine if_decT ?_ ?_); (focus omega); conv => whnf)
    | ((refine if_decF ?_ ?_); (focus omega); conv => whnf)
    | ((refine if_ndecT ?_ ?_); (focus omega); conv => whnf)
    | ((refine if_ndecF ?_ ?_); (focus omega); conv => whnf)
    | ((refine if_dec (fun h => ?_) (fun h => ?_)); all_goals (conv => whnf))
    | ((refine if_ndec (fun h => ?_) (fun h => ?_)); all_goals (conv => whnf))
    | ((refine if_cond (fun h => ?_) (fun h => ?_)); all_goals (conv => whnf))
    | ((with_reducible apply_assumption -symm -exfalso)))
  exact FinK.fr (y := .ext 0 (WrA p (l ++ uvar s.size ++ s.data.toList))) rfl (WrA.close hap.symm (bcells_append _ _).symm) (fun _ _ h => h)
theorem int115 {p : Nat} {st : RSt} (hb : RB st) (w : World) : Fr Tryz.prog 115 #[pv p] w (RdA p st) (.int .i64 (rdI st).1) (RdA p (rdI st).2) := by
  refine enter_fr TBok (A' := RdA p (rdI st).2) (H := [.ext 12 (RdA p st)]) one_foot Tryz.func115 rfl rfl Tryz.ntmps115 [.loc p 10 0] rfl rfl ?_
  intro S
  refine Run.open (α := Option Addr × Nat) (A := []) (B := []) (fun z => RdH p st z ++ []) (fun w S h => RdA.open (X := []) (Y := []) h) ?_
  rintro ⟨a, cap⟩
  cases st with
  | none =>
    dsimp only [RdH, List.cons_append, List.nil_append]
    conv => whnf
    repeat' (first
    | ((with_reducible refine r_seq (fun KS hS => ?_)))
    | ((with_reducible refine r_region ?_); conv => whnf)
    | ((with_reducible refine r_cond (fun KA hA KB hB => ?_)); conv => whnf)
    | ((with_reducible refine hS _ _ ?_); clear hS KS)
    | ((with_reducible refine hA _ ?_); clear hA KA)
    | ((with_reducible refine hB _ ?_); clear hB KB)
    | ((with_reducible refine r_block ?_))
    | ((with_reducible refine r_ret ?_); conv => whnf)
    | ((with_reducible refine r_skip ?_); conv => whnf)
    | ((with_reducible refine r_exit ?_); conv => whnf)
    | ((with_reducible refine WrapK.i64 ?_ ?_); (focus omega); conv => whnf)
    | ((with_reducible refine And.intro rfl ?_); conv => whnf)
    | ((with_reducible intro b); conv => whnf)
    | (apply in194; refine Tryz.ntmps194; rfl; rfl; rfl; intro A; conv => whnf)
    | (apply in193; refine Tryz.ntmps193; rfl; rfl; rfl; intro A; conv => whnf)
    | ((with_reducible apply OpK.more); (focus refine sok); (conv => whnf); fail_if_success guard_target =ₛ False)
    | ((with_reducible refine InAt.mk (fun K' hK => ?_)); conv => whnf)
    | ((with_reducible refine AnyAt.mk (fun K' hK => ?_)); conv => whnf)
    | ((with_reducible refine hK _ ?_); clear hK K'; conv => whnf)
    | ((with_reducible refine hK _ _ ?_); clear hK K'; conv => whnf)
    | ((refine And.intro ?_ ?_); all_goals (conv => whnf))
    | (apply r_quiet; refine mixed; kernel_rfl; kernel_rfl; kernel_rfl; conv => whnf)
    | ((refine if_t ?_ ?_); (focus decide); conv => whnf)
    | ((refine if_f ?_ ?_); (focus decide); conv => whnf)
    | ((refine if_decT ?_ ?_); (focus omega); conv => whnf)
    | ((refine if_decF ?_ ?_); (focus omega); conv => whnf)
    | ((refine if_ndecT ?_ ?_); (focus omega); conv => whnf)
    | ((refine if_ndecF ?_ ?_); (focus omega); conv => whnf)
    | ((refine if_dec (fun h => ?_) (fun h => ?_)); all_goals (conv => whnf))
    | ((refine if_ndec (fun h => ?_) (fun h => ?_)); all_goals (conv => whnf))
    | ((refine if_cond (fun h => ?_) (fun h => ?_)); all_goals (conv => whnf))
    | ((with_reducible apply_assumption -symm -exfalso)))
    exact FinK.fr (y := .ext 0 (RdA p none)) rfl RdA.closeN (fun _ _ h => h)
  | some l =>
    have hl := hb l rfl
    have hR := numR_le l
    dsimp only [RdH, List.cons_append, List.nil_append]
    conv => whnf
    repeat' (first
    | ((with_reducible refine r_seq (fun KS hS => ?_)))
    | ((with_reducible refine r_region ?_); conv => whnf)
    | ((with_reducible refine r_cond (fun KA hA KB hB => ?_)); conv => whnf)
    | ((with_reducible refine hS _ _ ?_); clear hS KS)
    | ((with_reducible refine hA _ ?_); clear hA KA)
    | ((with_reducible refine hB _ ?_); clear hB KB)
    | ((with_reducible refine r_block ?_))
    | ((with_reducible refine r_ret ?_); conv => whnf)
    | ((with_reducible refine r_skip ?_); conv => whnf)
    | ((with_reducible refine r_exit ?_); conv => whnf)
    | ((with_reducible refine WrapK.i64 ?_ ?_); (focus omega); conv => whnf)
    | ((with_reducible refine And.intro rfl ?_); conv => whnf)
    | ((with_reducible intro b); conv => whnf)
    | (apply in194; refine Tryz.ntmps194; rfl; rfl; rfl; intro A; conv => whnf)
    | (apply in193; refine Tryz.ntmps193; rfl; rfl; rfl; intro A; conv => whnf)
    | (apply in195; refine Tryz.ntmps195; rfl; rfl; rfl; intro A; conv => whnf)
    | (refine CallK.puW (fun ms w hk => number196 (l := l) (Sees.rd (Sees.ext (by repeat (first | with_reducible apply At.head | apply At.tail))) hk) (by omega)) ?_; conv => whnf)
    | (refine CallK.pu (fun w => zag197 (numR_lt l) w) ?_; conv => whnf)
    | (refine OpK.slE (k := 1) rfl rfl rfl rfl rfl rfl (by repeat (first | with_reducible apply At.head | apply At.tail)) ?_; conv => whnf)
    | (refine ⟨by omega, by omega, by omega, fun a' => ?_⟩; conv => whnf)
    | ((with_reducible apply OpK.more); (focus refine sok); (conv => whnf); fail_if_success guard_target =ₛ False)
    | ((with_reducible refine InAt.mk (fun K' hK => ?_)); conv => whnf)
    | ((with_reducible refine AnyAt.mk (fun K' hK => ?_)); conv => whnf)
    | ((with_reducible refine hK _ ?_); clear hK K'; conv => whnf)
    | ((with_reducible refine hK _ _ ?_); clear hK K'; conv => whnf)
    | ((refine And.intro ?_ ?_); all_goals (conv => whnf))
    | (apply r_quiet; refine mixed; kernel_rfl; kernel_rfl; kernel_rfl; conv => whnf)
    | ((refine if_t ?_ ?_); (focus decide); conv => whnf)
    | ((refine if_f ?_ ?_); (focus decide); conv => whnf)
    | ((refine if_decT ?_ ?_); (focus omega); conv => whnf)
    | ((refine if_decF ?_ ?_); (focus omega); conv => whnf)
    | ((refine if_ndecT ?_ ?_); (focus omega); conv => whnf)
    | ((refine if_ndecF ?_ ?_); (focus omega); conv => whnf)
    | ((refine if_dec (fun h => ?_) (fun h => ?_)); all_goals (conv => whnf))
    | ((refine if_ndec (fun h => ?_) (fun h => ?_)); all_goals (conv => whnf))
    | ((refine if_cond (fun h => ?_) (fun h => ?_)); all_goals (conv => whnf))
    | ((with_reducible apply_assumption -symm -exfalso)))
    · rw [show rdI (some l) = (0, none) from if_pos (by omega)]
      exact FinK.fr (y := .ext 0 (RdA p none)) rfl (HSub.trans (RdA.closeN (i1 := 10)) (HSub.keep rfl (HSub.drop HSub.nil))) (fun _ _ h => h)
    · rw [show rdI (some l) = (zagI (numR l).1, some (l.drop (numR l).2)) from if_neg (by omega)]
      exact FinK.fr (y := .ext 0 (RdA p (some (l.drop (numR l).2)))) rfl (RdA.close (bc_len _ _) (bc_drop _ _)) (fun _ _ h => h)
theorem bc_part (l : List UInt8) (m u : Nat) : ((bcells l).drop ((m : Int).toNat * 1)).take ((((m : Int) + (u : Int)).toNat - (m : Int).toNat) * 1) = bcells ((l.drop m).take u) := by
  rw [show (((m : Int) + (u : Int)).toNat - (m : Int).toNat) * 1 = u by omega, show (m : Int).toNat * 1 = m by omega]
  simp [bcells]
theorem txtR_le (l : List UInt8) : (txtR l).2 ≤ l.length := by
  have := numR_le l
  unfold txtR
  split
  · simp
  · dsimp only; omega
theorem text116 {p : Nat} {st : RSt} (hb : RB st) (w : World) : Fr Tryz.prog 116 #[pv p] w (RdA p st) (.string (rdT st).1) (RdA p (rdT st).2) := by
  refine enter_fr TBok (A' := RdA p (rdT st).2) (H := [.ext 12 (RdA p st)]) one_foot Tryz.func116 rfl rfl Tryz.ntmps116 [.loc p 10 0] rfl rfl ?_
  intro S
  refine Run.open (α := Option Addr × Nat) (A := []) (B := []) (fun z => RdH p st z ++ []) (fun w S h => RdA.open (X := []) (Y := []) h) ?_
  rintro ⟨a, cap⟩
  cases st with
  | none =>
    dsimp only [RdH, List.cons_append, List.nil_append]
    conv => whnf
    repeat' (first
    | ((with_reducible refine r_seq (fun KS hS => ?_)))
    | ((with_reducible refine r_region ?_); conv => whnf)
    | ((with_reducible refine r_cond (fun KA hA KB hB => ?_)); conv => whnf)
    | ((with_reducible refine hS _ _ ?_); clear hS KS)
    | ((with_reducible refine hA _ ?_); clear hA KA)
    | ((with_reducible refine hB _ ?_); clear hB KB)
    | ((with_reducible refine r_block ?_))
    | ((with_reducible refine r_ret ?_); conv => whnf)
    | ((with_reducible refine r_skip ?_); conv => whnf)
    | ((with_reducible refine r_exit ?_); conv => whnf)
    | ((with_reducible refine WrapK.i64 ?_ ?_); (focus omega); conv => whnf)
    | ((with_reducible refine And.intro rfl ?_); conv => whnf)
    | ((with_reducible intro b); conv => whnf)
    | (apply in198; refine Tryz.ntmps198; rfl; rfl; rfl; intro A; conv => whnf)
    | (apply in193; refine Tryz.ntmps193; rfl; rfl; rfl; intro A; conv => whnf)
    | ((with_reducible apply OpK.more); (focus refine sok); (conv => whnf); fail_if_success guard_target =ₛ False)
    | ((with_reducible refine InAt.mk (fun K' hK => ?_)); conv => whnf)
    | ((with_reducible refine AnyAt.mk (fun K' hK => ?_)); conv => whnf)
    | ((with_reducible refine hK _ ?_); clear hK K'; conv => whnf)
    | ((with_reducible refine hK _ _ ?_); clear hK K'; conv => whnf)
    | ((refine And.intro ?_ ?_); all_goals (conv => whnf))
    | (apply r_quiet; refine mixed; kernel_rfl; kernel_rfl; kernel_rfl; conv => whnf)
    | ((refine if_t ?_ ?_); (focus decide); conv => whnf)
    | ((refine if_f ?_ ?_); (focus decide); conv => whnf)
    | ((refine if_decT ?_ ?_); (focus omega); conv => whnf)
    | ((refine if_decF ?_ ?_); (focus omega); conv => whnf)
    | ((refine if_ndecT ?_ ?_); (focus omega); conv => whnf)
    | ((refine if_ndecF ?_ ?_); (focus omega); conv => whnf)
    | ((refine if_dec (fun h => ?_) (fun h => ?_)); all_goals (conv => whnf))
    | ((refine if_ndec (fun h => ?_) (fun h => ?_)); all_goals (conv => whnf))
    | ((refine if_cond (fun h => ?_) (fun h => ?_)); all_goals (conv => whnf))
    | ((with_reducible apply_assumption -symm -exfalso)))
    exact FinK.fr (y := .ext 0 (RdA p none)) rfl RdA.closeN (fun _ _ h => h)
  | some l =>
    have hl := hb l rfl
    have hR := numR_le l
    have hlt := numR_lt l
    dsimp only [RdH, List.cons_append, List.nil_append]
    conv => whnf
    repeat' (first
    | ((with_reducible refine r_seq (fun KS hS => ?_)))
    | ((with_reducible refine r_region ?_); conv => whnf)
    | ((with_reducible refine r_cond (fun KA hA KB hB => ?_)); conv => whnf)
    | ((with_reducible refine hS _ _ ?_); clear hS KS)
    | ((with_reducible refine hA _ ?_); clear hA KA)
    | ((with_reducible refine hB _ ?_); clear hB KB)
    | ((with_reducible refine r_block ?_))
    | ((with_reducible refine r_ret ?_); conv => whnf)
    | ((with_reducible refine r_skip ?_); conv => whnf)
    | ((with_reducible refine r_exit ?_); conv => whnf)
    | ((with_reducible refine WrapK.i64 ?_ ?_); (focus omega); conv => whnf)
    | ((with_reducible refine And.intro rfl ?_); conv => whnf)
    | ((with_reducible intro b); conv => whnf)
    | (apply in198; refine Tryz.ntmps198; rfl; rfl; rfl; intro A; conv => whnf)
    | (apply in193; refine Tryz.ntmps193; rfl; rfl; rfl; intro A; conv => whnf)
    | (apply in199; refine Tryz.ntmps199; rfl; rfl; rfl; intro A; conv => whnf)
    | (refine CallK.puW (fun ms w hk => number196 (l := l) (Sees.rd (Sees.ext (by repeat (first | with_reducible apply At.head | apply At.tail))) hk) (by omega)) ?_; conv => whnf)
    | (refine WrapK.eq (IntWalk.u64_in _ (by omega)) ?_; conv => whnf)
    | (refine OpK.slR (t := 97) (lo := some (.tmp 32)) (k := 1) rfl rfl rfl rfl rfl rfl (Sees.ext (by repeat (first | with_reducible apply At.head | apply At.tail))) ?_; conv => whnf)
    | (refine ⟨by omega, by omega, by omega, fun a' hsee => ?_⟩; conv => whnf)
    | (refine OpK.cvBS' rfl rfl rfl rfl rfl rfl rfl rfl hsee (bc_part _ _ _) ?_; conv => whnf)
    | (refine OpK.slE (k := 1) rfl rfl rfl rfl rfl rfl (by repeat (first | with_reducible apply At.head | apply At.tail)) ?_; conv => whnf)
    | (refine ⟨by omega, by omega, by omega, fun a' => ?_⟩; conv => whnf)
    | ((with_reducible apply OpK.more); (focus refine sok); (conv => whnf); fail_if_success guard_target =ₛ False)
    | ((with_reducible refine InAt.mk (fun K' hK => ?_)); conv => whnf)
    | ((with_reducible refine AnyAt.mk (fun K' hK => ?_)); conv => whnf)
    | ((with_reducible refine hK _ ?_); clear hK K'; conv => whnf)
    | ((with_reducible refine hK _ _ ?_); clear hK K'; conv => whnf)
    | ((refine And.intro ?_ ?_); all_goals (conv => whnf))
    | (apply r_quiet; refine mixed; kernel_rfl; kernel_rfl; kernel_rfl; conv => whnf)
    | ((refine if_t ?_ ?_); (focus decide); conv => whnf)
    | ((refine if_f ?_ ?_); (focus decide); conv => whnf)
    | ((refine if_decT ?_ ?_); (focus omega); conv => whnf)
    | ((refine if_decF ?_ ?_); (focus omega); conv => whnf)
    | ((refine if_ndecT ?_ ?_); (focus omega); conv => whnf)
    | ((refine if_ndecF ?_ ?_); (focus omega); conv => whnf)
    | ((refine if_dec (fun h => ?_) (fun h => ?_)); all_goals (conv => whnf))
    | ((refine if_ndec (fun h => ?_) (fun h => ?_)); all_goals (conv => whnf))
    | ((refine if_cond (fun h => ?_) (fun h => ?_)); all_goals (conv => whnf))
    | ((with_reducible apply_assumption -symm -exfalso)))
    · have e : txtR l = (⟨#[]⟩, 0) := if_pos (by omega)
      rw [show rdT (some l) = (⟨#[]⟩, none) from if_pos (by rw [e])]
      exact FinK.fr (y := .ext 0 (RdA p none)) rfl (HSub.trans (RdA.closeN (i1 := 10)) (HSub.keep rfl (HSub.drop HSub.nil))) (fun _ _ h => h)
    · have e : txtR l = (⟨#[]⟩, 0) := if_pos (by omega)
      rw [show rdT (some l) = (⟨#[]⟩, none) from if_pos (by rw [e])]
      exact FinK.fr (y := .ext 0 (RdA p none)) rfl (HSub.trans (RdA.closeN (i1 := 10)) (HSub.keep rfl (HSub.drop HSub.nil))) (fun _ _ h => h)
    · have e : txtR l = (⟨#[]⟩, 0) := if_pos (by omega)
      rw [show rdT (some l) = (⟨#[]⟩, none) from if_pos (by rw [e])]
      exact FinK.fr (y := .ext 0 (RdA p none)) rfl (HSub.trans (RdA.closeN (i1 := 10)) (HSub.keep rfl (HSub.drop HSub.nil))) (fun _ _ h => h)
    · have e : txtR l = (⟨((l.drop (numR l).2).take (numR l).1).toArray⟩, (numR l).2 + (numR l).1) := if_neg (by omega)
      rw [show rdT (some l) = (⟨((l.drop (numR l).2).take (numR l).1).toArray⟩, some (l.drop ((numR l).2 + (numR l).1))) from (if_neg (by rw [e]; dsimp only; omega)).trans (by rw [e])]
      exact FinK.fr (y := .ext 0 (RdA p (some (l.drop ((numR l).2 + (numR l).1))))) rfl (RdA.close (bc_len l ((numR l).2 + (numR l).1)) (bc_drop l ((numR l).2 + (numR l).1))) (fun _ _ h => h)
theorem RB.drop {l : List UInt8} (h : RB (some l)) (m : Nat) : RB (some (l.drop m)) := by
  intro l' hl
  simp only [Option.some.injEq] at hl
  subst hl
  have := h l rfl
  simp; omega
theorem RB.none : RB none := fun _ h => by cases h
theorem RB.I {st : RSt} (h : RB st) : RB (rdI st).2 := by
  cases st with
  | none => exact RB.none
  | some l => simp only [rdI]; split; exact RB.none; exact h.drop _
theorem RB.T {st : RSt} (h : RB st) : RB (rdT st).2 := by
  cases st with
  | none => exact RB.none
  | some l => simp only [rdT]; split; exact RB.none; exact h.drop _
end Go.Proofs.YtbgnoibellfojaaGreatDoor
