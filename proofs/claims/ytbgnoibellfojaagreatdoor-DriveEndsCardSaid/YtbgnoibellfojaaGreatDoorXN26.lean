/- Contracts and lemmas for the claim (part XN26); no condition of its own. -/
import Derived.Test.YtbgnoibellfojaaGreatDoorXN25
set_option linter.all false
set_option linter.unusedVariables false
set_option linter.unusedSimpArgs false
set_option linter.unnecessarySimpa false
namespace Go.Proofs.YtbgnoibellfojaaGreatDoor
open Go Go.X
set_option maxRecDepth 100000
set_option maxHeartbeats 0
def itS (k : Int) : Int := if k % 4 = 3 then 0 else 1 + k / 4 % 50
def itT (k : Int) : Int := if k % 4 = 3 then 0 else k / 200 % 8
def itP (k : Int) : Int := if k % 4 = 3 then 0 else 1 + k % 3
def itM (k : Int) : Int := if k % 4 = 3 then 1 + k / 4 % 64 else 0
def itI (k : Int) : Bool := if k % 4 = 3 then decide (k / 256 % 2 = 1) else false
def itG (k : Int) : Int := if k % 4 = 3 then 1 + k / 512 % 2 else 1 + k / 1600 % 2
theorem item26 {k : Int} (hk : 0 ≤ k ∧ k ≤ 65535) (w : World) : Pu Tryz.prog 26 #[.int .u16 k] w (.agg #[.int .i64 (itS k), .int .i64 (itT k), .int .i64 (itP k), .int .i64 (itM k), .bool (itI k), .int .i64 (itG k)]) := by
  refine enter_sound TBok Tryz.func26 rfl rfl Tryz.ntmps26 [.v (.int .u16 k)] (Kn.start w noS) rfl rfl ?_
  by_cases h : k % 4 = 3
  · unfold itS itT itP itM itI itG
    rw [if_pos h, if_pos h, if_pos h, if_pos h, if_pos h, if_pos h]
    conv => whnf
    repeat' (first
    | ((with_reducible refine r_seq (fun KS hS => ?_)))
    | ((with_reducible refine r_region ?_); conv => whnf)
    | ((with_reducible refine r_cond (fun KA hA KB hB => ?_)); conv => whnf)
    | ((with_reducible refine hS _ _ ?_); clear hS KS)
    | ((with_reducible refine hA _ ?_); clear hA KA)
    | ((with_reducible refine hB _ ?_); clear hB KB)
    | ((with_reducible refine r_block ?_))
    | ((with_reducible refine r_ret ?_); conv => whnf)
    | ((with_reducible refine r_skip ?_); conv => whnf)
    | ((with_reducible refine r_exit ?_); conv => whnf)
    | ((with_reducible refine WrapK.i64 ?_ ?_); (focus omega); conv => whnf)
    | ((with_reducible refine And.intro rfl ?_); conv => whnf)
    | ((with_reducible intro b); conv => whnf)
    | ((with_reducible refine RemK.id ?_); refine RemK.eq (by omega) (IntWalk.rem_in _ _ (by omega)) ?_; conv => whnf)
    | ((with_reducible refine QuoK.id ?_); refine QuoK.eq (by omega) (IntWalk.i64_quo _ _ (by omega)) ?_; conv => whnf)
    | ((with_reducible apply OpK.more); (focus refine sok); (conv => whnf); fail_if_success guard_target =ₛ False)
    | ((with_reducible refine InAt.mk (fun K' hK => ?_)); conv => whnf)
    | ((with_reducible refine AnyAt.mk (fun K' hK => ?_)); conv => whnf)
    | ((with_reducible refine hK _ ?_); clear hK K'; conv => whnf)
    | ((with_reducible refine hK _ _ ?_); clear hK K'; conv => whnf)
    | ((refine And.intro ?_ ?_); all_goals (conv => whnf))
    | (apply r_quiet; refine mixed; kernel_rfl; kernel_rfl; kernel_rfl; conv => whnf)
    | ((refine if_t ?_ ?_); (focus decide); conv => whnf)
    | ((refine if_f ?_ ?_); (focus decide); conv => whnf)
    | ((refine if_decT ?_ ?_); (focus omega); conv => whnf)
    | ((refine if_decF ?_ ?_); (focus omega); conv => whnf)
    | ((refine if_ndecT ?_ ?_); (focus omega); conv => whnf)
    | ((refine if_ndecF ?_ ?_); (focus omega); conv => whnf)
    | ((refine if_dec (fun h => ?_) (fun h => ?_)); all_goals (conv => whnf))
    | ((refine if_ndec (fun h => ?_) (fun h => ?_)); all_goals (conv => whnf))
    | ((refine if_cond (fun h => ?_) (fun h => ?_)); all_goals (conv => whnf))
    | ((with_reducible apply_assumption -symm -exfalso)))
    all_goals exact FinK.pu rfl
  · unfold itS itT itP itM itI itG
    rw [if_neg h, if_neg h, if_neg h, if_neg h, if_neg h, if_neg h]
    conv => whnf
    repeat' (first
    | ((with_reducible refine r_seq (fun KS hS => ?_)))
    | ((with_reducible refine r_region ?_); conv => whnf)
    | ((with_reducible refine r_cond (fun KA hA KB hB => ?_)); conv => whnf)
    | ((with_reducible refine hS _ _ ?_); clear hS KS)
    | ((with_reducible refine hA _ ?_); clear hA KA)
    | ((with_reducible refine hB _ ?_); clear hB KB)
    | ((with_reducible refine r_block ?_))
    | ((with_reducible refine r_ret ?_); conv => whnf)
    | ((with_reducible refine r_skip ?_); conv => whnf)
    | ((with_reducible refine r_exit ?_); conv => whnf)
    | ((with_reducible refine WrapK.i64 ?_ ?_); (focus omega); conv => whnf)
    | ((with_reducible refine And.intro rfl ?_); conv => whnf)
    | ((with_reducible intro b); conv => whnf)
    | ((with_reducible refine RemK.id ?_); refine RemK.eq (by omega) (IntWalk.rem_in _ _ (by omega)) ?_; conv => whnf)
    | ((with_reducible refine QuoK.id ?_); refine QuoK.eq (by omega) (IntWalk.i64_quo _ _ (by omega)) ?_; conv => whnf)
    | ((with_reducible apply OpK.more); (focus refine sok); (conv => whnf); fail_if_success guard_target =ₛ False)
    | ((with_reducible refine InAt.mk (fun K' hK => ?_)); conv => whnf)
    | ((with_reducible refine AnyAt.mk (fun K' hK => ?_)); conv => whnf)
    | ((with_reducible refine hK _ ?_); clear hK K'; conv => whnf)
    | ((with_reducible refine hK _ _ ?_); clear hK K'; conv => whnf)
    | ((refine And.intro ?_ ?_); all_goals (conv => whnf))
    | (apply r_quiet; refine mixed; kernel_rfl; kernel_rfl; kernel_rfl; conv => whnf)
    | ((refine if_t ?_ ?_); (focus decide); conv => whnf)
    | ((refine if_f ?_ ?_); (focus decide); conv => whnf)
    | ((refine if_decT ?_ ?_); (focus omega); conv => whnf)
    | ((refine if_decF ?_ ?_); (focus omega); conv => whnf)
    | ((refine if_ndecT ?_ ?_); (focus omega); conv => whnf)
    | ((refine if_ndecF ?_ ?_); (focus omega); conv => whnf)
    | ((refine if_dec (fun h => ?_) (fun h => ?_)); all_goals (conv => whnf))
    | ((refine if_ndec (fun h => ?_) (fun h => ?_)); all_goals (conv => whnf))
    | ((refine if_cond (fun h => ?_) (fun h => ?_)); all_goals (conv => whnf))
    | ((with_reducible apply_assumption -symm -exfalso)))
    all_goals exact FinK.pu rfl
theorem itemFor {k : Int} (hk : 0 ≤ k ∧ k ≤ 65535) : ∃ (kd : Int) (key : ByteArray) (dl : Int) (fr data : ByteArray) (num : Nat) (enc : List UInt8), CmdFor (itS k) (itT k) (itP k) (itM k) (itI k) (itG k) kd key dl fr data num enc ∧ itG k ≤ 2 := by
  unfold itS itT itP itM itI itG
  by_cases h : k % 4 = 3
  · rw [if_pos h, if_pos h, if_pos h, if_pos h, if_pos h, if_pos h]
    obtain ⟨m, hm⟩ : ∃ m : Nat, (1 + k / 4 % 64 : Int) = m := ⟨(1 + k / 4 % 64).toNat, by omega⟩
    obtain ⟨g, hg⟩ : ∃ g : Nat, (1 + k / 512 % 2 : Int) = g := ⟨(1 + k / 512 % 2).toNat, by omega⟩
    rw [hm, hg]
    cases hi : decide (k / 256 % 2 = 1) with
    | true => exact ⟨_, _, _, _, _, _, _, forIn (by omega) (by omega), by omega⟩
    | false => exact ⟨_, _, _, _, _, _, _, forOut (by omega) (by omega), by omega⟩
  · rw [if_neg h, if_neg h, if_neg h, if_neg h, if_neg h, if_neg h]
    obtain ⟨s, hs⟩ : ∃ s : Nat, (1 + k / 4 % 50 : Int) = s := ⟨(1 + k / 4 % 50).toNat, by omega⟩
    obtain ⟨t, ht⟩ : ∃ t : Nat, (k / 200 % 8 : Int) = t := ⟨(k / 200 % 8).toNat, by omega⟩
    obtain ⟨p, hp⟩ : ∃ p : Nat, (1 + k % 3 : Int) = p := ⟨(1 + k % 3).toNat, by omega⟩
    obtain ⟨g, hg⟩ : ∃ g : Nat, (1 + k / 1600 % 2 : Int) = g := ⟨(1 + k / 1600 % 2).toNat, by omega⟩
    rw [hs, ht, hp, hg]
    exact ⟨_, _, _, _, _, _, _, forEff (by unfold EffOk; omega) (by omega), by omega⟩
theorem newCall {nn : Nat} {W : World} {S : Nat → Prop} {r : Option Nat} {H : List Blk} {nx : K1} {n gs : Int} (hn : 1 ≤ n ∧ n ≤ 7) (hg : 2 ≤ gs ∧ gs ≤ 8) (hx : ∀ z : Nat × Nat, nx (.v (.tuple #[pv z.1, .int .i64 0])) (.blk 3 z.1 (DC n gs 0 z.2) 81 :: .ext 4 (MpA z.2 [] 0) :: H)) : CallK ⟨Tryz.prog, TB, nn, W, S, r, TBok⟩ 11 [.v (.int .i64 n), .v (.int .i64 gs)] H nx :=
  CallK.frL (v := fun z : Nat × Nat => .tuple #[pv z.1, .int .i64 0]) (L0 := []) (L := []) (R := H) Sel.nil HSub.nil (fun _ w _ => FrZ.pre (new11 (n := n) (gs := gs) hn hg w) (fun S h => by cases h; exact fun _ h => h))
    (M' := fun z => [.blk 3 z.1 (DC n gs 0 z.2) 81, .ext 4 (MpA z.2 [] 0)]) (fun z => HSub.keep rfl (HSub.ext (fun _ _ h => h) HSub.nil)) hx
/-- the first tick with one item, by 'every'; what is kept: the questions, the item and the driver -/
theorem tickCall {nn : Nat} {W : World} {S : Nat → Prop} {r : Option Nat} {H R : List Blk} {nx : K1} {s t p m : Int} {i : Bool} {g kd : Int} {key : ByteArray} {dl : Int} {fr data : ByteArray} {num : Nat} {enc : List UInt8} (hC : CmdFor s t p m i g kd key dl fr data num enc) {n gs me : Int} {d mp bi i1 i1' i3 i4 to : Nat} {c1 c3 : List SV} (hn7 : 1 ≤ n ∧ n ≤ 7) (hgs : g < gs) (hme : 0 ≤ me ∧ me < n) (hto : (to : Int) = g * n)
    (hs : Sel H [.blk i1 bi c1 48, .ext i4 (MpA mp [] 0), .blk i3 d c3 81] R) (e1 : denL c1 = denL [.v (.int .i64 s), .v (.int .i64 t), .v (.int .i64 p), .v (.int .i64 m), .v (.bool i), .v (.int .i64 g)]) (e3 : denL c3 = denL (DC n gs 0 mp))
    (hx : ∀ z : Option Addr × Nat, nx (.v (.slice z.1 1 z.2)) (.ext 70 (SlA 26 9 z.1 1 z.2 [.int .i64 10, .int .i64 me, .int .i64 (to : Nat), .int .i64 0, .int .i64 0, .int .i64 0, .int .i64 (num : Nat), .string ⟨enc.toArray⟩, .slice none 0 0]) :: .blk i3 d (DC n gs 1 mp) 81 :: R)) : CallK ⟨Tryz.prog, TB, nn, W, S, r, TBok⟩ 24 [.v (pv d), .v (.int .i64 me), .slc bi i1' 0 1 1, .fn 27 []] H nx := by
  have hmod : (0 : Int) % n = 0 := Int.zero_emod n
  refine CallK.frL (v := fun z : Option Addr × Nat => .slice z.1 1 z.2) (L0 := [.blk 9 bi [.v (.int .i64 s), .v (.int .i64 t), .v (.int .i64 p), .v (.int .i64 m), .v (.bool i), .v (.int .i64 g)] 48, .ext 4 (MpA mp [] 0), .blk 3 d (DC n gs 0 mp) 81]) hs (HSub.keep e1 (HSub.ext (fun _ _ h => h) (HSub.keep e3 HSub.nil))) (fun _ w _ => tickFirstC24 hC (tk := 0) (clk := 0) hn7 hgs hme (by omega) w)
    (M' := fun z => [.ext 70 (SlA 26 9 z.1 1 z.2 [.int .i64 10, .int .i64 me, .int .i64 (to : Nat), .int .i64 0, .int .i64 0, .int .i64 0, .int .i64 (num : Nat), .string ⟨enc.toArray⟩, .slice none 0 0]), .blk i3 d (DC n gs 1 mp) 81]) (fun z => HSub.ext (fun _ _ h => ?_) (HSub.drop (HSub.drop (HSub.keep rfl HSub.nil)))) hx
  rw [hmod, Int.add_zero, ← hto] at h
  exact h
theorem i9Q {me : Int} {to num : Nat} {enc : List UInt8} : (List.drop ((0 : Int).toNat * 9) [Value.int .i64 10, .int .i64 me, .int .i64 (to : Nat), .int .i64 0, .int .i64 0, .int .i64 0, .int .i64 (num : Nat), .string ⟨enc.toArray⟩, .slice none 0 0]).take 9 = denL [.v (.int .i64 10), .v (.int .i64 me), .v (.int .i64 (to : Nat)), .v (.int .i64 0), .v (.int .i64 0), .v (.int .i64 0), .v (.int .i64 (num : Nat)), .v (.string ⟨enc.toArray⟩), .v (.slice none 0 0)] := rfl
theorem toOk {g n : Int} (hg : 1 ≤ g ∧ g ≤ 7) (hn : 1 ≤ n ∧ n ≤ 7) : ∃ to : Nat, (to : Int) = g * n ∧ (to : Int) / n = g ∧ n ≤ to ∧ to ≤ 49 := by
  have h1 : 0 ≤ g * n := Int.mul_nonneg (by omega) (by omega)
  have h2 : g * n ≤ 7 * 7 := Int.mul_le_mul hg.2 hn.2 (by omega) (by omega)
  have h3 : 1 * n ≤ g * n := Int.mul_le_mul_of_nonneg_right hg.1 (by omega)
  exact ⟨(g * n).toNat, by omega, by rw [Int.toNat_of_nonneg h1]; exact Int.mul_ediv_cancel g (by omega), by omega, by omega⟩
theorem rlOk {e : Nat} {rn : Int} {rx : ByteArray} (he : e ≤ 18) (hrn : -2147483648 ≤ rn ∧ rn ≤ 2147483647) (hrx : rx.size ≤ 60000) : (uvar e ++ uvar (zigN rn) ++ uvar rx.size ++ rx.data.toList).length ≤ 65536 := by
  have h1 := uv1 (n := e) (by omega)
  have h2 := uvar_len (zigN rn) 4 (by unfold zigN; split <;> omega)
  have h3 := uvar_len rx.size 2 (by omega)
  have h4 : rx.data.toList.length = rx.size := str_len rx
  simp only [List.length_append]
  omega
end Go.Proofs.YtbgnoibellfojaaGreatDoor

