/- Contracts and lemmas for the claim (part XN29); no condition of its own. -/
import Derived.Test.YtbgnoibellfojaaGreatDoorXN28
import Derived.Test.YtbgnoibellfojaaGreatDoorXE36
set_option linter.all false
set_option linter.unusedVariables false
set_option linter.unusedSimpArgs false
set_option linter.unnecessarySimpa false
namespace Go.Proofs.YtbgnoibellfojaaGreatDoor
open Go Go.X
set_option maxRecDepth 100000
set_option maxHeartbeats 0
theorem answer2E31 {s t p m : Int} {i : Bool} {g kd : Int} {key : ByteArray} {dl : Int} {fr data : ByteArray} {num : Nat} {enc : List UInt8} (hC : CmdFor s t p m i g kd key dl fr data num enc) {s2 t2 p2 m2 : Int} {i2 : Bool} {g2 : Int} (hy : ItemOk s2 t2 p2 m2 i2 g2) (hne : ¬ itemNum s2 t2 p2 m2 i2 g2 = (num : Int)) {e : Nat} {rn : Int} {rx : ByteArray} (he : 0 ≤ (e : Int) ∧ (e : Int) ≤ 18) (hrn : NumOk rn) (hrx : rx.size ≤ 65536) (hrl : (uvar e ++ uvar (zigN rn) ++ uvar rx.size ++ rx.data.toList).length ≤ 65536) :
    ∃ (r0 r1 r2 r3 r4 : Int) (r5 : Bool) (r6 r7 : Int) (r8 : ByteArray) (rb : Bool), (∀ {w : World} {d bi f to : Nat} {n gs tk : Int} {mp : Nat} {S0 : Nat → Prop}, Rdd w [.blk 9 bi [.v (.int .i64 s2), .v (.int .i64 t2), .v (.int .i64 p2), .v (.int .i64 m2), .v (.bool i2), .v (.int .i64 g2), .v (.int .i64 s), .v (.int .i64 t), .v (.int .i64 p), .v (.int .i64 m), .v (.bool i), .v (.int .i64 g)] 48, .blk 3 d (DC n gs tk mp) 81] S0 → KAt w → 1 ≤ n ∧ n ≤ 7 → g < gs → (f : Int) < n → (to : Int) / n = g → to ≤ 55 → f < to ∨ to < f →
      Pu Tryz.prog 31 #[pv d, .agg #[.int .i64 11, .int .i64 (to : Nat), .int .i64 (f : Nat), .int .i64 0, .int .i64 0, .int .i64 0, .int .i64 (num : Nat), .string ⟨(uvar e ++ uvar (zigN rn) ++ uvar rx.size ++ rx.data.toList).toArray⟩, .slice none 0 0], .slice (some ⟨bi, 0, none⟩) 2 2] w (.tuple #[.agg #[.int .i64 r0, .int .i64 0, .int .i64 0, .int .i64 0, .int .i64 0, .int .i64 0, .string ⟨#[]⟩, .int .i64 0, .int .i64 0, .string ⟨#[]⟩, .string ⟨#[]⟩, .int .i64 0, .string ⟨#[]⟩, .int .i64 0, .int .i64 0, .slice none 0 0, .int .i64 r1, .int .i64 r2, .int .i64 r3, .int .i64 r4, .bool r5, .int .i64 r6, .int .i64 r7, .string r8], .bool rb])) ∧
      ((true = rb ∧ 15 = r0 ∧ s = r1 ∧ t = r2 ∧ p = r3 ∧ m = r4 ∧ i = r5 ∧ g = r6 ∧ (e : Int) = r7 ∧ ((0 < m ∧ i = false ∧ e = 0 ∧ rx = r8) ∨ (¬ 0 < m ∧ ⟨#[]⟩ = r8) ∨ (0 < m ∧ i = true ∧ e = 0 ∧ ⟨#[]⟩ = r8))) ∨ (false = rb ∧ 0 < m ∧ ¬ e = 0 ∧ 0 = r0 ∧ 0 = r1 ∧ 0 = r2 ∧ 0 = r3 ∧ 0 = r4 ∧ false = r5 ∧ 0 = r6 ∧ 0 = r7 ∧ ⟨#[]⟩ = r8)) := by
  have hit := hC.item
  rcases hit.2.2 with ⟨hm, hi, _⟩ | ⟨hm, _⟩
  · refine ⟨15, s, t, p, m, i, g, e, ⟨#[]⟩, true, fun hd hka hn7 hgs hf hto hto2 hft => answer2A31 hC hy hne hd hka hn7 hgs hf hto hto2 hft he hrn hrx hrl hm, .inl ⟨rfl, rfl, rfl, rfl, rfl, rfl, rfl, rfl, rfl, .inr (.inl ⟨by omega, rfl⟩)⟩⟩
  by_cases he0 : e = 0
  · by_cases hi : i = true
    · refine ⟨15, s, t, p, m, i, g, e, ⟨#[]⟩, true, fun hd hka hn7 hgs hf hto hto2 hft => answer2B31 hC hy hne hd hka hn7 hgs hf hto hto2 hft he hrn hrx hrl hm he0 hi, .inl ⟨rfl, rfl, rfl, rfl, rfl, rfl, rfl, rfl, rfl, .inr (.inr ⟨by omega, hi, he0, rfl⟩)⟩⟩
    · have hi' : i = false := by simpa using hi
      refine ⟨15, s, t, p, m, i, g, e, rx, true, fun hd hka hn7 hgs hf hto hto2 hft => answer2C31 hC hy hne hd hka hn7 hgs hf hto hto2 hft he hrn hrx hrl hm he0 hi', .inl ⟨rfl, rfl, rfl, rfl, rfl, rfl, rfl, rfl, rfl, .inl ⟨by omega, hi', he0, rfl⟩⟩⟩
  · exact ⟨0, 0, 0, 0, 0, false, 0, 0, ⟨#[]⟩, false, fun hd hka hn7 hgs hf hto hto2 hft => answer2D31 hC hy hne hd hka hn7 hgs hf hto hto2 hft he hrn hrx hrl hm he0, .inr ⟨rfl, by omega, he0, rfl, rfl, rfl, rfl, rfl, rfl, rfl, rfl, rfl⟩⟩
theorem itemOkK {k : Int} (hk : 0 ≤ k ∧ k ≤ 65535) : ItemOk (itS k) (itT k) (itP k) (itM k) (itI k) (itG k) := by
  obtain ⟨_, _, _, _, _, _, _, h, _⟩ := itemFor hk
  exact h.item
theorem itemNe {k k2 : Int} (hk : 0 ≤ k ∧ k ≤ 65535) (hk2 : (k < 65535 ∧ k2 = k + 1) ∨ (k = 65535 ∧ k2 = 0)) : (¬ itP k2 = itP k ∨ ¬ itM k2 = itM k) ∧ ¬ itemNum (itS k2) (itT k2) (itP k2) (itM k2) (itI k2) (itG k2) = itemNum (itS k) (itT k) (itP k) (itM k) (itI k) (itG k) := by
  have ok1 := itemOkK hk
  have ok2 := itemOkK (k := k2) (by omega)
  have hpm : ¬ itP k2 = itP k ∨ ¬ itM k2 = itM k := by
    unfold itP itM
    by_cases h : k % 4 = 3
    · have h2 : ¬ k2 % 4 = 3 := by omega
      rw [if_pos h, if_neg h2, if_pos h, if_neg h2]
      omega
    · by_cases h2 : k2 % 4 = 3
      · rw [if_neg h, if_pos h2, if_neg h, if_pos h2]
        omega
      · rw [if_neg h, if_neg h2, if_neg h, if_neg h2]
        omega
  refine ⟨hpm, ?_⟩
  generalize itS k = s at ok1 hpm ⊢
  generalize itT k = t at ok1 hpm ⊢
  generalize itP k = p at ok1 hpm ⊢
  generalize itM k = m at ok1 hpm ⊢
  generalize itI k = i at ok1 hpm ⊢
  generalize itG k = g at ok1 hpm ⊢
  generalize itS k2 = s2 at ok2 hpm ⊢
  generalize itT k2 = t2 at ok2 hpm ⊢
  generalize itP k2 = p2 at ok2 hpm ⊢
  generalize itM k2 = m2 at ok2 hpm ⊢
  generalize itI k2 = i2 at ok2 hpm ⊢
  generalize itG k2 = g2 at ok2 hpm ⊢
  unfold itemNum
  obtain ⟨a1, a2, a3⟩ := ok1
  obtain ⟨c1, c2, c3⟩ := ok2
  rcases a3 with ⟨rfl, rfl, a3⟩ | ⟨a3, a4, rfl, rfl, rfl⟩ <;> rcases c3 with ⟨rfl, rfl, c3⟩ | ⟨c3, c4, rfl, rfl, rfl⟩
  · unfold EffOk at a3 c3
    rw [if_pos rfl, if_pos rfl]
    omega
  · unfold EffOk at a3
    rw [if_neg (show ¬ m2 = 0 by omega), if_pos rfl]
    cases i2 <;> simp <;> omega
  · unfold EffOk at c3
    rw [if_pos rfl, if_neg (show ¬ m = 0 by omega)]
    cases i <;> simp <;> omega
  · rw [if_neg (show ¬ m2 = 0 by omega), if_neg (show ¬ m = 0 by omega)]
    cases i <;> cases i2 <;> simp <;> omega
end Go.Proofs.YtbgnoibellfojaaGreatDoor

