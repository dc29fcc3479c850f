/- Contracts and lemmas for the claim (part XN23); no condition of its own. -/
import Derived.Test.YtbgnoibellfojaaGreatDoorXM7
import Derived.Test.YtbgnoibellfojaaGreatDoorXT
import Derived.Test.YtbgnoibellfojaaGreatDoorXB
set_option linter.all false
set_option linter.unusedVariables false
set_option linter.unusedSimpArgs false
set_option linter.unnecessarySimpa false
namespace Go.Proofs.YtbgnoibellfojaaGreatDoor
open Go Go.X
set_option maxRecDepth 100000
set_option maxHeartbeats 0
/-- an item, and the command that 'every' gives for it -/
structure CmdFor (s t p m : Int) (i : Bool) (g kd : Int) (key : ByteArray) (dl : Int) (fr data : ByteArray) (num : Nat) (enc : List UInt8) : Prop where
  item : ItemOk s t p m i g
  numEq : (num : Int) = itemNum s t p m i g
  every : ∀ w, Pu Tryz.prog 27 #[.agg #[.int .i64 s, .int .i64 t, .int .i64 p, .int .i64 m, .bool i, .int .i64 g]] w (.tuple #[.agg #[.int .i64 kd, .int .i64 0, .int .i64 0, .int .i64 s, .int .i64 t, .int .i64 p, .string key, .int .i64 dl, .int .i64 m, .string fr, .string ⟨#[]⟩, .int .i64 0, .string ⟨#[]⟩, .int .i64 0, .int .i64 0, .slice none 0 0, .int .i64 0, .int .i64 0, .int .i64 0, .int .i64 0, .bool false, .int .i64 0, .int .i64 0, .string data], .bool true])
  fits : ∀ w, Pu Tryz.prog 61 #[.agg #[.int .i64 kd, .int .i64 0, .int .i64 0, .int .i64 s, .int .i64 t, .int .i64 p, .string key, .int .i64 dl, .int .i64 m, .string fr, .string ⟨#[]⟩, .int .i64 0, .string ⟨#[]⟩, .int .i64 0, .int .i64 0, .slice none 0 0, .int .i64 0, .int .i64 0, .int .i64 0, .int .i64 0, .bool false, .int .i64 0, .int .i64 0, .string data], .agg #[.int .i64 s, .int .i64 t, .int .i64 p, .int .i64 m, .bool i, .int .i64 g]] w (.bool true)
  encode : ∀ w, FrZ Tryz.prog 62 #[.agg #[.int .i64 kd, .int .i64 0, .int .i64 0, .int .i64 s, .int .i64 t, .int .i64 p, .string key, .int .i64 dl, .int .i64 m, .string fr, .string ⟨#[]⟩, .int .i64 0, .string ⟨#[]⟩, .int .i64 0, .int .i64 0, .slice none 0 0, .int .i64 0, .int .i64 0, .int .i64 0, .int .i64 0, .bool false, .int .i64 0, .int .i64 0, .string data]] w emp (fun z : Option Addr × Nat => .tuple #[.slice z.1 enc.length z.2, .int .i64 0]) (fun z => SlA 5 1 z.1 enc.length z.2 (bcells enc))
  len : enc.length ≤ 65536
  question : ∀ {w : World} {d f to : Nat} {n gs tk : Int} {mp : Nat}, DAt w d n gs tk mp → KAt w → 1 ≤ n ∧ n ≤ 7 → g < gs → (f : Int) < n → (to : Int) / n = g → to ≤ 55 → f < to ∨ to < f → Pu Tryz.prog 41 #[pv d, .agg #[.int .i64 10, .int .i64 (f : Nat), .int .i64 (to : Nat), .int .i64 0, .int .i64 0, .int .i64 0, .int .i64 (num : Nat), .string ⟨enc.toArray⟩, .slice none 0 0]] w (.tuple #[.agg #[.int .i64 s, .int .i64 t, .int .i64 p, .int .i64 m, .bool i, .int .i64 g], .agg #[.int .i64 kd, .int .i64 0, .int .i64 0, .int .i64 s, .int .i64 t, .int .i64 p, .string key, .int .i64 dl, .int .i64 m, .string fr, .string ⟨#[]⟩, .int .i64 0, .string ⟨#[]⟩, .int .i64 0, .int .i64 0, .slice none 0 0, .int .i64 0, .int .i64 0, .int .i64 0, .int .i64 0, .bool false, .int .i64 0, .int .i64 0, .string data], .bool true])

theorem everyEff27 {s t p g : Int} (h : EffOk s t p) (hg : 1 ≤ g ∧ g ≤ 7) (w : World) : Pu Tryz.prog 27 #[.agg #[.int .i64 s, .int .i64 t, .int .i64 p, .int .i64 0, .bool false, .int .i64 g]] w (.tuple #[.agg #[.int .i64 1, .int .i64 0, .int .i64 0, .int .i64 s, .int .i64 t, .int .i64 p, .string ⟨#[107]⟩, .int .i64 (1 + t), .int .i64 0, .string ⟨#[]⟩, .string ⟨#[]⟩, .int .i64 0, .string ⟨#[]⟩, .int .i64 0, .int .i64 0, .slice none 0 0, .int .i64 0, .int .i64 0, .int .i64 0, .int .i64 0, .bool false, .int .i64 0, .int .i64 0, .string ⟨#[]⟩], .bool true]) := by
  refine enter_sound TBok Tryz.func27 rfl rfl Tryz.ntmps27 [.agg [.v (.int .i64 s), .v (.int .i64 t), .v (.int .i64 p), .v (.int .i64 0), .v (.bool false), .v (.int .i64 g)]] (Kn.start w noS) rfl rfl ?_
  conv => whnf
  repeat' (first
    | ((with_reducible refine r_seq (fun KS hS => ?_)))
    | ((with_reducible refine r_region ?_); conv => whnf)
    | ((with_reducible refine r_cond (fun KA hA KB hB => ?_)); conv => whnf)
    | ((with_reducible refine hS _ _ ?_); clear hS KS)
    | ((with_reducible refine hA _ ?_); clear hA KA)
    | ((with_reducible refine hB _ ?_); clear hB KB)
    | ((with_reducible refine r_block ?_))
    | ((with_reducible refine r_ret ?_); conv => whnf)
    | ((with_reducible refine r_skip ?_); conv => whnf)
    | ((with_reducible refine r_exit ?_); conv => whnf)
    | ((with_reducible refine WrapK.i64 ?_ ?_); (focus omega); conv => whnf)
    | ((with_reducible refine And.intro rfl ?_); conv => whnf)
    | ((with_reducible intro b); conv => whnf)
    | (apply r_any (id := 1); refine mixed; kernel_rfl; kernel_rfl; conv => whnf)
    | (apply in36; refine Tryz.ntmps36; rfl; rfl; rfl; intro A; conv => whnf)
    | ((with_reducible refine CallK.at 72 ?_); refine CallK.puW (fun ms w hk => cmdEff72 (hk.got (by repeat (first | constructor | apply List.Mem.tail))) h hg) ?_; conv => whnf)
    | ((with_reducible apply OpK.more); (focus refine sok); (conv => whnf); fail_if_success guard_target =ₛ False)
    | ((with_reducible refine InAt.mk (fun K' hK => ?_)); conv => whnf)
    | ((with_reducible refine AnyAt.mk (fun K' hK => ?_)); conv => whnf)
    | ((with_reducible refine hK _ ?_); clear hK K'; conv => whnf)
    | ((with_reducible refine hK _ _ ?_); clear hK K'; conv => whnf)
    | ((refine And.intro ?_ ?_); all_goals (conv => whnf))
    | (apply r_quiet; refine mixed; kernel_rfl; kernel_rfl; kernel_rfl; conv => whnf)
    | ((refine if_t ?_ ?_); (focus decide); conv => whnf)
    | ((refine if_f ?_ ?_); (focus decide); conv => whnf)
    | ((refine if_decT ?_ ?_); (focus omega); conv => whnf)
    | ((refine if_decF ?_ ?_); (focus omega); conv => whnf)
    | ((refine if_ndecT ?_ ?_); (focus omega); conv => whnf)
    | ((refine if_ndecF ?_ ?_); (focus omega); conv => whnf)
    | ((refine if_dec (fun h => ?_) (fun h => ?_)); all_goals (conv => whnf))
    | ((refine if_ndec (fun h => ?_) (fun h => ?_)); all_goals (conv => whnf))
    | ((refine if_cond (fun h => ?_) (fun h => ?_)); all_goals (conv => whnf))
    | ((with_reducible apply_assumption -symm -exfalso)))
  all_goals exact FinK.pu rfl

theorem everyOut27 {m g : Int} (h : 1 ≤ m ∧ m ≤ 64) (hg : 1 ≤ g ∧ g ≤ 7) (w : World) : Pu Tryz.prog 27 #[.agg #[.int .i64 0, .int .i64 0, .int .i64 0, .int .i64 m, .bool false, .int .i64 g]] w (.tuple #[.agg #[.int .i64 3, .int .i64 0, .int .i64 0, .int .i64 0, .int .i64 0, .int .i64 0, .string ⟨#[]⟩, .int .i64 0, .int .i64 m, .string ⟨#[97]⟩, .string ⟨#[]⟩, .int .i64 0, .string ⟨#[]⟩, .int .i64 0, .int .i64 0, .slice none 0 0, .int .i64 0, .int .i64 0, .int .i64 0, .int .i64 0, .bool false, .int .i64 0, .int .i64 0, .string ⟨#[]⟩], .bool true]) := by
  refine enter_sound TBok Tryz.func27 rfl rfl Tryz.ntmps27 [.agg [.v (.int .i64 0), .v (.int .i64 0), .v (.int .i64 0), .v (.int .i64 m), .v (.bool false), .v (.int .i64 g)]] (Kn.start w noS) rfl rfl ?_
  conv => whnf
  repeat' (first
    | ((with_reducible refine r_seq (fun KS hS => ?_)))
    | ((with_reducible refine r_region ?_); conv => whnf)
    | ((with_reducible refine r_cond (fun KA hA KB hB => ?_)); conv => whnf)
    | ((with_reducible refine hS _ _ ?_); clear hS KS)
    | ((with_reducible refine hA _ ?_); clear hA KA)
    | ((with_reducible refine hB _ ?_); clear hB KB)
    | ((with_reducible refine r_block ?_))
    | ((with_reducible refine r_ret ?_); conv => whnf)
    | ((with_reducible refine r_skip ?_); conv => whnf)
    | ((with_reducible refine r_exit ?_); conv => whnf)
    | ((with_reducible refine WrapK.i64 ?_ ?_); (focus omega); conv => whnf)
    | ((with_reducible refine And.intro rfl ?_); conv => whnf)
    | ((with_reducible intro b); conv => whnf)
    | (apply r_any (id := 1); refine mixed; kernel_rfl; kernel_rfl; conv => whnf)
    | (apply in36; refine Tryz.ntmps36; rfl; rfl; rfl; intro A; conv => whnf)
    | ((with_reducible refine CallK.at 72 ?_); refine CallK.puW (fun ms w hk => cmdOut72 (hk.got (by repeat (first | constructor | apply List.Mem.tail))) h hg) ?_; conv => whnf)
    | ((with_reducible apply OpK.more); (focus refine sok); (conv => whnf); fail_if_success guard_target =ₛ False)
    | ((with_reducible refine InAt.mk (fun K' hK => ?_)); conv => whnf)
    | ((with_reducible refine AnyAt.mk (fun K' hK => ?_)); conv => whnf)
    | ((with_reducible refine hK _ ?_); clear hK K'; conv => whnf)
    | ((with_reducible refine hK _ _ ?_); clear hK K'; conv => whnf)
    | ((refine And.intro ?_ ?_); all_goals (conv => whnf))
    | (apply r_quiet; refine mixed; kernel_rfl; kernel_rfl; kernel_rfl; conv => whnf)
    | ((refine if_t ?_ ?_); (focus decide); conv => whnf)
    | ((refine if_f ?_ ?_); (focus decide); conv => whnf)
    | ((refine if_decT ?_ ?_); (focus omega); conv => whnf)
    | ((refine if_decF ?_ ?_); (focus omega); conv => whnf)
    | ((refine if_ndecT ?_ ?_); (focus omega); conv => whnf)
    | ((refine if_ndecF ?_ ?_); (focus omega); conv => whnf)
    | ((refine if_dec (fun h => ?_) (fun h => ?_)); all_goals (conv => whnf))
    | ((refine if_ndec (fun h => ?_) (fun h => ?_)); all_goals (conv => whnf))
    | ((refine if_cond (fun h => ?_) (fun h => ?_)); all_goals (conv => whnf))
    | ((with_reducible apply_assumption -symm -exfalso)))
  all_goals exact FinK.pu rfl

theorem everyIn27 {m g : Int} (h : 1 ≤ m ∧ m ≤ 64) (hg : 1 ≤ g ∧ g ≤ 7) (w : World) : Pu Tryz.prog 27 #[.agg #[.int .i64 0, .int .i64 0, .int .i64 0, .int .i64 m, .bool true, .int .i64 g]] w (.tuple #[.agg #[.int .i64 4, .int .i64 0, .int .i64 0, .int .i64 0, .int .i64 0, .int .i64 0, .string ⟨#[]⟩, .int .i64 0, .int .i64 m, .string ⟨#[97]⟩, .string ⟨#[]⟩, .int .i64 0, .string ⟨#[]⟩, .int .i64 0, .int .i64 0, .slice none 0 0, .int .i64 0, .int .i64 0, .int .i64 0, .int .i64 0, .bool false, .int .i64 0, .int .i64 0, .string ⟨#[100, 97, 116, 97]⟩], .bool true]) := by
  refine enter_sound TBok Tryz.func27 rfl rfl Tryz.ntmps27 [.agg [.v (.int .i64 0), .v (.int .i64 0), .v (.int .i64 0), .v (.int .i64 m), .v (.bool true), .v (.int .i64 g)]] (Kn.start w noS) rfl rfl ?_
  conv => whnf
  repeat' (first
    | ((with_reducible refine r_seq (fun KS hS => ?_)))
    | ((with_reducible refine r_region ?_); conv => whnf)
    | ((with_reducible refine r_cond (fun KA hA KB hB => ?_)); conv => whnf)
    | ((with_reducible refine hS _ _ ?_); clear hS KS)
    | ((with_reducible refine hA _ ?_); clear hA KA)
    | ((with_reducible refine hB _ ?_); clear hB KB)
    | ((with_reducible refine r_block ?_))
    | ((with_reducible refine r_ret ?_); conv => whnf)
    | ((with_reducible refine r_skip ?_); conv => whnf)
    | ((with_reducible refine r_exit ?_); conv => whnf)
    | ((with_reducible refine WrapK.i64 ?_ ?_); (focus omega); conv => whnf)
    | ((with_reducible refine And.intro rfl ?_); conv => whnf)
    | ((with_reducible intro b); conv => whnf)
    | (apply r_any (id := 1); refine mixed; kernel_rfl; kernel_rfl; conv => whnf)
    | (apply in36; refine Tryz.ntmps36; rfl; rfl; rfl; intro A; conv => whnf)
    | ((with_reducible refine CallK.at 72 ?_); refine CallK.puW (fun ms w hk => cmdIn72 (hk.got (by repeat (first | constructor | apply List.Mem.tail))) h hg) ?_; conv => whnf)
    | ((with_reducible apply OpK.more); (focus refine sok); (conv => whnf); fail_if_success guard_target =ₛ False)
    | ((with_reducible refine InAt.mk (fun K' hK => ?_)); conv => whnf)
    | ((with_reducible refine AnyAt.mk (fun K' hK => ?_)); conv => whnf)
    | ((with_reducible refine hK _ ?_); clear hK K'; conv => whnf)
    | ((with_reducible refine hK _ _ ?_); clear hK K'; conv => whnf)
    | ((refine And.intro ?_ ?_); all_goals (conv => whnf))
    | (apply r_quiet; refine mixed; kernel_rfl; kernel_rfl; kernel_rfl; conv => whnf)
    | ((refine if_t ?_ ?_); (focus decide); conv => whnf)
    | ((refine if_f ?_ ?_); (focus decide); conv => whnf)
    | ((refine if_decT ?_ ?_); (focus omega); conv => whnf)
    | ((refine if_decF ?_ ?_); (focus omega); conv => whnf)
    | ((refine if_ndecT ?_ ?_); (focus omega); conv => whnf)
    | ((refine if_ndecF ?_ ?_); (focus omega); conv => whnf)
    | ((refine if_dec (fun h => ?_) (fun h => ?_)); all_goals (conv => whnf))
    | ((refine if_ndec (fun h => ?_) (fun h => ?_)); all_goals (conv => whnf))
    | ((refine if_cond (fun h => ?_) (fun h => ?_)); all_goals (conv => whnf))
    | ((with_reducible apply_assumption -symm -exfalso)))
  all_goals exact FinK.pu rfl

theorem hk107 : nameOk ⟨#[107]⟩ = true := by decide +kernel
theorem hk97 : nameOk ⟨#[97]⟩ = true := by decide +kernel
def encEff (s t p : Nat) : List UInt8 := uvar 1 ++ uvar s ++ uvar t ++ uvar p ++ uvar (ByteArray.mk #[107]).size ++ (ByteArray.mk #[107]).data.toList ++ uvar (zigN (1 + (t : Int)))
def encOut (m : Nat) : List UInt8 := uvar 3 ++ uvar m ++ uvar (ByteArray.mk #[97]).size ++ (ByteArray.mk #[97]).data.toList ++ uvar (ByteArray.mk #[]).size ++ (ByteArray.mk #[]).data.toList
def encIn (m : Nat) (x : ByteArray) : List UInt8 := uvar 4 ++ uvar m ++ uvar (ByteArray.mk #[97]).size ++ (ByteArray.mk #[97]).data.toList ++ uvar (ByteArray.mk #[]).size ++ (ByteArray.mk #[]).data.toList ++ uvar x.size ++ x.data.toList
theorem uv1 {n : Nat} (h : n < 128) : (uvar n).length ≤ 1 := uvar_len n 0 (by omega)
theorem forEff {s t p g : Nat} (h : EffOk s t p) (hg : 1 ≤ g ∧ g ≤ 7) : CmdFor s t p 0 false g 1 ⟨#[107]⟩ (1 + t) ⟨#[]⟩ ⟨#[]⟩ ((((s - 1) * 8 + t) * 3 + p - 1) * 7 + g) (encEff s t p) := by
  have h0 := h
  unfold EffOk at h0
  have hn : NumOk (1 + (t : Int)) := by unfold NumOk; omega
  have hl : (encEff s t p).length ≤ 65536 := by
    have h1 := uvar_len s 1 (by omega); have h2 := uv1 (n := t) (by omega); have h3 := uv1 (n := p) (by omega); have h4 := uv1 (n := zigN (1 + (t : Int))) (by unfold zigN; rw [if_pos (by omega)]; omega); have h5 := uv1 (n := 1) (by omega)
    have h6 : (ByteArray.mk #[107]).size = 1 := rfl
    have h7 : (ByteArray.mk #[107]).data.toList.length = 1 := rfl
    unfold encEff
    rw [h6]
    simp only [List.length_append, h7]; omega
  have hnum : (((((s - 1) * 8 + t) * 3 + p - 1) * 7 + g : Nat) : Int) = ((((s : Int) - 1) * 8 + t) * 3 + p - 1) * 7 + g := by omega
  refine ⟨okEff h hg hk107 (by decide) (by omega) hn, by rw [hnum]; unfold itemNum; rw [if_pos rfl], fun w => everyEff27 h (by omega) w, fun w => fitsEff61 h hg hk107 (by decide) (by omega) hn w, fun w => encEff62 h hk107 (by decide) (by omega) hn hl w, hl, ?_⟩
  intro w d f to n gs tk mp hd hka hn7 hgs hf hto hto2 hft
  exact questionEff41 h hg hk107 (by decide) (by omega) hn hd hka hn7 hgs hf hto hto2 hft hnum (by simp [encEff]) hl
theorem forOut {m g : Nat} (h : 1 ≤ (m : Int) ∧ (m : Int) ≤ 64) (hg : 1 ≤ g ∧ g ≤ 7) : CmdFor 0 0 0 m false g 3 ⟨#[]⟩ 0 ⟨#[97]⟩ ⟨#[]⟩ ((239976 + 2 * m - 2) * 7 + g) (encOut m) := by
  have hl : (encOut m).length ≤ 65536 := by
    have h2 := uv1 (n := m) (by omega); have h3 := uv1 (n := 3) (by omega); have h4 := uv1 (n := 0) (by omega); have h5 := uv1 (n := 1) (by omega)
    have h6 : (ByteArray.mk #[97]).size = 1 := rfl
    have h7 : (ByteArray.mk #[97]).data.toList.length = 1 := rfl
    have h8 : (ByteArray.mk #[]).size = 0 := rfl
    have h9 : (ByteArray.mk #[]).data.toList.length = 0 := rfl
    unfold encOut
    rw [h6, h8]
    simp only [List.length_append, h7, h9]; omega
  have hnum : (((239976 + 2 * m - 2) * 7 + g : Nat) : Int) = (239976 + 2 * (m : Int) - 2) * 7 + g := by omega
  refine ⟨okOut h hg hk97 (by decide), by rw [hnum]; unfold itemNum; rw [if_neg (by omega)]; rfl, fun w => everyOut27 h (by omega) w, fun w => fitsOut61 h hg hk97 (by decide) w, fun w => encOut62 h hk97 (by decide) hl w, hl, ?_⟩
  intro w d f to n gs tk mp hd hka hn7 hgs hf hto hto2 hft
  exact questionOut41 h hg hk97 (by decide) hd hka hn7 hgs hf hto hto2 hft hnum (by simp [encOut]) hl
theorem forIn {m g : Nat} (h : 1 ≤ (m : Int) ∧ (m : Int) ≤ 64) (hg : 1 ≤ g ∧ g ≤ 7) : CmdFor 0 0 0 m true g 4 ⟨#[]⟩ 0 ⟨#[97]⟩ ⟨#[100, 97, 116, 97]⟩ ((239976 + 2 * m - 1) * 7 + g) (encIn m ⟨#[100, 97, 116, 97]⟩) := by
  have hl : (encIn m ⟨#[100, 97, 116, 97]⟩).length ≤ 65536 := by
    have h2 := uv1 (n := m) (by omega); have h3 := uv1 (n := 4) (by omega); have h4 := uv1 (n := 0) (by omega); have h5 := uv1 (n := 1) (by omega)
    have h6 : (ByteArray.mk #[97]).size = 1 := rfl
    have h7 : (ByteArray.mk #[97]).data.toList.length = 1 := rfl
    have h8 : (ByteArray.mk #[]).size = 0 := rfl
    have h9 : (ByteArray.mk #[]).data.toList.length = 0 := rfl
    have h10 : (ByteArray.mk #[100, 97, 116, 97]).size = 4 := rfl
    have h11 : (ByteArray.mk #[100, 97, 116, 97]).data.toList.length = 4 := rfl
    unfold encIn
    rw [h6, h8, h10]
    simp only [List.length_append, h7, h9, h11]; omega
  have hnum : (((239976 + 2 * m - 1) * 7 + g : Nat) : Int) = (239976 + 2 * (m : Int) - 1) * 7 + g := by omega
  refine ⟨okIn (x := ⟨#[100, 97, 116, 97]⟩) h hg hk97 (by decide) (by decide), by rw [hnum]; unfold itemNum; rw [if_neg (by omega)]; rfl, fun w => everyIn27 h (by omega) w, fun w => fitsIn61 h hg hk97 (by decide) (by decide) w, fun w => encIn62 h hk97 (by decide) (by decide) hl w, hl, ?_⟩
  intro w d f to n gs tk mp hd hka hn7 hgs hf hto hto2 hft
  exact questionIn41 h hg hk97 (by decide) (by decide) hd hka hn7 hgs hf hto hto2 hft hnum (by simp [encIn]) hl

end Go.Proofs.YtbgnoibellfojaaGreatDoor
