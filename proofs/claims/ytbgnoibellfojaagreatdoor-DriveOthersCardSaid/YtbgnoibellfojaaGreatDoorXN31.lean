/- Contracts and lemmas for the claim (part XN31); no condition of its own. -/
import Derived.Test.YtbgnoibellfojaaGreatDoorXN26
set_option linter.all false
set_option linter.unusedVariables false
set_option linter.unusedSimpArgs false
set_option linter.unnecessarySimpa false
namespace Go.Proofs.YtbgnoibellfojaaGreatDoor
open Go Go.X
set_option maxRecDepth 100000
set_option maxHeartbeats 0
theorem fromItem75 {s t p m : Int} {i : Bool} {g : Int} {num : Nat} (h : ItemOk s t p m i g) (e : (num : Int) = itemNum s t p m i g) (w : World) : Pu Tryz.prog 75 #[.int .i64 (num : Nat)] w (.tuple #[.agg #[.int .i64 s, .int .i64 t, .int .i64 p, .int .i64 m, .bool i, .int .i64 g], .int .i64 0]) := by
  unfold itemNum at e
  obtain ⟨h1, h2, h3⟩ := h
  obtain ⟨g', rfl⟩ : ∃ g' : Nat, g = g' := ⟨g.toNat, by omega⟩
  rcases h3 with ⟨rfl, rfl, h3⟩ | ⟨h3, h4, rfl, rfl, rfl⟩
  · rw [if_pos rfl] at e
    have h3' := h3
    unfold EffOk at h3'
    obtain ⟨s', rfl⟩ : ∃ s' : Nat, s = s' := ⟨s.toNat, by omega⟩
    obtain ⟨t', rfl⟩ : ∃ t' : Nat, t = t' := ⟨t.toNat, by omega⟩
    obtain ⟨p', rfl⟩ : ∃ p' : Nat, p = p' := ⟨p.toNat, by omega⟩
    exact fromIEff75 (k := ⟨#[107]⟩) (dl := 1) h3 (by omega) hk107 (by decide) (by decide) (by unfold NumOk; decide) e w
  · rw [if_neg (by omega)] at e
    obtain ⟨m', rfl⟩ : ∃ m' : Nat, m = m' := ⟨m.toNat, by omega⟩
    cases i with
    | true => exact fromIIn75 (f1 := ⟨#[97]⟩) (x := ⟨#[]⟩) ⟨h3, h4⟩ (by omega) hk97 (by decide) (by decide) (by simpa using e) w
    | false => exact fromIOut75 (f1 := ⟨#[97]⟩) ⟨h3, h4⟩ (by omega) hk97 (by decide) (by simpa using e) w

theorem decBEff76 {s t p : Nat} {k : ByteArray} {d : Int} {a : Option Addr} {n cap : Nat} {w : World} (hr : RdS w 5 1 a n cap (bcells (uvar 1 ++ (uvar s ++ (uvar t ++ (uvar p ++ (uvar k.size ++ k.data.toList ++ (uvar (zigN d) ++ [0])))))))) (h : EffOk s t p) (hk : nameOk k = true) (hks : k.size ≤ 16) (hd : d ≠ 0) (hn : NumOk d) (hl : n ≤ 65536) : Pu Tryz.prog 76 #[.slice a n cap] w (.tuple #[.agg #[.int .i64 0, .int .i64 0, .int .i64 0, .int .i64 0, .int .i64 0, .int .i64 0, .string ⟨#[]⟩, .int .i64 0, .int .i64 0, .string ⟨#[]⟩, .string ⟨#[]⟩, .int .i64 0, .string ⟨#[]⟩, .int .i64 0, .int .i64 0, .slice none 0 0, .int .i64 0, .int .i64 0, .int .i64 0, .int .i64 0, .bool false, .int .i64 0, .int .i64 0, .string ⟨#[]⟩], .int .i64 10]) := by
  have hlen := hr.len
  rw [bcells_length, Nat.mul_one] at hlen
  have hs := fun n' r H => Sees.old (c := ⟨Tryz.prog, TB, n', w, noS, r, TBok⟩) (H := H) hr.old
  have h' := h
  have hn' := hn
  unfold EffOk at h'
  unfold NumOk at hn'
  have e0 : rdS 15 (some (uvar 1 ++ (uvar s ++ (uvar t ++ (uvar p ++ (uvar k.size ++ k.data.toList ++ (uvar (zigN d) ++ [0]))))))) = (1, some (uvar s ++ (uvar t ++ (uvar p ++ (uvar k.size ++ k.data.toList ++ (uvar (zigN d) ++ [0])))))) := rdS_uvar _ (by omega) (by omega)
  have e1 : rdS 9999 (some (uvar s ++ (uvar t ++ (uvar p ++ (uvar k.size ++ k.data.toList ++ (uvar (zigN d) ++ [0])))))) = (s, some (uvar t ++ (uvar p ++ (uvar k.size ++ k.data.toList ++ (uvar (zigN d) ++ [0]))))) := rdS_uvar _ (by omega) (by omega)
  have e2 : rdS 8 (some (uvar t ++ (uvar p ++ (uvar k.size ++ k.data.toList ++ (uvar (zigN d) ++ [0]))))) = (t, some (uvar p ++ (uvar k.size ++ k.data.toList ++ (uvar (zigN d) ++ [0])))) := rdS_uvar _ (by omega) (by omega)
  have e3 : rdS 3 (some (uvar p ++ (uvar k.size ++ k.data.toList ++ (uvar (zigN d) ++ [0])))) = (p, some (uvar k.size ++ k.data.toList ++ (uvar (zigN d) ++ [0]))) := rdS_uvar _ (by omega) (by omega)
  have e4 : rdT (some (uvar k.size ++ k.data.toList ++ (uvar (zigN d) ++ [0]))) = (k, some (uvar (zigN d) ++ [0])) := rdT_uvar _ (by omega)
  have e5 : rdI (some (uvar (zigN d) ++ [0])) = (d, some ([0])) := rdI_uvar _ (by omega)
  subst hlen
  have hne : (uvar 1 ++ (uvar s ++ (uvar t ++ (uvar p ++ (uvar k.size ++ k.data.toList ++ (uvar (zigN d) ++ [0])))))).length ≠ 0 := by have := uvar_pos 1; simp only [List.length_append]; omega
  have hll := hl
  simp only [List.length_append, List.length_cons, List.length_nil] at hll
  refine enter_sound TBok Tryz.func76 rfl rfl Tryz.ntmps76 [.v (.slice a (uvar 1 ++ (uvar s ++ (uvar t ++ (uvar p ++ (uvar k.size ++ k.data.toList ++ (uvar (zigN d) ++ [0])))))).length cap)] (Kn.start w noS) rfl rfl ?_
  conv => whnf
  repeat' (first
    | ((with_reducible refine r_seq (fun KS hS => ?_)))
    | ((with_reducible refine r_region ?_); conv => whnf)
    | ((with_reducible refine r_cond (fun KA hA KB hB => ?_)); conv => whnf)
    | ((with_reducible refine hS _ _ ?_); clear hS KS)
    | ((with_reducible refine hA _ ?_); clear hA KA)
    | ((with_reducible refine hB _ ?_); clear hB KB)
    | ((with_reducible refine r_block ?_))
    | ((with_reducible refine r_ret ?_); conv => whnf)
    | ((with_reducible refine r_skip ?_); conv => whnf)
    | ((with_reducible refine r_exit ?_); conv => whnf)
    | ((with_reducible refine WrapK.i64 ?_ ?_); (focus omega); conv => whnf)
    | ((with_reducible refine And.intro rfl ?_); conv => whnf)
    | ((with_reducible intro b); conv => whnf)
    | (apply in103; refine Tryz.ntmps103; rfl; rfl; rfl; intro A; conv => whnf)
    | (apply in143; refine Tryz.ntmps143; rfl; rfl; rfl; intro A; conv => whnf)
    | (apply in144; refine Tryz.ntmps144; rfl; rfl; rfl; intro A; conv => whnf)
    | (apply in145; refine Tryz.ntmps145; rfl; rfl; rfl; intro A; conv => whnf)
    | (apply in147; refine Tryz.ntmps147; rfl; rfl; rfl; intro A; conv => whnf)
    | (apply in148; refine Tryz.ntmps148; rfl; rfl; rfl; intro A; conv => whnf)
    | (apply in149; refine Tryz.ntmps149; rfl; rfl; rfl; intro A; conv => whnf)
    | (apply in216; refine Tryz.ntmps216; rfl; rfl; rfl; intro A; conv => whnf)
    | (apply in226; refine Tryz.ntmps226; rfl; rfl; rfl; intro A; conv => whnf)
    | (apply in113; refine Tryz.ntmps113; rfl; rfl; rfl; intro A; conv => whnf)
    | (apply in212; refine Tryz.ntmps212; rfl; rfl; rfl; intro A; conv => whnf)
    | (apply in222; refine Tryz.ntmps222; rfl; rfl; rfl; intro A; conv => whnf)
    | (apply in232; refine Tryz.ntmps232; rfl; rfl; rfl; intro A; conv => whnf)
    | (apply in290; refine Tryz.ntmps290; rfl; rfl; rfl; intro A; conv => whnf)
    | (apply in300; refine Tryz.ntmps300; rfl; rfl; rfl; intro A; conv => whnf)
    | (refine aq217 ?_; conv => whnf)
    | (refine ak217 ?_; conv => whnf)
    | (refine aq228 ?_; conv => whnf)
    | (refine ak228 ?_; conv => whnf)
    | (refine aq236 ?_; conv => whnf)
    | (refine ak236 ?_; conv => whnf)
    | ((with_reducible refine CallK.id ?_); refine CallK.fresh (fun ms w hk => clone191 (l := uvar 1 ++ (uvar s ++ (uvar t ++ (uvar p ++ (uvar k.size ++ k.data.toList ++ (uvar (zigN d) ++ [0])))))) (Sees.rd (hs _ _ _) hk) (by omega)) ?_; conv => whnf)
    | (intro z; conv => whnf)
    | ((with_reducible refine CallK.id ?_); refine CallK.weak (RdA.closeT (j := 0)) (CallK.frE At.head (fun w => small114e (RB.len (by simp only [List.length_append, List.length_cons, List.length_nil]; omega)) (by omega) e0 w) ?_); conv => whnf)
    | ((with_reducible refine CallK.id ?_); refine CallK.frE (by repeat (first | with_reducible apply At.head | apply At.tail)) (fun w => small114e (RB.len (by simp only [List.length_append, List.length_cons, List.length_nil]; omega)) (by omega) e1 w) ?_; conv => whnf)
    | ((with_reducible refine CallK.id ?_); refine CallK.frE (by repeat (first | with_reducible apply At.head | apply At.tail)) (fun w => small114e (RB.len (by simp only [List.length_append, List.length_cons, List.length_nil]; omega)) (by omega) e2 w) ?_; conv => whnf)
    | ((with_reducible refine CallK.id ?_); refine CallK.frE (by repeat (first | with_reducible apply At.head | apply At.tail)) (fun w => small114e (RB.len (by simp only [List.length_append, List.length_cons, List.length_nil]; omega)) (by omega) e3 w) ?_; conv => whnf)
    | ((with_reducible refine CallK.id ?_); refine CallK.frE (by repeat (first | with_reducible apply At.head | apply At.tail)) (fun w => text116e (RB.len (by simp only [List.length_append, List.length_cons, List.length_nil]; omega)) e4 w) ?_; conv => whnf)
    | ((with_reducible refine CallK.id ?_); refine CallK.frE (by repeat (first | with_reducible apply At.head | apply At.tail)) (fun w => int115e (RB.len (by simp only [List.length_append, List.length_cons, List.length_nil]; omega)) e5 w) ?_; conv => whnf)
    | ((with_reducible refine CallK.id ?_); refine CallK.frE (by repeat (first | with_reducible apply At.head | apply At.tail)) (fun w => end117bad (st := some [0]) (by simp) w) ?_; conv => whnf)
    | ((with_reducible apply OpK.more); (focus refine sok); (conv => whnf); fail_if_success guard_target =ₛ False)
    | ((with_reducible refine Rounds.step (fun KL hL => ?_)))
    | ((with_reducible refine hL _ _ ?_); clear hL KL)
    | ((with_reducible refine r_rounds 100 ?_))
    | ((with_reducible refine InAt.mk (fun K' hK => ?_)); conv => whnf)
    | ((with_reducible refine AnyAt.mk (fun K' hK => ?_)); conv => whnf)
    | ((with_reducible refine hK _ ?_); clear hK K'; conv => whnf)
    | ((with_reducible refine hK _ _ ?_); clear hK K'; conv => whnf)
    | ((refine And.intro ?_ ?_); all_goals (conv => whnf))
    | (apply r_quiet; refine mixed; kernel_rfl; kernel_rfl; kernel_rfl; conv => whnf)
    | ((refine if_t ?_ ?_); (focus decide); conv => whnf)
    | ((refine if_f ?_ ?_); (focus decide); conv => whnf)
    | ((refine if_decT ?_ ?_); (focus omega); conv => whnf)
    | ((refine if_decF ?_ ?_); (focus omega); conv => whnf)
    | ((refine if_ndecT ?_ ?_); (focus omega); conv => whnf)
    | ((refine if_ndecF ?_ ?_); (focus omega); conv => whnf)
    | ((refine if_dec (fun h => ?_) (fun h => ?_)); all_goals (conv => whnf))
    | ((refine if_ndec (fun h => ?_) (fun h => ?_)); all_goals (conv => whnf))
    | ((refine if_cond (fun h => ?_) (fun h => ?_)); all_goals (conv => whnf))
    | ((with_reducible apply_assumption -symm -exfalso)))
  all_goals exact FinK.pu rfl

theorem decBOut76 {m : Nat} {f : ByteArray} {a : Option Addr} {n cap : Nat} {w : World} (hr : RdS w 5 1 a n cap (bcells (uvar 3 ++ (uvar m ++ (uvar f.size ++ f.data.toList ++ (uvar (ByteArray.mk #[]).size ++ (ByteArray.mk #[]).data.toList ++ [0])))))) (hm : 1 ≤ (m : Int) ∧ (m : Int) ≤ 64) (hf : nameOk f = true) (hs : f.size ≤ 16) (hl : n ≤ 65536) : Pu Tryz.prog 76 #[.slice a n cap] w (.tuple #[.agg #[.int .i64 0, .int .i64 0, .int .i64 0, .int .i64 0, .int .i64 0, .int .i64 0, .string ⟨#[]⟩, .int .i64 0, .int .i64 0, .string ⟨#[]⟩, .string ⟨#[]⟩, .int .i64 0, .string ⟨#[]⟩, .int .i64 0, .int .i64 0, .slice none 0 0, .int .i64 0, .int .i64 0, .int .i64 0, .int .i64 0, .bool false, .int .i64 0, .int .i64 0, .string ⟨#[]⟩], .int .i64 10]) := by
  have hlen := hr.len
  rw [bcells_length, Nat.mul_one] at hlen
  have hs := fun n' r H => Sees.old (c := ⟨Tryz.prog, TB, n', w, noS, r, TBok⟩) (H := H) hr.old
  have he1 : (ByteArray.mk #[]).size = 0 := rfl
  have e0 : rdS 15 (some (uvar 3 ++ (uvar m ++ (uvar f.size ++ f.data.toList ++ (uvar (ByteArray.mk #[]).size ++ (ByteArray.mk #[]).data.toList ++ [0]))))) = (3, some (uvar m ++ (uvar f.size ++ f.data.toList ++ (uvar (ByteArray.mk #[]).size ++ (ByteArray.mk #[]).data.toList ++ [0])))) := rdS_uvar _ (by omega) (by omega)
  have e1 : rdS 64 (some (uvar m ++ (uvar f.size ++ f.data.toList ++ (uvar (ByteArray.mk #[]).size ++ (ByteArray.mk #[]).data.toList ++ [0])))) = (m, some (uvar f.size ++ f.data.toList ++ (uvar (ByteArray.mk #[]).size ++ (ByteArray.mk #[]).data.toList ++ [0]))) := rdS_uvar _ (by omega) (by omega)
  have e2 : rdT (some (uvar f.size ++ f.data.toList ++ (uvar (ByteArray.mk #[]).size ++ (ByteArray.mk #[]).data.toList ++ [0]))) = (f, some (uvar (ByteArray.mk #[]).size ++ (ByteArray.mk #[]).data.toList ++ [0])) := rdT_uvar _ (by omega)
  have e3 : rdT (some (uvar (ByteArray.mk #[]).size ++ (ByteArray.mk #[]).data.toList ++ [0])) = ((ByteArray.mk #[]), some ([0])) := rdT_uvar _ (by omega)
  subst hlen
  have hne : (uvar 3 ++ (uvar m ++ (uvar f.size ++ f.data.toList ++ (uvar (ByteArray.mk #[]).size ++ (ByteArray.mk #[]).data.toList ++ [0])))).length ≠ 0 := by have := uvar_pos 3; simp only [List.length_append]; omega
  have hll := hl
  simp only [List.length_append, List.length_cons, List.length_nil] at hll
  refine enter_sound TBok Tryz.func76 rfl rfl Tryz.ntmps76 [.v (.slice a (uvar 3 ++ (uvar m ++ (uvar f.size ++ f.data.toList ++ (uvar (ByteArray.mk #[]).size ++ (ByteArray.mk #[]).data.toList ++ [0])))).length cap)] (Kn.start w noS) rfl rfl ?_
  conv => whnf
  repeat' (first
    | ((with_reducible refine r_seq (fun KS hS => ?_)))
    | ((with_reducible refine r_region ?_); conv => whnf)
    | ((with_reducible refine r_cond (fun KA hA KB hB => ?_)); conv => whnf)
    | ((with_reducible refine hS _ _ ?_); clear hS KS)
    | ((with_reducible refine hA _ ?_); clear hA KA)
    | ((with_reducible refine hB _ ?_); clear hB KB)
    | ((with_reducible refine r_block ?_))
    | ((with_reducible refine r_ret ?_); conv => whnf)
    | ((with_reducible refine r_skip ?_); conv => whnf)
    | ((with_reducible refine r_exit ?_); conv => whnf)
    | ((with_reducible refine WrapK.i64 ?_ ?_); (focus omega); conv => whnf)
    | ((with_reducible refine And.intro rfl ?_); conv => whnf)
    | ((with_reducible intro b); conv => whnf)
    | (apply in103; refine Tryz.ntmps103; rfl; rfl; rfl; intro A; conv => whnf)
    | (apply in143; refine Tryz.ntmps143; rfl; rfl; rfl; intro A; conv => whnf)
    | (apply in144; refine Tryz.ntmps144; rfl; rfl; rfl; intro A; conv => whnf)
    | (apply in145; refine Tryz.ntmps145; rfl; rfl; rfl; intro A; conv => whnf)
    | (apply in147; refine Tryz.ntmps147; rfl; rfl; rfl; intro A; conv => whnf)
    | (apply in148; refine Tryz.ntmps148; rfl; rfl; rfl; intro A; conv => whnf)
    | (apply in149; refine Tryz.ntmps149; rfl; rfl; rfl; intro A; conv => whnf)
    | (apply in216; refine Tryz.ntmps216; rfl; rfl; rfl; intro A; conv => whnf)
    | (apply in226; refine Tryz.ntmps226; rfl; rfl; rfl; intro A; conv => whnf)
    | (apply in113; refine Tryz.ntmps113; rfl; rfl; rfl; intro A; conv => whnf)
    | (apply in212; refine Tryz.ntmps212; rfl; rfl; rfl; intro A; conv => whnf)
    | (apply in222; refine Tryz.ntmps222; rfl; rfl; rfl; intro A; conv => whnf)
    | (apply in232; refine Tryz.ntmps232; rfl; rfl; rfl; intro A; conv => whnf)
    | (apply in290; refine Tryz.ntmps290; rfl; rfl; rfl; intro A; conv => whnf)
    | (apply in300; refine Tryz.ntmps300; rfl; rfl; rfl; intro A; conv => whnf)
    | (refine aq217 ?_; conv => whnf)
    | (refine ak217 ?_; conv => whnf)
    | (refine aq228 ?_; conv => whnf)
    | (refine ak228 ?_; conv => whnf)
    | (refine aq236 ?_; conv => whnf)
    | (refine ak236 ?_; conv => whnf)
    | ((with_reducible refine CallK.id ?_); refine CallK.fresh (fun ms w hk => clone191 (l := uvar 3 ++ (uvar m ++ (uvar f.size ++ f.data.toList ++ (uvar (ByteArray.mk #[]).size ++ (ByteArray.mk #[]).data.toList ++ [0])))) (Sees.rd (hs _ _ _) hk) (by omega)) ?_; conv => whnf)
    | (intro z; conv => whnf)
    | ((with_reducible refine CallK.id ?_); refine CallK.weak (RdA.closeT (j := 0)) (CallK.frE At.head (fun w => small114e (RB.len (by simp only [List.length_append, List.length_cons, List.length_nil]; omega)) (by omega) e0 w) ?_); conv => whnf)
    | ((with_reducible refine CallK.id ?_); refine CallK.frE (by repeat (first | with_reducible apply At.head | apply At.tail)) (fun w => small114e (RB.len (by simp only [List.length_append, List.length_cons, List.length_nil]; omega)) (by omega) e1 w) ?_; conv => whnf)
    | ((with_reducible refine CallK.id ?_); refine CallK.frE (by repeat (first | with_reducible apply At.head | apply At.tail)) (fun w => text116e (RB.len (by simp only [List.length_append, List.length_cons, List.length_nil]; omega)) e2 w) ?_; conv => whnf)
    | ((with_reducible refine CallK.id ?_); refine CallK.frE (by repeat (first | with_reducible apply At.head | apply At.tail)) (fun w => text116e (RB.len (by simp only [List.length_append, List.length_cons, List.length_nil]; omega)) e3 w) ?_; conv => whnf)
    | ((with_reducible refine CallK.id ?_); refine CallK.frE (by repeat (first | with_reducible apply At.head | apply At.tail)) (fun w => end117bad (st := some [0]) (by simp) w) ?_; conv => whnf)
    | (apply r_any; refine mixed; kernel_rfl; kernel_rfl; conv => whnf)
    | ((with_reducible apply OpK.more); (focus refine sok); (conv => whnf); fail_if_success guard_target =ₛ False)
    | ((with_reducible refine Rounds.step (fun KL hL => ?_)))
    | ((with_reducible refine hL _ _ ?_); clear hL KL)
    | ((with_reducible refine r_rounds 100 ?_))
    | ((with_reducible refine InAt.mk (fun K' hK => ?_)); conv => whnf)
    | ((with_reducible refine AnyAt.mk (fun K' hK => ?_)); conv => whnf)
    | ((with_reducible refine hK _ ?_); clear hK K'; conv => whnf)
    | ((with_reducible refine hK _ _ ?_); clear hK K'; conv => whnf)
    | ((refine And.intro ?_ ?_); all_goals (conv => whnf))
    | (apply r_quiet; refine mixed; kernel_rfl; kernel_rfl; kernel_rfl; conv => whnf)
    | ((refine if_t ?_ ?_); (focus decide); conv => whnf)
    | ((refine if_f ?_ ?_); (focus decide); conv => whnf)
    | ((refine if_decT ?_ ?_); (focus omega); conv => whnf)
    | ((refine if_decF ?_ ?_); (focus omega); conv => whnf)
    | ((refine if_ndecT ?_ ?_); (focus omega); conv => whnf)
    | ((refine if_ndecF ?_ ?_); (focus omega); conv => whnf)
    | ((refine if_dec (fun h => ?_) (fun h => ?_)); all_goals (conv => whnf))
    | ((refine if_ndec (fun h => ?_) (fun h => ?_)); all_goals (conv => whnf))
    | ((refine if_cond (fun h => ?_) (fun h => ?_)); all_goals (conv => whnf))
    | ((with_reducible apply_assumption -symm -exfalso)))
  all_goals exact FinK.pu rfl

theorem decBIn76 {m : Nat} {f x : ByteArray} {a : Option Addr} {n cap : Nat} {w : World} (hr : RdS w 5 1 a n cap (bcells (uvar 4 ++ (uvar m ++ (uvar f.size ++ f.data.toList ++ (uvar (ByteArray.mk #[]).size ++ (ByteArray.mk #[]).data.toList ++ (uvar x.size ++ x.data.toList ++ [0]))))))) (hm : 1 ≤ (m : Int) ∧ (m : Int) ≤ 64) (hf : nameOk f = true) (hs : f.size ≤ 16) (hx : x.size ≤ 65536) (hl : n ≤ 65536) : Pu Tryz.prog 76 #[.slice a n cap] w (.tuple #[.agg #[.int .i64 0, .int .i64 0, .int .i64 0, .int .i64 0, .int .i64 0, .int .i64 0, .string ⟨#[]⟩, .int .i64 0, .int .i64 0, .string ⟨#[]⟩, .string ⟨#[]⟩, .int .i64 0, .string ⟨#[]⟩, .int .i64 0, .int .i64 0, .slice none 0 0, .int .i64 0, .int .i64 0, .int .i64 0, .int .i64 0, .bool false, .int .i64 0, .int .i64 0, .string ⟨#[]⟩], .int .i64 10]) := by
  have hlen := hr.len
  rw [bcells_length, Nat.mul_one] at hlen
  have hs := fun n' r H => Sees.old (c := ⟨Tryz.prog, TB, n', w, noS, r, TBok⟩) (H := H) hr.old
  have he1 : (ByteArray.mk #[]).size = 0 := rfl
  have e0 : rdS 15 (some (uvar 4 ++ (uvar m ++ (uvar f.size ++ f.data.toList ++ (uvar (ByteArray.mk #[]).size ++ (ByteArray.mk #[]).data.toList ++ (uvar x.size ++ x.data.toList ++ [0])))))) = (4, some (uvar m ++ (uvar f.size ++ f.data.toList ++ (uvar (ByteArray.mk #[]).size ++ (ByteArray.mk #[]).data.toList ++ (uvar x.size ++ x.data.toList ++ [0]))))) := rdS_uvar _ (by omega) (by omega)
  have e1 : rdS 64 (some (uvar m ++ (uvar f.size ++ f.data.toList ++ (uvar (ByteArray.mk #[]).size ++ (ByteArray.mk #[]).data.toList ++ (uvar x.size ++ x.data.toList ++ [0]))))) = (m, some (uvar f.size ++ f.data.toList ++ (uvar (ByteArray.mk #[]).size ++ (ByteArray.mk #[]).data.toList ++ (uvar x.size ++ x.data.toList ++ [0])))) := rdS_uvar _ (by omega) (by omega)
  have e2 : rdT (some (uvar f.size ++ f.data.toList ++ (uvar (ByteArray.mk #[]).size ++ (ByteArray.mk #[]).data.toList ++ (uvar x.size ++ x.data.toList ++ [0])))) = (f, some (uvar (ByteArray.mk #[]).size ++ (ByteArray.mk #[]).data.toList ++ (uvar x.size ++ x.data.toList ++ [0]))) := rdT_uvar _ (by omega)
  have e3 : rdT (some (uvar (ByteArray.mk #[]).size ++ (ByteArray.mk #[]).data.toList ++ (uvar x.size ++ x.data.toList ++ [0]))) = ((ByteArray.mk #[]), some (uvar x.size ++ x.data.toList ++ [0])) := rdT_uvar _ (by omega)
  have e4 : rdT (some (uvar x.size ++ x.data.toList ++ [0])) = (x, some ([0])) := rdT_uvar _ (by omega)
  subst hlen
  have hne : (uvar 4 ++ (uvar m ++ (uvar f.size ++ f.data.toList ++ (uvar (ByteArray.mk #[]).size ++ (ByteArray.mk #[]).data.toList ++ (uvar x.size ++ x.data.toList ++ [0]))))).length ≠ 0 := by have := uvar_pos 4; simp only [List.length_append]; omega
  have hll := hl
  simp only [List.length_append, List.length_cons, List.length_nil] at hll
  refine enter_sound TBok Tryz.func76 rfl rfl Tryz.ntmps76 [.v (.slice a (uvar 4 ++ (uvar m ++ (uvar f.size ++ f.data.toList ++ (uvar (ByteArray.mk #[]).size ++ (ByteArray.mk #[]).data.toList ++ (uvar x.size ++ x.data.toList ++ [0]))))).length cap)] (Kn.start w noS) rfl rfl ?_
  conv => whnf
  repeat' (first
    | ((with_reducible refine r_seq (fun KS hS => ?_)))
    | ((with_reducible refine r_region ?_); conv => whnf)
    | ((with_reducible refine r_cond (fun KA hA KB hB => ?_)); conv => whnf)
    | ((with_reducible refine hS _ _ ?_); clear hS KS)
    | ((with_reducible refine hA _ ?_); clear hA KA)
    | ((with_reducible refine hB _ ?_); clear hB KB)
    | ((with_reducible refine r_block ?_))
    | ((with_reducible refine r_ret ?_); conv => whnf)
    | ((with_reducible refine r_skip ?_); conv => whnf)
    | ((with_reducible refine r_exit ?_); conv => whnf)
    | ((with_reducible refine WrapK.i64 ?_ ?_); (focus omega); conv => whnf)
    | ((with_reducible refine And.intro rfl ?_); conv => whnf)
    | ((with_reducible intro b); conv => whnf)
    | (apply in103; refine Tryz.ntmps103; rfl; rfl; rfl; intro A; conv => whnf)
    | (apply in143; refine Tryz.ntmps143; rfl; rfl; rfl; intro A; conv => whnf)
    | (apply in144; refine Tryz.ntmps144; rfl; rfl; rfl; intro A; conv => whnf)
    | (apply in145; refine Tryz.ntmps145; rfl; rfl; rfl; intro A; conv => whnf)
    | (apply in147; refine Tryz.ntmps147; rfl; rfl; rfl; intro A; conv => whnf)
    | (apply in148; refine Tryz.ntmps148; rfl; rfl; rfl; intro A; conv => whnf)
    | (apply in149; refine Tryz.ntmps149; rfl; rfl; rfl; intro A; conv => whnf)
    | (apply in216; refine Tryz.ntmps216; rfl; rfl; rfl; intro A; conv => whnf)
    | (apply in226; refine Tryz.ntmps226; rfl; rfl; rfl; intro A; conv => whnf)
    | (apply in113; refine Tryz.ntmps113; rfl; rfl; rfl; intro A; conv => whnf)
    | (apply in212; refine Tryz.ntmps212; rfl; rfl; rfl; intro A; conv => whnf)
    | (apply in222; refine Tryz.ntmps222; rfl; rfl; rfl; intro A; conv => whnf)
    | (apply in232; refine Tryz.ntmps232; rfl; rfl; rfl; intro A; conv => whnf)
    | (apply in290; refine Tryz.ntmps290; rfl; rfl; rfl; intro A; conv => whnf)
    | (apply in300; refine Tryz.ntmps300; rfl; rfl; rfl; intro A; conv => whnf)
    | (refine aq217 ?_; conv => whnf)
    | (refine ak217 ?_; conv => whnf)
    | (refine aq228 ?_; conv => whnf)
    | (refine ak228 ?_; conv => whnf)
    | (refine aq236 ?_; conv => whnf)
    | (refine ak236 ?_; conv => whnf)
    | ((with_reducible refine CallK.id ?_); refine CallK.fresh (fun ms w hk => clone191 (l := uvar 4 ++ (uvar m ++ (uvar f.size ++ f.data.toList ++ (uvar (ByteArray.mk #[]).size ++ (ByteArray.mk #[]).data.toList ++ (uvar x.size ++ x.data.toList ++ [0]))))) (Sees.rd (hs _ _ _) hk) (by omega)) ?_; conv => whnf)
    | (intro z; conv => whnf)
    | ((with_reducible refine CallK.id ?_); refine CallK.weak (RdA.closeT (j := 0)) (CallK.frE At.head (fun w => small114e (RB.len (by simp only [List.length_append, List.length_cons, List.length_nil]; omega)) (by omega) e0 w) ?_); conv => whnf)
    | ((with_reducible refine CallK.id ?_); refine CallK.frE (by repeat (first | with_reducible apply At.head | apply At.tail)) (fun w => small114e (RB.len (by simp only [List.length_append, List.length_cons, List.length_nil]; omega)) (by omega) e1 w) ?_; conv => whnf)
    | ((with_reducible refine CallK.id ?_); refine CallK.frE (by repeat (first | with_reducible apply At.head | apply At.tail)) (fun w => text116e (RB.len (by simp only [List.length_append, List.length_cons, List.length_nil]; omega)) e2 w) ?_; conv => whnf)
    | ((with_reducible refine CallK.id ?_); refine CallK.frE (by repeat (first | with_reducible apply At.head | apply At.tail)) (fun w => text116e (RB.len (by simp only [List.length_append, List.length_cons, List.length_nil]; omega)) e3 w) ?_; conv => whnf)
    | ((with_reducible refine CallK.id ?_); refine CallK.frE (by repeat (first | with_reducible apply At.head | apply At.tail)) (fun w => text116e (RB.len (by simp only [List.length_append, List.length_cons, List.length_nil]; omega)) e4 w) ?_; conv => whnf)
    | ((with_reducible refine CallK.id ?_); refine CallK.frE (by repeat (first | with_reducible apply At.head | apply At.tail)) (fun w => end117bad (st := some [0]) (by simp) w) ?_; conv => whnf)
    | (apply r_any; refine mixed; kernel_rfl; kernel_rfl; conv => whnf)
    | ((with_reducible apply OpK.more); (focus refine sok); (conv => whnf); fail_if_success guard_target =ₛ False)
    | ((with_reducible refine Rounds.step (fun KL hL => ?_)))
    | ((with_reducible refine hL _ _ ?_); clear hL KL)
    | ((with_reducible refine r_rounds 100 ?_))
    | ((with_reducible refine InAt.mk (fun K' hK => ?_)); conv => whnf)
    | ((with_reducible refine AnyAt.mk (fun K' hK => ?_)); conv => whnf)
    | ((with_reducible refine hK _ ?_); clear hK K'; conv => whnf)
    | ((with_reducible refine hK _ _ ?_); clear hK K'; conv => whnf)
    | ((refine And.intro ?_ ?_); all_goals (conv => whnf))
    | (apply r_quiet; refine mixed; kernel_rfl; kernel_rfl; kernel_rfl; conv => whnf)
    | ((refine if_t ?_ ?_); (focus decide); conv => whnf)
    | ((refine if_f ?_ ?_); (focus decide); conv => whnf)
    | ((refine if_decT ?_ ?_); (focus omega); conv => whnf)
    | ((refine if_decF ?_ ?_); (focus omega); conv => whnf)
    | ((refine if_ndecT ?_ ?_); (focus omega); conv => whnf)
    | ((refine if_ndecF ?_ ?_); (focus omega); conv => whnf)
    | ((refine if_dec (fun h => ?_) (fun h => ?_)); all_goals (conv => whnf))
    | ((refine if_ndec (fun h => ?_) (fun h => ?_)); all_goals (conv => whnf))
    | ((refine if_cond (fun h => ?_) (fun h => ?_)); all_goals (conv => whnf))
    | ((with_reducible apply_assumption -symm -exfalso)))
  all_goals exact FinK.pu rfl

theorem lenEff {s t p g : Nat} (h : EffOk s t p) : (encEff s t p).length ≤ 1000 := by
    have h0 := h
    unfold EffOk at h0
    have h1 := uvar_len s 1 (by omega); have h2 := uv1 (n := t) (by omega); have h3 := uv1 (n := p) (by omega); have h4 := uv1 (n := zigN (1 + (t : Int))) (by unfold zigN; rw [if_pos (by omega)]; omega); have h5 := uv1 (n := 1) (by omega)
    have h6 : (ByteArray.mk #[107]).size = 1 := rfl
    have h7 : (ByteArray.mk #[107]).data.toList.length = 1 := rfl
    unfold encEff
    rw [h6]
    simp only [List.length_append, h7]; omega
theorem lenOut {m : Nat} (h : 1 ≤ (m : Int) ∧ (m : Int) ≤ 64) : (encOut m).length ≤ 1000 := by
    have h2 := uv1 (n := m) (by omega); have h3 := uv1 (n := 3) (by omega); have h4 := uv1 (n := 0) (by omega); have h5 := uv1 (n := 1) (by omega)
    have h6 : (ByteArray.mk #[97]).size = 1 := rfl
    have h7 : (ByteArray.mk #[97]).data.toList.length = 1 := rfl
    have h8 : (ByteArray.mk #[]).size = 0 := rfl
    have h9 : (ByteArray.mk #[]).data.toList.length = 0 := rfl
    unfold encOut
    rw [h6, h8]
    simp only [List.length_append, h7, h9]; omega
theorem lenIn {m : Nat} (h : 1 ≤ (m : Int) ∧ (m : Int) ≤ 64) : (encIn m ⟨#[100, 97, 116, 97]⟩).length ≤ 1000 := by
    have h2 := uv1 (n := m) (by omega); have h3 := uv1 (n := 4) (by omega); have h4 := uv1 (n := 0) (by omega); have h5 := uv1 (n := 1) (by omega)
    have h6 : (ByteArray.mk #[97]).size = 1 := rfl
    have h7 : (ByteArray.mk #[97]).data.toList.length = 1 := rfl
    have h8 : (ByteArray.mk #[]).size = 0 := rfl
    have h9 : (ByteArray.mk #[]).data.toList.length = 0 := rfl
    have h10 : (ByteArray.mk #[100, 97, 116, 97]).size = 4 := rfl
    have h11 : (ByteArray.mk #[100, 97, 116, 97]).data.toList.length = 4 := rfl
    unfold encIn
    rw [h6, h8, h10]
    simp only [List.length_append, h7, h9, h11]; omega
theorem itemForX {k : Int} (hk : 0 ≤ k ∧ k ≤ 65535) : ∃ (kd : Int) (key : ByteArray) (dl : Int) (fr data : ByteArray) (num : Nat) (enc : List UInt8), CmdFor (itS k) (itT k) (itP k) (itM k) (itI k) (itG k) kd key dl fr data num enc ∧ itG k ≤ 2 ∧ enc.length ≤ 1000 ∧ (∀ {w : World} {a : Option Addr} {n cap : Nat}, RdS w 5 1 a n cap (bcells (enc ++ [0])) → n ≤ 65536 → Pu Tryz.prog 76 #[.slice a n cap] w (.tuple #[.agg #[.int .i64 0, .int .i64 0, .int .i64 0, .int .i64 0, .int .i64 0, .int .i64 0, .string ⟨#[]⟩, .int .i64 0, .int .i64 0, .string ⟨#[]⟩, .string ⟨#[]⟩, .int .i64 0, .string ⟨#[]⟩, .int .i64 0, .int .i64 0, .slice none 0 0, .int .i64 0, .int .i64 0, .int .i64 0, .int .i64 0, .bool false, .int .i64 0, .int .i64 0, .string ⟨#[]⟩], .int .i64 10])) := by
  unfold itS itT itP itM itI itG
  by_cases h : k % 4 = 3
  · rw [if_pos h, if_pos h, if_pos h, if_pos h, if_pos h, if_pos h]
    obtain ⟨m, hm⟩ : ∃ m : Nat, (1 + k / 4 % 64 : Int) = m := ⟨(1 + k / 4 % 64).toNat, by omega⟩
    obtain ⟨g, hg⟩ : ∃ g : Nat, (1 + k / 512 % 2 : Int) = g := ⟨(1 + k / 512 % 2).toNat, by omega⟩
    rw [hm, hg]
    have h1 : 1 ≤ (m : Int) ∧ (m : Int) ≤ 64 := by omega
    cases hi : decide (k / 256 % 2 = 1) with
    | true => exact ⟨_, _, _, _, _, _, _, forIn h1 (by omega), by omega, lenIn h1, fun hr hl => decBIn76 (f := ⟨#[97]⟩) (x := ⟨#[100, 97, 116, 97]⟩) (by simpa [encIn] using hr) h1 hk97 (by decide) (by decide) hl⟩
    | false => exact ⟨_, _, _, _, _, _, _, forOut h1 (by omega), by omega, lenOut h1, fun hr hl => decBOut76 (f := ⟨#[97]⟩) (by simpa [encOut] using hr) h1 hk97 (by decide) hl⟩
  · rw [if_neg h, if_neg h, if_neg h, if_neg h, if_neg h, if_neg h]
    obtain ⟨s, hs⟩ : ∃ s : Nat, (1 + k / 4 % 50 : Int) = s := ⟨(1 + k / 4 % 50).toNat, by omega⟩
    obtain ⟨t, ht⟩ : ∃ t : Nat, (k / 200 % 8 : Int) = t := ⟨(k / 200 % 8).toNat, by omega⟩
    obtain ⟨p, hp⟩ : ∃ p : Nat, (1 + k % 3 : Int) = p := ⟨(1 + k % 3).toNat, by omega⟩
    obtain ⟨g, hg⟩ : ∃ g : Nat, (1 + k / 1600 % 2 : Int) = g := ⟨(1 + k / 1600 % 2).toNat, by omega⟩
    rw [hs, ht, hp, hg]
    have h1 : EffOk (s : Int) (t : Int) (p : Int) := by unfold EffOk; omega
    have h2 : NumOk (1 + (t : Int)) := by unfold NumOk; omega
    exact ⟨_, _, _, _, _, _, _, forEff h1 (by omega), by omega, lenEff (g := g) h1, fun hr hl => decBEff76 (k := ⟨#[107]⟩) (d := 1 + (t : Int)) (by simpa [encEff] using hr) h1 hk107 (by decide) (by omega) h2 hl⟩
end Go.Proofs.YtbgnoibellfojaaGreatDoor
