/- Contracts and lemmas for the claim (part 12); no condition of its own. -/
import Derived.Test.YtjkmpaggfbghiaaGreatDoorYQC511
import Derived.Test.YtjkmpaggfbghiaaGreatDoorYQC506
set_option linter.all false
set_option maxRecDepth 100000
set_option maxHeartbeats 0
set_option linter.unusedVariables false
set_option linter.unusedSimpArgs false
set_option linter.unnecessarySimpa false
namespace Go.Proofs.YtjkmpaggfbghiaaGreatDoor
open Go Go.X
def owF (T : List (Nat × OM.Pt)) (own : Int) : Nat → Int
  | 0 => own
  | i + 1 => match T[i]? with | some x => x.2.group | none => own
def okAt (T : List (Nat × OM.Pt)) (own : Int) (i : Nat) : Prop := ∀ x, T[i]? = some x → ¬ (owF T own i ≠ 0 ∧ x.2.group ≠ owF T own i)
theorem owF_cons {T : List (Nat × OM.Pt)} {own : Int} {y : Nat × OM.Pt} {i : Nat} (h : i < T.length + 1) : owF (y :: T) own (i + 1) = owF T y.2.group i := by
  cases i with
  | zero => rfl
  | succ i =>
    show (match (y :: T)[i + 1]? with | some x => x.2.group | none => own) = (match T[i]? with | some x => x.2.group | none => y.2.group)
    rw [List.getElem?_cons_succ]
    have : i < T.length := by omega
    rw [List.getElem?_eq_getElem this]
theorem ownT_ok {r : OM.Rg} : ∀ {l : List OM.Pt} {own : Int} {k : Nat}, (∀ i, i < (tcF r k l).length → okAt (tcF r k l) own i) → OM.ownerF r own l = some (owF (tcF r k l) own (tcF r k l).length)
  | [], own, k, _ => rfl
  | p :: l, own, k, h => by
    unfold OM.ownerF tcF at *
    by_cases hm : OM.meets p.r r = true
    · simp only [hm, if_true] at h ⊢
      have h0 : ¬ (own ≠ 0 ∧ p.group ≠ own) := h 0 (by simp) _ rfl
      rw [if_neg h0, ownT_ok (k := k + 1) (fun i hi x hx => ?_)]
      · rw [List.length_cons, owF_cons (by omega)]
      · have := h (i + 1) (by rw [List.length_cons]; omega) x (by rw [List.getElem?_cons_succ]; exact hx)
        rwa [owF_cons (by omega)] at this
    · have hm : OM.meets p.r r = false := by simpa using hm
      simp only [hm, Bool.false_eq_true, if_false] at h ⊢
      exact ownT_ok h
theorem ownT_bad {r : OM.Rg} : ∀ {l : List OM.Pt} {own : Int} {k s : Nat} {x : Nat × OM.Pt}, (tcF r k l)[s]? = some x → (owF (tcF r k l) own s ≠ 0 ∧ x.2.group ≠ owF (tcF r k l) own s) → OM.ownerF r own l = none
  | [], _, _, _, _, h, _ => by simp [tcF] at h
  | p :: l, own, k, s, x, h, hb => by
    unfold OM.ownerF tcF at *
    by_cases hm : OM.meets p.r r = true
    · simp only [hm, if_true] at h hb ⊢
      by_cases h0 : own ≠ 0 ∧ p.group ≠ own
      · rw [if_pos h0]
      · rw [if_neg h0]
        cases s with
        | zero =>
          have : (k, p) = x := by simpa using h
          subst this
          exact absurd hb h0
        | succ s =>
          have hx : (tcF r (k + 1) l)[s]? = some x := by simpa using h
          have hs : s < (tcF r (k + 1) l).length := (List.getElem?_eq_some_iff.1 hx).1
          rw [owF_cons (by omega)] at hb
          exact ownT_bad hx hb
    · have hm : OM.meets p.r r = false := by simpa using hm
      simp only [hm, Bool.false_eq_true, if_false] at h hb ⊢
      exact ownT_bad h hb
theorem own_stop (T : List (Nat × OM.Pt)) : ∃ s, s ≤ T.length ∧ (∀ i, i < s → okAt T 0 i) ∧ (s < T.length → ∃ x, T[s]? = some x ∧ (owF T 0 s ≠ 0 ∧ x.2.group ≠ owF T 0 s)) := by
  have main : ∀ n, (∀ i, i < n → okAt T 0 i) ∨ ∃ s, s < n ∧ (∀ i, i < s → okAt T 0 i) ∧ ∃ x, T[s]? = some x ∧ (owF T 0 s ≠ 0 ∧ x.2.group ≠ owF T 0 s) := by
    intro n
    induction n with
    | zero => exact .inl fun i h => absurd h (Nat.not_lt_zero _)
    | succ n ih =>
      rcases ih with ih | ⟨s, h1, h2⟩
      · by_cases h : okAt T 0 n
        · exact .inl fun i hi => (Nat.lt_succ_iff_lt_or_eq.1 hi).elim (ih i) (fun e => e ▸ h)
        · right
          unfold okAt at h
          simp only [Classical.not_forall, Classical.not_not] at h
          obtain ⟨x, hx, hb⟩ := h
          exact ⟨n, Nat.lt_succ_self _, ih, x, hx, hb⟩
      · exact .inr ⟨s, by omega, h2⟩
  rcases main T.length with h | ⟨s, h1, h2, h3⟩
  · exact ⟨T.length, Nat.le_refl _, h, fun h => absurd h (Nat.lt_irrefl _)⟩
  · exact ⟨s, by omega, h2, fun _ => h3⟩
def ownV : Option Int → Value
  | none => .tuple #[.int .i64 0, .bool false, .int .i64 0]
  | some g => .tuple #[.int .i64 g, .bool (decide (0 < g)), .int .i64 0]
theorem owner1099 {t : Nat} {l : List OM.Pt} {r : OM.Rg} (h0 : 0 < l.length) (hl : l.length ≤ 1000) (hok : ∀ p ∈ l, p.r.ok = true) (hr : r.ok = true) (w : World) :
    Fr Tryz.prog 99 #[pv t, .agg #[.string r.lo, .string r.hi]] w (AssL [.ext 12 (PtsA t l)]) (ownV (OM.ownerF r 0 l)) (AssL [.ext 12 (PtsA t l)]) := by
  have hc1115 : ∀ w, Pu Tryz.prog 115 #[.agg #[.string r.lo, .string r.hi]] w (.int .i64 0) := fun w => chk1115 (rsz hr) (by rw [if_pos hr]) w
  obtain ⟨s, hs1, hs2, hs3⟩ := own_stop (tcF r 0 l)
  refine enter_fr TBok (H := [.ext 12 (PtsA t l)]) all_foot Tryz.func99 rfl rfl Tryz.ntmps99 [.loc t 0 0, .agg [.v (.string r.lo), .v (.string r.hi)]] rfl rfl ?_
  intro S
  conv => whnf
  refine Run.ex (A := ptsH t l) (i := 12) .head ?_
  rintro ⟨a, cap⟩
  dsimp only [ptsH, layF]
  repeat' (first
 | with_reducible ((first | refine r_seq (fun KS hS => ?_) | (refine hS _ _ ?_; clear hS KS) | (refine hB _ ?_; clear hB KB) | refine r_block ?_))
 | ((with_reducible (first | refine r_region ?_ | refine r_cond (fun KA hA KB hB => ?_) | refine r_ret ?_ | refine r_skip ?_ | refine And.intro rfl ?_ | intro b)); conv => whnf)
 | ((with_reducible refine CallK.id ?_); (first | apply in1121 | apply in1153); rfl; rfl; rfl; intro A; conv => whnf)
 | ((with_reducible refine CallK.at 115 ?_); refine CallK.pu (fun w => hc1115 w) ?_; conv => whnf)
 | ((with_reducible apply OpK.more); (focus refine sok); (conv => whnf); fail_if_success guard_target =ₛ False)
 | (refine if_ndecF (by omega) ?_; conv => whnf)
 | with_reducible apply_assumption -symm -exfalso)
  rename_i bo bi be _ _ _ _ _ _ _ bw bm
  refine r_rangeX (fun i => [.blk 2 bo [.v (.int .i64 0)] 3, .blk 3 bi [.v (.bool false)] 4, .blk 4 be [.v (.int .i64 0)] 32, .blk 5 bw [.v (.int .i64 (owF (tcF r 0 l) 0 (min i s)))] 3]) ((tcF r 0 l).map ptX) s .ret 40 rfl (by simp) ?_ (touch1201 (t := t) (bx := bm) (br := b) hl hok hr) ?_ (by decide) ?_ ?_ ?_
  · rw [Nat.zero_min]
    exact HSub.trans (HSub.app2 (A' := [.blk 11 bm [.loc t 0 0] 119, .blk 13 b [.v (.string r.lo), .v (.string r.hi)] 37]) (HSub.refl _) (HSub.app2 (A' := [.ext 12 (PtsA t l)]) (pts_id (i := 0) (j := 1) (t := t) (l := l) (a := a) (cap := cap) rfl) (HSub.refl _))) (by (try dsimp only [List.cons_append, List.nil_append, den, denL]); refine SelI.spec ?_; (repeat (first | refine SelI.blk (by repeat (first | with_reducible apply Rm.head | apply Rm.tail)) ?_ | refine SelI.ext (by repeat (first | with_reducible apply Rm.head | apply Rm.tail)) ?_ | (refine SelI.blk' (by repeat (first | with_reducible apply Rm.head | apply Rm.tail)) ?_ ?_; focus rfl) | (refine SelI.ext' (by repeat (first | with_reducible apply Rm.head | apply Rm.tail)) ?_ ?_; focus rfl))); exact SelI.nil)
  · intro x hx
    obtain ⟨y, _, rfl⟩ := List.mem_map.1 hx
    rfl
  · intro i x hx hi lp rc W' S'
    rw [List.getElem?_map, Option.map_eq_some_iff] at hx
    obtain ⟨⟨n, p⟩, hx, rfl⟩ := hx
    have hil : i < (tcF r 0 l).length := (List.getElem?_eq_some_iff.1 hx).1
    obtain ⟨ow, how⟩ : ∃ ow, owF (tcF r 0 l) 0 i = ow := ⟨_, rfl⟩
    rw [Nat.min_eq_left hi, how]
    conv => whnf
    by_cases hlt : i < s
    · have hgd : ¬ (ow ≠ 0 ∧ p.group ≠ ow) := how ▸ hs2 i hlt _ hx
      have hgd2 : ¬ (ow ≠ 0 ∧ (n, p).2.group ≠ ow) := hgd
      have hnx : owF (tcF r 0 l) 0 (min (i + 1) s) = p.group := by
        rw [Nat.min_eq_left (by omega)]
        show (match (tcF r 0 l)[i]? with | some x => x.2.group | none => 0) = _
        rw [hx]
      rw [if_pos hlt, hnx]
      repeat' (first
 | ((with_reducible (first | refine r_region ?_ | refine And.intro rfl ?_ | intro b)); conv => whnf))
      refine AssignX.rm (by repeat (first | with_reducible apply Rm.head | apply Rm.tail)) ?_
      repeat' (first
 | with_reducible ((first | refine r_seq (fun KS hS => ?_) | (refine hS _ _ ?_; clear hS KS) | (refine hB _ ?_; clear hB KB) | refine r_block ?_))
 | ((with_reducible (first | refine r_region ?_ | refine r_cond (fun KA hA KB hB => ?_) | refine r_skip ?_ | refine And.intro rfl ?_)); conv => whnf)
 | (refine if_ndecF (by omega) ?_; conv => whnf)
 | (refine if_ndec (fun h => ?_) (fun h => ?_); all_goals (conv => whnf))
 | with_reducible apply_assumption -symm -exfalso)
      all_goals first | exact ⟨rfl, (by (try dsimp only [List.cons_append, List.nil_append, den, denL]); refine SelI.spec ?_; (repeat (first | refine SelI.blk (by repeat (first | with_reducible apply Rm.head | apply Rm.tail)) ?_ | refine SelI.ext (by repeat (first | with_reducible apply Rm.head | apply Rm.tail)) ?_ | (refine SelI.blk' (by repeat (first | with_reducible apply Rm.head | apply Rm.tail)) ?_ ?_; focus rfl) | (refine SelI.ext' (by repeat (first | with_reducible apply Rm.head | apply Rm.tail)) ?_ ?_; focus rfl))); exact SelI.nil)⟩ | (exfalso; omega)
    · obtain rfl : i = s := by omega
      obtain ⟨y, hy1, hy2⟩ := hs3 hil
      have : (n, p) = y := by rw [hx] at hy1; simpa using hy1
      subst this
      rw [how] at hy2
      obtain ⟨hy2, hy3⟩ := hy2
      have hy3 : p.group ≠ ow := hy3
      have hy4 : (n, p).2.group ≠ ow := hy3
      rw [if_neg hlt, Nat.min_eq_right (by omega), how]
      repeat' (first
 | ((with_reducible (first | refine r_region ?_ | refine And.intro rfl ?_ | intro b)); conv => whnf))
      refine AssignX.rm (by repeat (first | with_reducible apply Rm.head | apply Rm.tail)) ?_
      repeat' (first
 | with_reducible ((first | refine r_seq (fun KS hS => ?_) | (refine hS _ _ ?_; clear hS KS) | (refine hA _ ?_; clear hA KA) | refine r_block ?_))
 | ((with_reducible (first | refine r_region ?_ | refine r_cond (fun KA hA KB hB => ?_) | refine r_ret ?_ | refine And.intro rfl ?_)); conv => whnf)
 | (refine if_ndecT (by omega) ?_; conv => whnf))
      all_goals first | exact ⟨rfl, (by (try dsimp only [List.cons_append, List.nil_append, den, denL]); refine SelI.spec ?_; (repeat (first | refine SelI.blk (by repeat (first | with_reducible apply Rm.head | apply Rm.tail)) ?_ | refine SelI.ext (by repeat (first | with_reducible apply Rm.head | apply Rm.tail)) ?_ | (refine SelI.blk' (by repeat (first | with_reducible apply Rm.head | apply Rm.tail)) ?_ ?_; focus rfl) | (refine SelI.ext' (by repeat (first | with_reducible apply Rm.head | apply Rm.tail)) ?_ ?_; focus rfl))); exact SelI.nil)⟩ | (exfalso; omega)
  · intro hle
    rw [List.length_map] at hle ⊢
    have hse : s = (tcF r 0 l).length := by omega
    have hown := ownT_ok (r := r) (l := l) (own := 0) (k := 0) (hse ▸ hs2)
    rw [← hse, Nat.min_self]
    conv => whnf
    repeat' (first
 | with_reducible ((first | refine r_seq (fun KS hS => ?_) | (refine hS _ _ ?_; clear hS KS)))
 | ((with_reducible (first | refine r_ret ?_ | refine And.intro rfl ?_)); conv => whnf)
 | (apply r_any (id := 12); refine mixed; kernel_rfl; kernel_rfl; conv => whnf)
 | ((with_reducible ((first | refine InAt.mk (fun K' hK => ?_) | refine AnyAt.mk (fun K' hK => ?_) | (refine hK _ ?_; clear hK K') | (refine hK _ _ ?_; clear hK K')))); conv => whnf)
 | (refine And.intro ?_ ?_; all_goals (conv => whnf)))
    all_goals exact FinK.frL (by rw [hown, ← hse]; rfl) (by (try dsimp only [List.cons_append, List.nil_append, den, denL]); refine SelI.spec ?_; (repeat (first | refine SelI.blk (by repeat (first | with_reducible apply Rm.head | apply Rm.tail)) ?_ | refine SelI.ext (by repeat (first | with_reducible apply Rm.head | apply Rm.tail)) ?_ | (refine SelI.blk' (by repeat (first | with_reducible apply Rm.head | apply Rm.tail)) ?_ ?_; focus rfl) | (refine SelI.ext' (by repeat (first | with_reducible apply Rm.head | apply Rm.tail)) ?_ ?_; focus rfl))); exact SelI.nil)
  · intro hle
    rw [List.length_map] at hle
    obtain ⟨y, hy1, hy2⟩ := hs3 hle
    have hbad := ownT_bad (k := 0) hy1 hy2
    conv => whnf
    repeat' (first
 | ((with_reducible refine And.intro rfl ?_); conv => whnf))
    all_goals exact FinK.frL (by rw [hbad]; rfl) (by (try dsimp only [List.cons_append, List.nil_append, den, denL]); refine SelI.spec ?_; (repeat (first | refine SelI.blk (by repeat (first | with_reducible apply Rm.head | apply Rm.tail)) ?_ | refine SelI.ext (by repeat (first | with_reducible apply Rm.head | apply Rm.tail)) ?_ | (refine SelI.blk' (by repeat (first | with_reducible apply Rm.head | apply Rm.tail)) ?_ ?_; focus rfl) | (refine SelI.ext' (by repeat (first | with_reducible apply Rm.head | apply Rm.tail)) ?_ ?_; focus rfl))); exact SelI.nil)
end Go.Proofs.YtjkmpaggfbghiaaGreatDoor

namespace Go.Proofs.YtjkmpaggfbghiaaGreatDoor
open Go Go.X
abbrev rgC (p : OM.Pt) : List Value := [.string p.r.lo, .string p.r.hi]
theorem ranges1060 {t : Nat} {l : List OM.Pt} (h0 : 0 < l.length) (hl : l.length ≤ 1000) (w : World) :
    FrZ Tryz.prog 60 #[pv t] w (AssL [.ext 12 (PtsA t l)]) (fun z : Option Addr × Nat => .slice z.1 l.length z.2) (fun z => AssL [.ext 12 (PtsA t l), .ext 1 (SlA 37 2 z.1 l.length z.2 (l.flatMap rgC))]) := by
  refine enter_frZ TBok (H := [.ext 12 (PtsA t l)]) all_foot Tryz.func60 rfl rfl Tryz.ntmps60 [.loc t 0 0] rfl rfl ?_
  intro S _ _
  conv => whnf
  refine Run.ex (A := ptsH t l) (i := 12) .head ?_
  rintro ⟨a, cap⟩
  dsimp only [ptsH, layF]
  repeat' (first
 | with_reducible ((first | refine r_seq (fun KS hS => ?_) | (refine hS _ _ ?_; clear hS KS) | (refine hB _ ?_; clear hB KB) | refine r_block ?_))
 | ((with_reducible (first | refine r_region ?_ | refine r_cond (fun KA hA KB hB => ?_) | refine r_ret ?_ | refine r_skip ?_ | refine And.intro rfl ?_)); conv => whnf)
 | (apply in1121; rfl; rfl; rfl; intro A; conv => whnf)
 | ((with_reducible apply OpK.more); (focus refine sok); (conv => whnf); fail_if_success guard_target =ₛ False)
 | (refine if_ndecF (by omega) ?_; conv => whnf)
 | with_reducible apply_assumption -symm -exfalso)
  refine r_loop (α := Nat × Option Addr × Nat) (fun z => [(0, .loc t 0 0), (3, .v (.slice z.2.1 z.1 z.2.2)), (12, .v (.slice a l.length cap)), (13, .v (.int .i64 (l.length : Nat))), (14, .v (.int .i64 (z.1 : Nat)))]) (fun z => [.ext 3 (SlA 37 2 z.2.1 z.1 z.2.2 ((l.take z.1).flatMap rgC)), .blk 0 t [.v (.slice a l.length cap)] 202, .ext 1 (SlA 193 4 a l.length cap (l.flatMap ptC))]) (fun z => z.1 ≤ l.length) (fun z => l.length - z.1) (0, Option.none, 0) (Nat.zero_le _) (by repeat' (first | exact Sub.nil | (refine Sub.cons rfl rfl ?_))) (HSub.addSl (by (try dsimp only [List.cons_append, List.nil_append, den, denL]); refine SelI.spec ?_; (repeat (first | refine SelI.blk (by repeat (first | with_reducible apply Rm.head | apply Rm.tail)) ?_ | refine SelI.ext (by repeat (first | with_reducible apply Rm.head | apply Rm.tail)) ?_ | (refine SelI.blk' (by repeat (first | with_reducible apply Rm.head | apply Rm.tail)) ?_ ?_; focus rfl) | (refine SelI.ext' (by repeat (first | with_reducible apply Rm.head | apply Rm.tail)) ?_ ?_; focus rfl))); exact SelI.nil)) ?_
  rintro ⟨i, a2, cap2⟩ hi KL hL
  dsimp only at hi ⊢
  by_cases hlt : i < l.length
  · obtain ⟨p, hp⟩ : ∃ p, l[i]? = some p := ⟨_, List.getElem?_eq_getElem hlt⟩
    repeat' (first
 | with_reducible ((first | refine r_seq (fun KS hS => ?_) | (refine hS _ _ ?_; clear hS KS) | (refine hA _ ?_; clear hA KA) | refine r_block ?_))
 | ((with_reducible (first | refine r_region ?_ | refine r_cond (fun KA hA KB hB => ?_) | refine r_skip ?_ | refine And.intro rfl ?_ | intro b)); conv => whnf)
 | ((with_reducible refine WrapK.i64 ?_ ?_); (focus omega); conv => whnf)
 | ((with_reducible refine OpK.id ?_); (first | refine OpK.idx (k := 4) rfl rfl rfl rfl rfl rfl rfl (Sees.ext (by repeat (first | with_reducible apply At.head | apply At.tail))) (by omega) (by omega) (pt_at hp) (fun bq off hpc => ?_) | refine OpK.ldp rfl rfl hpc (List.cons_ne_nil _ _) ?_ | refine OpK.app (k := 2) rfl rfl rfl rfl rfl rfl rfl rfl (by repeat (first | with_reducible apply At.head | apply At.tail)) (SrcK.slc rfl rfl (by repeat (first | constructor | apply List.Mem.tail)) (Nat.le_refl _) rfl) (big_ok (by omega) (by decide)) (fun a' cap' => ?_)); conv => whnf)
 | (refine hL (i + 1, a', cap') _ _ (by show i + 1 ≤ _; omega) (by show l.length - (i + 1) < l.length - i; omega) (by repeat' (first | exact Sub.nil | (refine Sub.cons rfl rfl ?_))) ?_)
 | (refine if_decT (by omega) ?_; conv => whnf)
 | with_reducible apply_assumption -symm -exfalso)
    dsimp only
    rw [← flat_snoc (g := rgC) hp]
    exact (by (try dsimp only [List.cons_append, List.nil_append, den, denL]); refine SelI.spec ?_; (repeat (first | refine SelI.blk (by repeat (first | with_reducible apply Rm.head | apply Rm.tail)) ?_ | refine SelI.ext (by repeat (first | with_reducible apply Rm.head | apply Rm.tail)) ?_ | (refine SelI.blk' (by repeat (first | with_reducible apply Rm.head | apply Rm.tail)) ?_ ?_; focus rfl) | (refine SelI.ext' (by repeat (first | with_reducible apply Rm.head | apply Rm.tail)) ?_ ?_; focus rfl))); exact SelI.nil)
  · obtain rfl : i = l.length := by omega
    rw [List.take_length]
    repeat' (first
 | with_reducible ((first | refine r_seq (fun KS hS => ?_) | (refine hS _ _ ?_; clear hS KS) | (refine hB _ ?_; clear hB KB)))
 | ((with_reducible (first | refine r_region ?_ | refine r_cond (fun KA hA KB hB => ?_) | refine r_ret ?_ | refine r_exit ?_)); conv => whnf)
 | (refine if_decF (by omega) ?_; conv => whnf)
 | with_reducible apply_assumption -symm -exfalso)
    exact FinK.frZL (a2, cap2) rfl (HSub.trans (HSub.app2 (A' := [.ext 12 (PtsA t l)]) (B' := [.ext 1 (SlA 37 2 a2 l.length cap2 (l.flatMap rgC))]) (pts_id (i := 0) (j := 1) (t := t) (l := l) (a := a) (cap := cap) rfl) (HSub.refl _)) (by (try dsimp only [List.cons_append, List.nil_append, den, denL]); refine SelI.spec ?_; (repeat (first | refine SelI.blk (by repeat (first | with_reducible apply Rm.head | apply Rm.tail)) ?_ | refine SelI.ext (by repeat (first | with_reducible apply Rm.head | apply Rm.tail)) ?_ | (refine SelI.blk' (by repeat (first | with_reducible apply Rm.head | apply Rm.tail)) ?_ ?_; focus rfl) | (refine SelI.ext' (by repeat (first | with_reducible apply Rm.head | apply Rm.tail)) ?_ ?_; focus rfl))); exact SelI.nil))
end Go.Proofs.YtjkmpaggfbghiaaGreatDoor

namespace Go.Proofs.YtjkmpaggfbghiaaGreatDoor
open Go Go.X
theorem grow1202 {n : Nat} (h0 : 0 < n) (hn : n ≤ 1000) (w : World) :
    FrZ Tryz.prog 202 #[.slice Option.none 0 0, .int .i64 (n : Nat)] w emp (fun z : Option Addr × Nat => .slice z.1 0 z.2) (fun z => SlA 193 4 z.1 0 z.2 []) := by
  refine enter_frZ TBok (H := []) emp_foot Tryz.func202 rfl rfl Tryz.ntmps202 [.v (.slice Option.none 0 0), .v (.int .i64 (n : Nat))] rfl rfl ?_
  intro S hE _
  conv => whnf
  repeat' (first
 | with_reducible ((first | refine r_seq (fun KS hS => ?_) | (refine hS _ _ ?_; clear hS KS) | (refine hA _ ?_; clear hA KA) | (refine hB _ ?_; clear hB KB)))
 | ((with_reducible (first | refine r_region ?_ | refine r_cond (fun KA hA KB hB => ?_) | refine r_ret ?_ | refine r_skip ?_ | intro b)); conv => whnf)
 | ((with_reducible refine WrapK.i64 ?_ ?_); (focus omega); conv => whnf)
 | ((with_reducible refine OpK.id ?_); (first | refine OpK.capS rfl rfl rfl rfl ?_ | refine OpK.slB (u := 0) rfl rfl rfl rfl rfl rfl (Nat.zero_le _) ?_ | refine OpK.appZ (n := n) (k := 4) rfl rfl rfl rfl rfl rfl rfl rfl rfl rfl (by decide) h0 (by omega) (by decide) ?_); conv => whnf)
 | (refine if_decT (by omega) ?_; conv => whnf)
 | with_reducible apply_assumption -symm -exfalso)
  rename_i ba
  exact FinK.frZ (i := 0) (ba, b) rfl (HSub.ext (fun w S h => SlA.pre (cs := []) h (Nat.zero_le _) rfl) HSub.nil)
abbrev CS := Option Addr × Nat × List OM.Pt
abbrev csV (x : CS) : Value := .slice x.1 x.2.2.length x.2.1
abbrev csC (x : CS) : List Value := x.2.2.flatMap ptC
abbrev csN (Ls : List CS) : Nat := (Ls.flatMap fun x => x.2.2).length
theorem one_pts {L : List OM.Pt} : ∀ u ∈ L.flatMap ptC, u.oneCell' = true := by
  intro u hu
  obtain ⟨x, _, hx⟩ := List.mem_flatMap.1 hu
  simp only [ptC, List.mem_cons, List.not_mem_nil, or_false] at hx
  rcases hx with rfl | rfl | rfl | rfl <;> rfl
theorem csN_snoc {Ls : List CS} {i : Nat} {x : CS} (h : Ls[i]? = some x) : csN (Ls.take (i + 1)) = csN (Ls.take i) + x.2.2.length := by
  show ((Ls.take (i + 1)).flatMap fun x => x.2.2).length = _
  rw [← take_snoc h, List.flatMap_append, List.length_append]; simp
theorem csN_le {Ls : List CS} (h5 : Ls.length ≤ 10) (hn : ∀ x ∈ Ls, x.2.2.length ≤ 200) : ∀ i, csN (Ls.take i) ≤ 2000 := by
  have main : ∀ (l : List CS), (∀ x ∈ l, x.2.2.length ≤ 200) → csN l ≤ l.length * 200 := by
    intro l
    induction l with
    | nil => intro _; exact Nat.zero_le _
    | cons y l ih =>
      intro h
      have h1 := h y (by simp)
      have h2 := ih fun x hx => h x (by simp [hx])
      show ((y :: l).flatMap fun x => x.2.2).length ≤ _
      rw [List.flatMap_cons, List.length_append, List.length_cons, Nat.add_mul]
      have : csN l = (l.flatMap fun x => x.2.2).length := rfl
      omega
  intro i
  have h1 := main (Ls.take i) fun x hx => hn x (List.mem_of_mem_take hx)
  have h2 : (Ls.take i).length ≤ 10 := by rw [List.length_take]; omega
  have : (Ls.take i).length * 200 ≤ 10 * 200 := Nat.mul_le_mul_right _ h2
  omega
theorem cs_at {Ls : List CS} {i : Nat} {x : CS} (h : Ls[i]? = some x) : ((Ls.map csV).drop ((i : Int).toNat * 1)).take 1 = denL [.v (csV x)] := by
  rw [List.map_eq_flatMap]
  exact flat_at (g := fun x : CS => [csV x]) (fun _ => rfl) h
theorem concat1159 {Ls : List CS} {a : Option Addr} {cap : Nat} {w : World} (h5 : Ls.length ≤ 10) (hr : RdS w 200 1 a Ls.length cap (Ls.map csV)) (hrs : ∀ x ∈ Ls, RdS w 193 4 x.1 x.2.2.length x.2.1 (csC x)) (hn : ∀ x ∈ Ls, x.2.2.length ≤ 200) (h0 : 0 < csN Ls) (h1000 : csN Ls ≤ 1000) :
    FrZ Tryz.prog 159 #[.slice a Ls.length cap] w emp (fun z : Option Addr × Nat => .slice z.1 (csN Ls) z.2) (fun z => SlA 193 4 z.1 (csN Ls) z.2 ((Ls.flatMap fun x => x.2.2).flatMap ptC)) := by
  have hcl := csN_le h5 hn
  refine enter_frZ TBok (H := []) emp_foot Tryz.func159 rfl rfl Tryz.ntmps159 [.v (.slice a Ls.length cap)] rfl rfl ?_
  intro S hE _
  have hs := fun n' r H => Sees.old (c := ⟨Tryz.prog, TB, n', w, S, r, TBok⟩) (H := H) (hr.oldE hE)
  have hss := fun x (hx : x ∈ Ls) n' r H => Sees.old (c := ⟨Tryz.prog, TB, n', w, S, r, TBok⟩) (H := H) ((hrs x hx).oldE hE)
  conv => whnf
  repeat' (first
 | with_reducible ((first | refine r_seq (fun KS hS => ?_) | (refine hS _ _ ?_; clear hS KS) | refine r_block ?_))
 | ((with_reducible refine r_region ?_); conv => whnf))
  refine r_loop (α := Nat) (fun i => [(0, .v (.slice a Ls.length cap)), (3, .v (.int .i64 (csN (Ls.take i) : Nat))), (9, .v (.slice a Ls.length cap)), (10, .v (.int .i64 (Ls.length : Nat))), (11, .v (.int .i64 (i : Nat)))]) (fun _ => []) (fun i => i ≤ Ls.length) (fun i => Ls.length - i) 0 (Nat.zero_le _) (by repeat' (first | exact Sub.nil | (refine Sub.cons rfl rfl ?_))) (HSub.none _) ?_
  intro i hi KL hL
  by_cases hlt : i < Ls.length
  · obtain ⟨x, hx⟩ : ∃ x, Ls[i]? = some x := ⟨_, List.getElem?_eq_getElem hlt⟩
    have hxm := List.mem_of_getElem? hx
    have hxn := hn x hxm
    have hci := hcl i
    have hcs := csN_snoc hx
    have hadd : ((csN (Ls.take i) : Nat) : Int) + (x.2.2.length : Nat) = (csN (Ls.take (i + 1)) : Nat) := by omega
    repeat' (first
 | with_reducible ((first | refine r_seq (fun KS hS => ?_) | (refine hS _ _ ?_; clear hS KS) | (refine hA _ ?_; clear hA KA) | (refine hB _ ?_; clear hB KB) | refine r_block ?_))
 | ((with_reducible (first | refine r_region ?_ | refine r_cond (fun KA hA KB hB => ?_) | refine r_skip ?_)); conv => whnf)
 | ((with_reducible refine WrapK.i64 ?_ ?_); (focus omega); conv => whnf)
 | ((with_reducible refine OpK.id ?_); (first | refine OpK.idx (k := 1) rfl rfl rfl rfl rfl rfl rfl (hs _ _ _) (by omega) (by omega) (cs_at hx) (fun bq off hpc => ?_) | refine OpK.ldp rfl rfl hpc (List.cons_ne_nil _ _) ?_); conv => whnf)
 | (refine hL (i + 1) _ _ (by show i + 1 ≤ _; omega) (by show Ls.length - (i + 1) < Ls.length - i; omega) ?_ (HSub.none _))
 | (refine if_decT (by omega) ?_; conv => whnf)
 | with_reducible apply_assumption -symm -exfalso)
    rw [← hadd]
    exact (by repeat' (first | exact Sub.nil | (refine Sub.cons rfl rfl ?_)))
  · obtain rfl : i = Ls.length := by omega
    rw [List.take_length]
    repeat' (first
 | with_reducible ((first | refine r_seq (fun KS hS => ?_) | (refine hS _ _ ?_; clear hS KS) | (refine hB _ ?_; clear hB KB) | refine r_block ?_))
 | ((with_reducible (first | refine r_region ?_ | refine r_cond (fun KA hA KB hB => ?_) | refine r_exit ?_ | intro b)); conv => whnf)
 | ((with_reducible refine CallK.id ?_); refine CallK.fresh (fun ms w hk => grow1202 h0 h1000 w) ?_; conv => whnf)
 | (refine if_decF (by omega) ?_; conv => whnf)
 | with_reducible apply_assumption -symm -exfalso)
    rcases b with ⟨ga, gcap⟩
    dsimp only
    refine r_loop (α := Nat × Option Addr × Nat) (fun z => [(0, .v (.slice a Ls.length cap)), (6, .v (.slice z.2.1 (csN (Ls.take z.1)) z.2.2)), (25, .v (.slice a Ls.length cap)), (26, .v (.int .i64 (Ls.length : Nat))), (27, .v (.int .i64 (z.1 : Nat)))]) (fun z => [.ext 0 (SlA 193 4 z.2.1 (csN (Ls.take z.1)) z.2.2 (((Ls.take z.1).flatMap fun x => x.2.2).flatMap ptC))]) (fun z => z.1 ≤ Ls.length) (fun z => Ls.length - z.1) (0, ga, gcap) (Nat.zero_le _) (by repeat' (first | exact Sub.nil | (refine Sub.cons rfl rfl ?_))) (by (try dsimp only [List.cons_append, List.nil_append, den, denL]); refine SelI.spec ?_; (repeat (first | refine SelI.blk (by repeat (first | with_reducible apply Rm.head | apply Rm.tail)) ?_ | refine SelI.ext (by repeat (first | with_reducible apply Rm.head | apply Rm.tail)) ?_ | (refine SelI.blk' (by repeat (first | with_reducible apply Rm.head | apply Rm.tail)) ?_ ?_; focus rfl) | (refine SelI.ext' (by repeat (first | with_reducible apply Rm.head | apply Rm.tail)) ?_ ?_; focus rfl))); exact SelI.nil) ?_
    rintro ⟨i, a2, cap2⟩ hi KL hL
    dsimp only at hi ⊢
    by_cases hlt : i < Ls.length
    · obtain ⟨x, hx⟩ : ∃ x, Ls[i]? = some x := ⟨_, List.getElem?_eq_getElem hlt⟩
      have hxm := List.mem_of_getElem? hx
      have hxn := hn x hxm
      have hci := hcl i
      have hcs := csN_snoc hx
      have hflat : ((Ls.take (i + 1)).flatMap fun x => x.2.2).flatMap ptC = ((Ls.take i).flatMap fun x => x.2.2).flatMap ptC ++ csC x := by
        rw [← take_snoc hx, List.flatMap_append, List.flatMap_append]; simp
      repeat' (first
 | with_reducible ((first | refine r_seq (fun KS hS => ?_) | (refine hS _ _ ?_; clear hS KS) | (refine hA _ ?_; clear hA KA) | refine r_block ?_))
 | ((with_reducible (first | refine r_region ?_ | refine r_cond (fun KA hA KB hB => ?_) | refine r_skip ?_)); conv => whnf)
 | ((with_reducible refine WrapK.i64 ?_ ?_); (focus omega); conv => whnf)
 | ((with_reducible refine OpK.id ?_); (first | refine OpK.idx (k := 1) rfl rfl rfl rfl rfl rfl rfl (hs _ _ _) (by omega) (by omega) (cs_at hx) (fun bq off hpc => ?_) | refine OpK.ldp rfl rfl hpc (List.cons_ne_nil _ _) ?_ | refine OpK.app (k := 4) rfl rfl rfl rfl rfl rfl rfl rfl (by repeat (first | with_reducible apply At.head | apply At.tail)) (SrcK.sees rfl rfl (hss x hxm _ _ _) one_pts) (big_ok (by omega) (by decide)) (fun a' cap' => ?_)); conv => whnf)
 | (refine hL (i + 1, a', cap') _ _ (by show i + 1 ≤ _; omega) (by show Ls.length - (i + 1) < Ls.length - i; omega) (by dsimp only; rw [hcs]; exact (by repeat' (first | exact Sub.nil | (refine Sub.cons rfl rfl ?_)))) ?_)
 | (refine if_decT (by omega) ?_; conv => whnf)
 | with_reducible apply_assumption -symm -exfalso)
      dsimp only
      rw [hcs, hflat]
      exact (by (try dsimp only [List.cons_append, List.nil_append, den, denL]); refine SelI.spec ?_; (repeat (first | refine SelI.blk (by repeat (first | with_reducible apply Rm.head | apply Rm.tail)) ?_ | refine SelI.ext (by repeat (first | with_reducible apply Rm.head | apply Rm.tail)) ?_ | (refine SelI.blk' (by repeat (first | with_reducible apply Rm.head | apply Rm.tail)) ?_ ?_; focus rfl) | (refine SelI.ext' (by repeat (first | with_reducible apply Rm.head | apply Rm.tail)) ?_ ?_; focus rfl))); exact SelI.nil)
    · obtain rfl : i = Ls.length := by omega
      rw [List.take_length]
      repeat' (first
 | with_reducible ((first | refine r_seq (fun KS hS => ?_) | (refine hS _ _ ?_; clear hS KS) | (refine hB _ ?_; clear hB KB)))
 | ((with_reducible (first | refine r_region ?_ | refine r_cond (fun KA hA KB hB => ?_) | refine r_ret ?_ | refine r_exit ?_)); conv => whnf)
 | (refine if_decF (by omega) ?_; conv => whnf)
 | with_reducible apply_assumption -symm -exfalso)
      exact FinK.frZ (i := 0) (a2, cap2) rfl (by (try dsimp only [List.cons_append, List.nil_append, den, denL]); refine SelI.spec ?_; (repeat (first | refine SelI.blk (by repeat (first | with_reducible apply Rm.head | apply Rm.tail)) ?_ | refine SelI.ext (by repeat (first | with_reducible apply Rm.head | apply Rm.tail)) ?_ | (refine SelI.blk' (by repeat (first | with_reducible apply Rm.head | apply Rm.tail)) ?_ ?_; focus rfl) | (refine SelI.ext' (by repeat (first | with_reducible apply Rm.head | apply Rm.tail)) ?_ ?_; focus rfl))); exact SelI.nil)
end Go.Proofs.YtjkmpaggfbghiaaGreatDoor

namespace Go.Proofs.YtjkmpaggfbghiaaGreatDoor
open Go Go.X
abbrev wtL (r : OM.Rg) (p : OM.Pt) : List OM.Pt := (OM.without p.r r).map fun s => ⟨s, p.group, p.epoch⟩
def leT (r : OM.Rg) (T : List (Nat × OM.Pt)) : List OM.Pt := T.flatMap fun x => wtL r x.2
def epT (T : List (Nat × OM.Pt)) : Int := T.foldl (fun a x => max a x.2.epoch) 0
def fsT : List (Nat × OM.Pt) → Int
  | [] => -1
  | x :: _ => (x.1 : Int)
def lsT (T : List (Nat × OM.Pt)) : Int := T.foldl (fun _ x => (x.1 : Int)) (-1)
theorem leT_snoc {r : OM.Rg} {A : List (Nat × OM.Pt)} {x : Nat × OM.Pt} : leT r (A ++ [x]) = leT r A ++ wtL r x.2 := by unfold leT; rw [List.flatMap_append]; simp
theorem epT_snoc {A : List (Nat × OM.Pt)} {x : Nat × OM.Pt} : epT (A ++ [x]) = max (epT A) x.2.epoch := by unfold epT; rw [List.foldl_append]; rfl
theorem lsT_snoc {A : List (Nat × OM.Pt)} {x : Nat × OM.Pt} : lsT (A ++ [x]) = x.1 := by unfold lsT; rw [List.foldl_append]; rfl
theorem fsT_snoc {A : List (Nat × OM.Pt)} {x : Nat × OM.Pt} : fsT (A ++ [x]) = if fsT A < 0 then (x.1 : Int) else fsT A := by
  cases A with
  | nil => rfl
  | cons y l => show (y.1 : Int) = if (y.1 : Int) < 0 then _ else (y.1 : Int); rw [if_neg (by omega)]
theorem tcF_map (r : OM.Rg) : ∀ (l : List OM.Pt) (k : Nat), (tcF r k l).map (·.2) = l.filter fun p => OM.meets p.r r
  | [], _ => rfl
  | p :: l, k => by
    rw [tcF, List.filter_cons]
    by_cases h : OM.meets p.r r = true
    · rw [if_pos h, if_pos h, List.map_cons, tcF_map r l (k + 1)]
    · rw [if_neg h, if_neg h]; exact tcF_map r l (k + 1)
theorem fs_spec (r : OM.Rg) : ∀ (l : List OM.Pt) (k : Nat), (∃ p ∈ l, OM.meets p.r r = true) → fsT (tcF r k l) = ((k + OM.firstIx r l : Nat) : Int)
  | [], _, h => by obtain ⟨_, h, _⟩ := h; cases h
  | p :: l, k, h => by
    unfold OM.firstIx
    rw [tcF, List.findIdx_cons]
    by_cases hm : OM.meets p.r r = true
    · rw [if_pos hm, hm]; rfl
    · have hm2 : OM.meets p.r r = false := by simpa using hm
      rw [if_neg hm, hm2]
      obtain ⟨q, hq, hq2⟩ := h
      rcases List.mem_cons.1 hq with rfl | hq
      · exact absurd hq2 hm
      · rw [fs_spec r l (k + 1) ⟨q, hq, hq2⟩]
        unfold OM.firstIx
        simp only [cond_false]
        congr 1
        omega
theorem tcF_append (r : OM.Rg) : ∀ (A B : List OM.Pt) (k : Nat), tcF r k (A ++ B) = tcF r k A ++ tcF r (k + A.length) B
  | [], B, k => rfl
  | p :: A, B, k => by
    rw [List.cons_append, tcF, tcF, tcF_append r A B (k + 1), show k + 1 + A.length = k + (p :: A).length by rw [List.length_cons]; omega]
    by_cases h : OM.meets p.r r = true
    · rw [if_pos h, if_pos h]; rfl
    · rw [if_neg h, if_neg h]
theorem ls_spec (r : OM.Rg) (l : List OM.Pt) (h : ∃ p ∈ l, OM.meets p.r r = true) : lsT (tcF r 0 l) = ((OM.lastIx r l : Nat) : Int) := by
  have main : ∀ (m : List OM.Pt), (∃ p ∈ m, OM.meets p.r r = true) → lsT (tcF r 0 m.reverse) = ((m.length - 1 - m.findIdx (fun p => OM.meets p.r r) : Nat) : Int) := by
    intro m
    induction m with
    | nil => rintro ⟨_, h, _⟩; cases h
    | cons p m ih =>
      intro h
      rw [List.reverse_cons, tcF_append, List.findIdx_cons]
      by_cases hm : OM.meets p.r r = true
      · rw [show tcF r (0 + m.reverse.length) [p] = [(0 + m.reverse.length, p)] by rw [tcF, if_pos hm]; rfl, lsT_snoc, hm]
        simp
      · have hm2 : OM.meets p.r r = false := by simpa using hm
        rw [show tcF r (0 + m.reverse.length) [p] = [] by rw [tcF, if_neg hm]; rfl, List.append_nil, hm2]
        obtain ⟨q, hq, hq2⟩ := h
        rcases List.mem_cons.1 hq with rfl | hq
        · exact absurd hq2 hm
        · rw [ih ⟨q, hq, hq2⟩]
          simp only [cond_false, List.length_cons]
          congr 1
          omega
  obtain ⟨p, hp, hp2⟩ := h
  have := main l.reverse ⟨p, by simpa using hp, hp2⟩
  rw [List.reverse_reverse, List.length_reverse] at this
  exact this
theorem ep_spec (r : OM.Rg) (l : List OM.Pt) (k : Nat) : epT (tcF r k l) = (l.filter fun p => OM.meets p.r r).foldl (fun a p => max a p.epoch) 0 := by
  rw [← tcF_map r l k]
  unfold epT
  rw [List.foldl_map]
theorem le_spec (r : OM.Rg) (l : List OM.Pt) (k : Nat) : leT r (tcF r k l) = (l.filter fun p => OM.meets p.r r).flatMap fun p => wtL r p := by
  rw [← tcF_map r l k]
  unfold leT
  rw [List.flatMap_map]
theorem moveP_tc {r : OM.Rg} {l : List OM.Pt} {g : Int} (h : ∃ p ∈ l, OM.meets p.r r = true) :
    OM.moveP l r g = l.take (fsT (tcF r 0 l)).toNat ++ ((leT r (tcF r 0 l)).take (OM.leftN r (leT r (tcF r 0 l))) ++ ([⟨r, g, min (epT (tcF r 0 l) + 1) 2147483648⟩] ++ ((leT r (tcF r 0 l)).drop (OM.leftN r (leT r (tcF r 0 l))) ++ l.drop ((lsT (tcF r 0 l)).toNat + 1)))) := by
  rw [fs_spec r l 0 h, ls_spec r l h, ep_spec, le_spec]
  unfold OM.moveP
  simp only [Int.toNat_natCast, Nat.zero_add, List.append_assoc]
end Go.Proofs.YtjkmpaggfbghiaaGreatDoor
namespace Go.Proofs.YtjkmpaggfbghiaaGreatDoor
open Go Go.X
theorem wt_len (r : OM.Rg) (p : OM.Pt) : (wtL r p).length = (OM.without p.r r).length := List.length_map ..
theorem wo_len (a b : OM.Rg) : (OM.without a b).length ≤ 2 := by
  unfold OM.without
  rw [List.length_append]
  have h1 : ∀ (c : Bool) (x : OM.Rg), (if c = true then [x] else []).length ≤ 1 := fun c x => by cases c <;> simp
  have h2 := h1 (ltS a.lo b.lo) ⟨a.lo, if OM.endLt a.hi b.lo then a.hi else b.lo⟩
  have h3 := h1 (OM.endLt b.hi a.hi) ⟨OM.maxS a.lo b.hi, a.hi⟩
  omega
theorem le_len {r : OM.Rg} : ∀ (T : List (Nat × OM.Pt)), (leT r T).length ≤ T.length * 2
  | [] => by simp [leT]
  | x :: T => by
    have h1 := le_len (r := r) T
    have h2 := wo_len x.2.r r
    have e : leT r (x :: T) = wtL r x.2 ++ leT r T := by unfold leT; rw [List.flatMap_cons]
    rw [e, List.length_append, wt_len, List.length_cons]
    omega
theorem tc_len {r : OM.Rg} : ∀ (l : List OM.Pt) (k : Nat), (tcF r k l).length ≤ l.length
  | [], _ => by simp [tcF]
  | p :: l, k => by
    have := tc_len (r := r) l (k + 1)
    rw [tcF]
    split <;> simp <;> omega
theorem ep_rng : ∀ (T : List (Nat × OM.Pt)) (a : Int), (0 ≤ a ∧ a ≤ 2147483648) → (∀ x ∈ T, 0 ≤ x.2.epoch ∧ x.2.epoch ≤ 2147483648) → 0 ≤ T.foldl (fun a x => max a x.2.epoch) a ∧ T.foldl (fun a x => max a x.2.epoch) a ≤ 2147483648
  | [], a, h, _ => h
  | x :: T, a, h, ht => by
    rw [List.foldl_cons]
    have h1 := ht x (by simp)
    exact ep_rng T _ (by omega) fun y hy => ht y (by simp [hy])
theorem tc_mem {r : OM.Rg} {l : List OM.Pt} {k : Nat} {x : Nat × OM.Pt} (h : x ∈ tcF r k l) : x.2 ∈ l := by
  have : x.2 ∈ (tcF r k l).map (·.2) := List.mem_map.2 ⟨x, h, rfl⟩
  rw [tcF_map] at this
  exact (List.mem_filter.1 this).1
theorem rg_at {L : List OM.Rg} {i : Nat} {s : OM.Rg} (h : L[i]? = some s) : ((rgCells L).drop ((i : Int).toNat * 2)).take 2 = denL [.v (.string s.lo), .v (.string s.hi)] :=
  flat_at (g := fun r : OM.Rg => [Value.string r.lo, Value.string r.hi]) (fun _ => rfl) h
theorem rd_take {w : World} {a : Option Addr} {cap u : Nat} {l : List OM.Pt} (h : RdS w 193 4 a l.length cap (l.flatMap ptC)) (hu : u ≤ l.length) : RdS w 193 4 a (l.take u).length cap ((l.take u).flatMap ptC) := by
  have := h.pre hu
  rw [flat_take ptC_len] at this
  rwa [List.length_take, Nat.min_eq_left hu]
theorem rd_drop {w : World} {a : Option Addr} {cap u : Nat} {l : List OM.Pt} (h : RdS w 193 4 a l.length cap (l.flatMap ptC)) (hu : u ≤ l.length) : RdS w 193 4 (if cap = u then a else a.map (·.add (u * 4))) (l.drop u).length (cap - u) ((l.drop u).flatMap ptC) := by
  have := h.suf hu
  rw [flat_drop ptC_len] at this
  rwa [List.length_drop]
theorem cat51159 {a la : Option Addr} {cap lcap fi li kk b z : Nat} {l L M : List OM.Pt} {r : OM.Rg} {g eq : Int} {w : World} (hM : l.take fi ++ (L.take kk ++ ([⟨r, g, eq⟩] ++ (L.drop kk ++ l.drop (li + 1)))) = M) (hl : l.length ≤ 64) (hL : L.length ≤ 128) (hfl : fi < l.length) (hll : li < l.length) (hkL : kk ≤ L.length) (hM64 : M.length ≤ 64)
    (h1 : RdS w 200 1 (some ⟨b, 0, none⟩) 5 5 [.slice a fi cap, .slice la kk lcap, .slice (some ⟨z, 0, none⟩) 1 1, .slice (if lcap = kk then la else la.map (·.add (kk * 4))) (L.length - kk) (lcap - kk), .slice (if cap = li + 1 then a else a.map (·.add ((li + 1) * 4))) (l.length - (li + 1)) (cap - (li + 1))])
    (h2 : RdS w 193 4 (some ⟨z, 0, none⟩) 1 1 (ptC ⟨r, g, eq⟩)) (h3 : RdS w 193 4 a l.length cap (l.flatMap ptC)) (h4 : RdS w 193 4 la L.length lcap (L.flatMap ptC)) :
    FrZ Tryz.prog 159 #[.slice (some ⟨b, 0, none⟩) 5 5] w emp (fun z : Option Addr × Nat => .slice z.1 M.length z.2) (fun z => SlA 193 4 z.1 M.length z.2 (M.flatMap ptC)) := by
  obtain ⟨Ls, hLs⟩ : ∃ Ls : List CS, Ls = [(a, cap, l.take fi), (la, lcap, L.take kk), (some ⟨z, 0, none⟩, 1, [⟨r, g, eq⟩]), (if lcap = kk then la else la.map (·.add (kk * 4)), lcap - kk, L.drop kk), (if cap = li + 1 then a else a.map (·.add ((li + 1) * 4)), cap - (li + 1), l.drop (li + 1))] := ⟨_, rfl⟩
  have e : (Ls.flatMap fun x => x.2.2) = M := by rw [hLs, ← hM]; simp
  have e5 : Ls.length = 5 := by rw [hLs]; rfl
  have hmap : Ls.map csV = [.slice a fi cap, .slice la kk lcap, .slice (some ⟨z, 0, none⟩) 1 1, .slice (if lcap = kk then la else la.map (·.add (kk * 4))) (L.length - kk) (lcap - kk), .slice (if cap = li + 1 then a else a.map (·.add ((li + 1) * 4))) (l.length - (li + 1)) (cap - (li + 1))] := by
    rw [hLs]
    simp only [List.map_cons, List.map_nil, csV, List.length_take, List.length_drop, List.length_singleton, Nat.min_eq_left (Nat.le_of_lt hfl), Nat.min_eq_left hkL]
  have hN : csN Ls = M.length := congrArg List.length e
  have hpos : 0 < M.length := by rw [← hM]; simp; omega
  have := concat1159 (w := w) (Ls := Ls) (a := some ⟨b, 0, none⟩) (cap := 5) (by omega) (by rw [hmap, e5]; exact h1) (fun x hx => by
    rw [hLs] at hx
    simp only [List.mem_cons, List.not_mem_nil, or_false] at hx
    rcases hx with rfl | rfl | rfl | rfl | rfl
    · exact rd_take h3 (by omega)
    · exact rd_take h4 hkL
    · exact h2
    · exact rd_drop h4 hkL
    · exact rd_drop h3 (by omega)) (fun x hx => by
    rw [hLs] at hx
    simp only [List.mem_cons, List.not_mem_nil, or_false] at hx
    rcases hx with rfl | rfl | rfl | rfl | rfl <;> simp <;> omega) (by omega) (by omega)
  rw [e, e5, hN] at this
  exact this
end Go.Proofs.YtjkmpaggfbghiaaGreatDoor

namespace Go.Proofs.YtjkmpaggfbghiaaGreatDoor
open Go Go.X
theorem isGroup1131 {n : Int} (h : 1 ≤ n ∧ n ≤ 7) (w : World) : Pu Tryz.prog 131 #[.int .i64 n] w (.bool true) := by
  refine enter_sound TBok Tryz.func131 rfl rfl Tryz.ntmps131 [.v (.int .i64 n)] (Kn.start w noS) rfl rfl ?_
  conv => whnf
  repeat' (first
 | with_reducible ((first | refine r_seq (fun KS hS => ?_) | (refine hS _ _ ?_; clear hS KS)))
 | ((with_reducible (first | refine r_region ?_ | refine r_ret ?_)); conv => whnf)
 | (refine if_decT (by omega) ?_; conv => whnf))
  exact FinK.pu (by show Value.bool _ = _; rw [decide_eq_true (by omega)])
theorem rmove1108 {t : Nat} {l : List OM.Pt} {r : OM.Rg} {g own : Int} (h0 : 0 < l.length) (hl : l.length ≤ 64) (hok : ∀ p ∈ l, p.r.ok = true) (hep : ∀ p ∈ l, 0 ≤ p.epoch ∧ p.epoch ≤ 2147483648) (hr : r.ok = true) (hg : 1 ≤ g ∧ g ≤ 7) (hown : OM.ownerF r 0 l = some own) (ho : 0 < own) (hne : own ≠ g) (htc : ∃ p ∈ l, OM.meets p.r r = true) (hlen : (OM.moveP l r g).length ≤ 64) (w : World) :
    Fr Tryz.prog 108 #[pv t, .agg #[.string r.lo, .string r.hi], .int .i64 g] w (AssL [.ext 12 (PtsA t l)]) (.tuple #[.int .i64 (min (epT (tcF r 0 l) + 1) 2147483648), .int .i64 0]) (AssL [.ext 12 (PtsA t (OM.moveP l r g))]) := by
  have how1099 := fun w => owner1099 (t := t) h0 (by omega) hok hr w
  rw [hown] at how1099
  simp only [ownV] at how1099
  rw [decide_eq_true ho] at how1099
  refine enter_fr TBok (H := [.ext 12 (PtsA t l)]) all_foot Tryz.func108 rfl rfl Tryz.ntmps108 [.loc t 0 0, .agg [.v (.string r.lo), .v (.string r.hi)], .v (.int .i64 g)] rfl rfl ?_
  intro S
  conv => whnf
  repeat' (first
 | with_reducible ((first | refine r_seq (fun KS hS => ?_) | (refine hS _ _ ?_; clear hS KS) | (refine hB _ ?_; clear hB KB) | refine r_block ?_))
 | ((with_reducible (first | refine r_region ?_ | refine r_cond (fun KA hA KB hB => ?_) | refine r_ret ?_ | refine r_skip ?_ | refine And.intro rfl ?_ | intro b)); conv => whnf)
 | (apply in1153; rfl; rfl; rfl; intro A; conv => whnf)
 | ((with_reducible refine CallK.id ?_); refine CallK.s1V (by repeat (first | with_reducible apply Rm.head | apply Rm.tail)) (fun ms w hk => how1099 w) ?_; conv => whnf)
 | ((with_reducible refine CallK.at 131 ?_); refine CallK.pu (fun w => isGroup1131 hg w) ?_; conv => whnf)
 | (refine if_decF (by omega) ?_; conv => whnf)
 | with_reducible apply_assumption -symm -exfalso)
  rename_i br _ _ _ _ _ _ bf bl be bv bm
  refine r_rangeN (fun i => [.blk 13 br [.v (.string r.lo), .v (.string r.hi)] 37, .blk 14 bf [.v (.int .i64 (fsT ((tcF r 0 l).take i)))] 3, .blk 15 bl [.v (.int .i64 (lsT ((tcF r 0 l).take i)))] 3, .blk 16 be [.v (.int .i64 (epT ((tcF r 0 l).take i)))] 3, .ext 5 (BxE 17 200 193 4 bv (leT r ((tcF r 0 l).take i)).length ((leT r ((tcF r 0 l).take i)).flatMap ptC))]) ((tcF r 0 l).map ptX) 40 rfl ?_ (touch1201 (t := t) (bx := bm) (br := b) (by omega) hok hr) ?_ (by decide) ?_ ?_
  · exact HSub.trans (HSub.app2 (A' := [.blk 11 bm [.loc t 0 0] 119, .blk 13 b [.v (.string r.lo), .v (.string r.hi)] 37, .ext 12 (PtsA t l), .blk 13 br [.v (.string r.lo), .v (.string r.hi)] 37, .blk 14 bf [.v (.int .i64 (-1))] 3, .blk 15 bl [.v (.int .i64 (-1))] 3, .blk 16 be [.v (.int .i64 0)] 3]) (HSub.refl _) (bx_nil (j := 17))) (by (try dsimp only [List.cons_append, List.nil_append, den, denL]); refine SelI.spec ?_; (repeat (first | refine SelI.blk (by repeat (first | with_reducible apply Rm.head | apply Rm.tail)) ?_ | refine SelI.ext (by repeat (first | with_reducible apply Rm.head | apply Rm.tail)) ?_ | (refine SelI.blk' (by repeat (first | with_reducible apply Rm.head | apply Rm.tail)) ?_ ?_; focus rfl) | (refine SelI.ext' (by repeat (first | with_reducible apply Rm.head | apply Rm.tail)) ?_ ?_; focus rfl))); exact SelI.nil)
  · intro x hx
    obtain ⟨y, _, rfl⟩ := List.mem_map.1 hx
    rfl
  · intro i x hx lp rc W' S'
    rw [List.getElem?_map, Option.map_eq_some_iff] at hx
    obtain ⟨⟨n, p⟩, hx, rfl⟩ := hx
    have hil : i < (tcF r 0 l).length := (List.getElem?_eq_some_iff.1 hx).1
    rw [← take_snoc hx, fsT_snoc, lsT_snoc, epT_snoc, leT_snoc]
    have hmem := tc_mem (List.mem_of_getElem? hx)
    have hpo : p.r.ok = true := hok p hmem
    have hpe : 0 ≤ p.epoch ∧ p.epoch ≤ 2147483648 := hep p hmem
    have hA0 : 0 ≤ epT ((tcF r 0 l).take i) ∧ epT ((tcF r 0 l).take i) ≤ 2147483648 := ep_rng _ 0 (by omega) fun y hy => hep _ (tc_mem (List.mem_of_mem_take hy))
    have hle : (leT r ((tcF r 0 l).take i)).length ≤ 128 := by
      have h1 := le_len (r := r) ((tcF r 0 l).take i)
      have h2 := tc_len (r := r) l 0
      have h3 : ((tcF r 0 l).take i).length ≤ (tcF r 0 l).length := by rw [List.length_take]; omega
      omega
    generalize (tcF r 0 l).take i = A0 at *
    have hw2 := wo_len p.r r
    have hwt := wt_len r p
    have hbe1 : (leT r A0 ++ wtL r p).length = (leT r A0).length + (OM.without p.r r).length := by rw [List.length_append, hwt]
    have hbe2 : (wtL r p).take (OM.without p.r r).length = wtL r p := by rw [← hwt]; exact List.take_length
    have hsn : ∀ (j : Nat) (s : OM.Rg), (OM.without p.r r)[j]? = some s → (leT r A0 ++ (wtL r p).take (j + 1)).flatMap ptC = (leT r A0 ++ (wtL r p).take j).flatMap ptC ++ ptC ⟨s, p.group, p.epoch⟩ := by
      intro j s hs
      have : (wtL r p)[j]? = some ⟨s, p.group, p.epoch⟩ := by rw [List.getElem?_map, hs]; rfl
      rw [← take_snoc this, ← List.append_assoc, List.flatMap_append (xs := leT r A0 ++ _)]
      simp
    conv => whnf
    repeat' (first
 | with_reducible ((first | refine r_seq (fun KS hS => ?_) | (refine hS _ _ ?_; clear hS KS)))
 | ((with_reducible (first | refine r_region ?_ | refine And.intro rfl ?_ | intro b)); conv => whnf))
    revert b
    intro bq
    refine AssignX.rm (by repeat (first | with_reducible apply Rm.head | apply Rm.tail)) ?_
    obtain ⟨F, hF⟩ : ∃ F, (if fsT A0 < 0 then ((n : Nat) : Int) else fsT A0) = F := ⟨_, rfl⟩
    rw [hF]
    have hFp : fsT A0 < 0 → F = n := fun h => by rw [← hF, if_pos h]
    have hFn : ¬ fsT A0 < 0 → F = fsT A0 := fun h => by rw [← hF, if_neg h]
    refine r_block ?_
    refine r_cut (α := Unit) (fun _ => [(4, .loc br 13 0), (12, .loc bl 15 0), (13, .loc be 16 0), (14, .loc bv 17 0), (15, .v (.int .i64 (n : Nat))), (16, .loc bq 41 0)]) (fun _ => [.ext 40 (lrA lp { rc with state := .busy }), .blk 41 bq [.v (.string p.r.lo), .v (.string p.r.hi), .v (.int .i64 p.group), .v (.int .i64 p.epoch)] 193, .blk 13 br [.v (.string r.lo), .v (.string r.hi)] 37, .blk 14 bf [.v (.int .i64 F)] 3, .blk 15 bl [.v (.int .i64 (lsT A0))] 3, .blk 16 be [.v (.int .i64 (epT A0))] 3, .ext 5 (BxE 17 200 193 4 bv (leT r A0).length ((leT r A0).flatMap ptC))]) (fun _ => True) ?_ ?_
    · intro KC hC
      repeat' (first
 | with_reducible ((first | refine r_seq (fun KS hS => ?_) | (refine hS _ _ ?_; clear hS KS) | (refine hA _ ?_; clear hA KA) | (refine hB _ ?_; clear hB KB)))
 | ((with_reducible (first | refine r_region ?_ | refine r_cond (fun KA hA KB hB => ?_) | refine r_skip ?_ | refine And.intro rfl ?_)); conv => whnf)
 | (refine hC () _ _ trivial (by repeat' (first | exact Sub.nil | (refine Sub.cons rfl rfl ?_))) ?_)
 | (refine if_dec (fun h => ?_) (fun h => ?_); all_goals (conv => whnf)))
      all_goals first | (rw [hFp ‹_›]; exact (by (try dsimp only [List.cons_append, List.nil_append, den, denL]); refine SelI.spec ?_; (repeat (first | refine SelI.blk (by repeat (first | with_reducible apply Rm.head | apply Rm.tail)) ?_ | refine SelI.ext (by repeat (first | with_reducible apply Rm.head | apply Rm.tail)) ?_ | (refine SelI.blk' (by repeat (first | with_reducible apply Rm.head | apply Rm.tail)) ?_ ?_; focus rfl) | (refine SelI.ext' (by repeat (first | with_reducible apply Rm.head | apply Rm.tail)) ?_ ?_; focus rfl))); exact SelI.nil)) | (rw [hFn ‹_›]; exact (by (try dsimp only [List.cons_append, List.nil_append, den, denL]); refine SelI.spec ?_; (repeat (first | refine SelI.blk (by repeat (first | with_reducible apply Rm.head | apply Rm.tail)) ?_ | refine SelI.ext (by repeat (first | with_reducible apply Rm.head | apply Rm.tail)) ?_ | (refine SelI.blk' (by repeat (first | with_reducible apply Rm.head | apply Rm.tail)) ?_ ?_; focus rfl) | (refine SelI.ext' (by repeat (first | with_reducible apply Rm.head | apply Rm.tail)) ?_ ?_; focus rfl))); exact SelI.nil))
    rintro - -
    refine r_cut (α := Unit) (fun _ => [(4, .loc br 13 0), (14, .loc bv 17 0), (16, .loc bq 41 0)]) (fun _ => [.ext 40 (lrA lp { rc with state := .busy }), .blk 41 bq [.v (.string p.r.lo), .v (.string p.r.hi), .v (.int .i64 p.group), .v (.int .i64 p.epoch)] 193, .blk 13 br [.v (.string r.lo), .v (.string r.hi)] 37, .blk 14 bf [.v (.int .i64 F)] 3, .blk 15 bl [.v (.int .i64 (n : Nat))] 3, .blk 16 be [.v (.int .i64 (max (epT A0) p.epoch))] 3, .ext 5 (BxE 17 200 193 4 bv (leT r A0).length ((leT r A0).flatMap ptC))]) (fun _ => True) ?_ ?_
    · intro KC hC
      repeat' (first
 | ((with_reducible refine And.intro rfl ?_); conv => whnf)
 | (apply r_any (id := 15); refine mixed; kernel_rfl; kernel_rfl; conv => whnf)
 | ((with_reducible refine OpK.id ?_); refine OpK.maxI rfl rfl rfl ?_; conv => whnf)
 | (refine hC () _ _ trivial (by repeat' (first | exact Sub.nil | (refine Sub.cons rfl rfl ?_))) (by (try dsimp only [List.cons_append, List.nil_append, den, denL]); refine SelI.spec ?_; (repeat (first | refine SelI.blk (by repeat (first | with_reducible apply Rm.head | apply Rm.tail)) ?_ | refine SelI.ext (by repeat (first | with_reducible apply Rm.head | apply Rm.tail)) ?_ | (refine SelI.blk' (by repeat (first | with_reducible apply Rm.head | apply Rm.tail)) ?_ ?_; focus rfl) | (refine SelI.ext' (by repeat (first | with_reducible apply Rm.head | apply Rm.tail)) ?_ ?_; focus rfl))); exact SelI.nil))
 | ((with_reducible ((first | refine InAt.mk (fun K' hK => ?_) | refine AnyAt.mk (fun K' hK => ?_) | (refine hK _ ?_; clear hK K') | (refine hK _ _ ?_; clear hK K')))); conv => whnf)
 | (refine And.intro ?_ ?_; all_goals (conv => whnf)))
    · rintro - -
      repeat' (first
 | with_reducible ((first | refine r_seq (fun KS hS => ?_) | (refine hS _ _ ?_; clear hS KS) | refine r_block ?_))
 | ((with_reducible (first | refine r_region ?_ | refine And.intro rfl ?_ | intro b)); conv => whnf)
 | ((with_reducible refine CallK.id ?_); refine CallK.fresh (fun ms w hk => without1158 hpo hr (rsz hpo) (rsz hr) w) ?_; conv => whnf))
      rcases b with ⟨wa, wcap⟩
      dsimp only
      refine Run.ex (A := bxH 17 200 193 4 bv (leT r A0).length ((leT r A0).flatMap ptC)) (i := 5) (by repeat (first | with_reducible apply Rm.head | apply Rm.tail)) ?_
      rintro ⟨la, lcap⟩
      dsimp only [bxH, layF]
      refine r_loop (α := Nat × Option Addr × Nat) (fun z => [(14, .loc bv 17 0), (16, .loc bq 41 0), (66, .v (.slice wa (OM.without p.r r).length wcap)), (67, .v (.int .i64 ((OM.without p.r r).length : Nat))), (68, .v (.int .i64 (z.1 : Nat)))]) (fun z => [.ext 3 (SlA 193 4 z.2.1 ((leT r A0).length + z.1) z.2.2 ((leT r A0 ++ (wtL r p).take z.1).flatMap ptC)), .blk 17 bv [.v (.slice z.2.1 ((leT r A0).length + z.1) z.2.2)] 200, .ext 41 (SlA 37 2 wa (OM.without p.r r).length wcap (rgCells (OM.without p.r r))), .ext 40 (lrA lp { rc with state := .busy }), .blk 41 bq [.v (.string p.r.lo), .v (.string p.r.hi), .v (.int .i64 p.group), .v (.int .i64 p.epoch)] 193, .blk 13 br [.v (.string r.lo), .v (.string r.hi)] 37, .blk 14 bf [.v (.int .i64 F)] 3, .blk 15 bl [.v (.int .i64 (n : Nat))] 3, .blk 16 be [.v (.int .i64 (max (epT A0) p.epoch))] 3]) (fun z => z.1 ≤ (OM.without p.r r).length) (fun z => (OM.without p.r r).length - z.1) (0, la, lcap) (Nat.zero_le _) (by repeat' (first | exact Sub.nil | (refine Sub.cons rfl rfl ?_))) (by dsimp only; rw [List.take_zero, List.append_nil, Nat.add_zero]; exact (by (try dsimp only [List.cons_append, List.nil_append, den, denL]); refine SelI.spec ?_; (repeat (first | refine SelI.blk (by repeat (first | with_reducible apply Rm.head | apply Rm.tail)) ?_ | refine SelI.ext (by repeat (first | with_reducible apply Rm.head | apply Rm.tail)) ?_ | (refine SelI.blk' (by repeat (first | with_reducible apply Rm.head | apply Rm.tail)) ?_ ?_; focus rfl) | (refine SelI.ext' (by repeat (first | with_reducible apply Rm.head | apply Rm.tail)) ?_ ?_; focus rfl))); exact SelI.nil)) ?_
      rintro ⟨j, a2, cap2⟩ hj KL hL
      dsimp only at hj ⊢
      rcases Nat.lt_or_ge j (OM.without p.r r).length with hlt | hlt
      · obtain ⟨s, hs1⟩ : ∃ s, (OM.without p.r r)[j]? = some s := ⟨_, List.getElem?_eq_getElem hlt⟩
        have hsn1 := hsn j s hs1
        repeat' (first
 | with_reducible ((first | refine r_seq (fun KS hS => ?_) | (refine hS _ _ ?_; clear hS KS) | (refine hA _ ?_; clear hA KA) | refine r_block ?_))
 | ((with_reducible (first | refine r_region ?_ | refine r_cond (fun KA hA KB hB => ?_) | refine r_skip ?_ | refine And.intro rfl ?_ | intro b)); conv => whnf)
 | ((with_reducible refine WrapK.i64 ?_ ?_); (focus omega); conv => whnf)
 | ((with_reducible refine OpK.id ?_); (first | refine OpK.idx (k := 2) rfl rfl rfl rfl rfl rfl rfl (Sees.ext (by repeat (first | with_reducible apply At.head | apply At.tail))) (by omega) (by omega) (rg_at hs1) (fun bz off hpc => ?_) | refine OpK.ldp rfl rfl hpc (List.cons_ne_nil _ _) ?_); conv => whnf)
 | ((with_reducible refine OpK.id ?_); refine OpK.app (k := 4) rfl rfl rfl rfl rfl rfl rfl rfl (by repeat (first | with_reducible apply At.head | apply At.tail)) (SrcK.slc rfl rfl (by repeat (first | constructor | apply List.Mem.tail)) (Nat.le_refl _) rfl) (big_ok (by omega) (by decide)) (fun a' cap' => ?_); conv => whnf)
 | (refine hL (j + 1, a', cap') _ _ (by show j + 1 ≤ _; omega) (by show (OM.without p.r r).length - (j + 1) < (OM.without p.r r).length - j; omega) (by repeat' (first | exact Sub.nil | (refine Sub.cons rfl rfl ?_))) ?_)
 | (refine if_decT (by omega) ?_; conv => whnf)
 | with_reducible apply_assumption -symm -exfalso)
        dsimp only
        rw [hsn1]
        exact (by (try dsimp only [List.cons_append, List.nil_append, den, denL]); refine SelI.spec ?_; (repeat (first | refine SelI.blk (by repeat (first | with_reducible apply Rm.head | apply Rm.tail)) ?_ | refine SelI.ext (by repeat (first | with_reducible apply Rm.head | apply Rm.tail)) ?_ | (refine SelI.blk' (by repeat (first | with_reducible apply Rm.head | apply Rm.tail)) ?_ ?_; focus rfl) | (refine SelI.ext' (by repeat (first | with_reducible apply Rm.head | apply Rm.tail)) ?_ ?_; focus rfl))); exact SelI.nil)
      · obtain rfl := Nat.le_antisymm hj hlt
        repeat' (first
 | with_reducible ((first | refine r_seq (fun KS hS => ?_) | (refine hS _ _ ?_; clear hS KS) | (refine hB _ ?_; clear hB KB)))
 | ((with_reducible (first | refine r_region ?_ | refine r_cond (fun KA hA KB hB => ?_) | refine r_exit ?_)); conv => whnf)
 | (refine if_decF (by omega) ?_; conv => whnf))
        rw [hbe1, hbe2]
        exact ⟨rfl, HSub.trans (HSub.app2 (A' := [.ext 40 _, .blk 13 br [.v (.string r.lo), .v (.string r.hi)] 37, .blk 14 bf [.v (.int .i64 F)] 3, .blk 15 bl [.v (.int .i64 (n : Nat))] 3, .blk 16 be [.v (.int .i64 (max (epT A0) p.epoch))] 3]) (HSub.refl _) (bx_id (i := 3) (j := 17) (a := a2) (cap := cap2))) (by (try dsimp only [List.cons_append, List.nil_append, den, denL]); refine SelI.spec ?_; (repeat (first | refine SelI.blk (by repeat (first | with_reducible apply Rm.head | apply Rm.tail)) ?_ | refine SelI.ext (by repeat (first | with_reducible apply Rm.head | apply Rm.tail)) ?_ | (refine SelI.blk' (by repeat (first | with_reducible apply Rm.head | apply Rm.tail)) ?_ ?_; focus rfl) | (refine SelI.ext' (by repeat (first | with_reducible apply Rm.head | apply Rm.tail)) ?_ ?_; focus rfl))); exact SelI.nil)⟩
  · conv => whnf
    refine hS _ _ ?_
    clear hS KS
    have htk : (tcF r 0 l).take ((tcF r 0 l).map ptX).length = tcF r 0 l := List.take_of_length_le (by rw [List.length_map]; exact Nat.le_refl _)
    rw [htk]
    dsimp only [List.cons_append, List.nil_append]
    have hfs := fs_spec r l 0 htc
    have hls := ls_spec r l htc
    have hA0 : 0 ≤ epT (tcF r 0 l) ∧ epT (tcF r 0 l) ≤ 2147483648 := ep_rng _ 0 (by omega) fun y hy => hep _ (tc_mem hy)
    have hle : (leT r (tcF r 0 l)).length ≤ 128 := by
      have h1 := le_len (r := r) (tcF r 0 l)
      have h2 := tc_len (r := r) l 0
      omega
    have hmv := moveP_tc (g := g) htc
    obtain ⟨fi, hfi⟩ : ∃ fi, OM.firstIx r l = fi := ⟨_, rfl⟩
    obtain ⟨li, hli⟩ : ∃ li, OM.lastIx r l = li := ⟨_, rfl⟩
    have hfl : fi < l.length := by
      rw [← hfi]; unfold OM.firstIx
      rw [List.findIdx_lt_length]
      obtain ⟨p, hp, hp2⟩ := htc
      exact ⟨p, hp, hp2⟩
    have hll : li < l.length := by
      rw [← hli]; unfold OM.lastIx; omega
    rw [hfi, Nat.zero_add] at hfs
    rw [hli] at hls
    rw [hfs, hls] at hmv
    rw [hfs, hls]
    obtain ⟨ep, hep2⟩ : ∃ ep, epT (tcF r 0 l) = ep := ⟨_, rfl⟩
    rw [hep2] at hA0 hmv ⊢
    obtain ⟨L, hLe⟩ : ∃ L, leT r (tcF r 0 l) = L := ⟨_, rfl⟩
    rw [hLe] at hle hmv ⊢
    refine Run.weaken (E' := [(0, .loc t 0 0), (2, .v (.int .i64 g)), (4, .loc br 13 0), (11, .loc bf 14 0), (12, .loc bl 15 0), (13, .loc be 16 0), (14, .loc bv 17 0)]) (H' := [.blk 13 br [.v (.string r.lo), .v (.string r.hi)] 37, .blk 14 bf [.v (.int .i64 (fi : Nat))] 3, .blk 15 bl [.v (.int .i64 (li : Nat))] 3, .blk 16 be [.v (.int .i64 ep)] 3, .ext 5 (BxE 17 200 193 4 bv L.length (L.flatMap ptC)), .ext 12 (PtsA t l)]) ?_ (by repeat' (first | exact Sub.nil | (refine Sub.cons rfl rfl ?_))) (by (try dsimp only [List.cons_append, List.nil_append, den, denL]); refine SelI.spec ?_; (repeat (first | refine SelI.blk (by repeat (first | with_reducible apply Rm.head | apply Rm.tail)) ?_ | refine SelI.ext (by repeat (first | with_reducible apply Rm.head | apply Rm.tail)) ?_ | (refine SelI.blk' (by repeat (first | with_reducible apply Rm.head | apply Rm.tail)) ?_ ?_; focus rfl) | (refine SelI.ext' (by repeat (first | with_reducible apply Rm.head | apply Rm.tail)) ?_ ?_; focus rfl))); exact SelI.nil)
    refine Run.ex (A := bxH 17 200 193 4 bv L.length (L.flatMap ptC)) (i := 5) (by repeat (first | with_reducible apply Rm.head | apply Rm.tail)) ?_
    rintro ⟨la, lcap⟩
    dsimp only [bxH, layF]
    refine Run.ex (A := ptsH t l) (i := 12) (by repeat (first | with_reducible apply Rm.head | apply Rm.tail)) ?_
    rintro ⟨a, cap⟩
    dsimp only [ptsH, layF]
    refine r_seq (fun KS hS => ?_)
    refine r_region ?_
    conv => whnf
    refine hS _ _ ?_
    clear hS KS
    obtain ⟨kk, hkk⟩ : ∃ kk, OM.leftN r L = kk := ⟨_, rfl⟩
    have hcase : (L.length = 0 ∧ kk = 0) ∨ ∃ x, L[0]? = some x ∧ ((x.r.hi = r.lo ∧ r.lo ≠ ⟨#[]⟩ ∧ kk = 1) ∨ (¬ x.r.hi = r.lo ∧ kk = 0) ∨ (x.r.hi = r.lo ∧ r.lo = ⟨#[]⟩ ∧ kk = 0)) := by
      cases L with
      | nil => exact .inl ⟨rfl, hkk.symm⟩
      | cons x L =>
        refine .inr ⟨x, rfl, ?_⟩
        simp only [OM.leftN, OM.eqS] at hkk
        by_cases c1 : x.r.hi = r.lo
        · by_cases c2 : r.lo = OM.eps
          · simp [c1, c2] at hkk
            exact .inr (.inr ⟨c1, c2, hkk.symm⟩)
          · simp [c1, c2] at hkk
            exact .inl ⟨c1, c2, hkk.symm⟩
        · simp [c1] at hkk
          exact .inr (.inl ⟨c1, hkk.symm⟩)
    have hkL : kk ≤ L.length ∧ kk ≤ 1 := by
      rcases hcase with ⟨h1, h2⟩ | ⟨x, hx, hc⟩
      · omega
      · have : 0 < L.length := (List.getElem?_eq_some_iff.1 hx).1
        rcases hc with ⟨_, _, h⟩ | ⟨_, h⟩ | ⟨_, _, h⟩ <;> omega
    refine r_cut (α := Unit) (fun _ => [(21, .v (.int .i64 (kk : Nat))), (0, .loc t 0 0), (2, .v (.int .i64 g)), (4, .loc br 13 0), (11, .loc bf 14 0), (12, .loc bl 15 0), (13, .loc be 16 0), (14, .loc bv 17 0)]) (fun _ => [.blk 0 t [.v (.slice a l.length cap)] 202, .ext 1 (SlA 193 4 a l.length cap (l.flatMap ptC)), .ext 3 (SlA 193 4 la L.length lcap (L.flatMap ptC)), .blk 17 bv [.v (.slice la L.length lcap)] 200, .blk 13 br [.v (.string r.lo), .v (.string r.hi)] 37, .blk 14 bf [.v (.int .i64 (fi : Nat))] 3, .blk 15 bl [.v (.int .i64 (li : Nat))] 3, .blk 16 be [.v (.int .i64 ep)] 3]) (fun _ => True) ?_ ?_
    · intro KC hC
      rcases hcase with ⟨h1, rfl⟩ | ⟨x, hx, hc⟩
      · repeat' (first
 | with_reducible ((first | refine r_seq (fun KS hS => ?_) | (refine hS _ _ ?_; clear hS KS) | (refine hB _ ?_; clear hB KB)))
 | ((with_reducible (first | refine r_cond (fun KA hA KB hB => ?_) | refine r_skip ?_ | refine And.intro rfl ?_)); conv => whnf)
 | (refine hC () _ _ trivial (by repeat' (first | exact Sub.nil | (refine Sub.cons rfl rfl ?_))) (by (try dsimp only [List.cons_append, List.nil_append, den, denL]); refine SelI.spec ?_; (repeat (first | refine SelI.blk (by repeat (first | with_reducible apply Rm.head | apply Rm.tail)) ?_ | refine SelI.ext (by repeat (first | with_reducible apply Rm.head | apply Rm.tail)) ?_ | (refine SelI.blk' (by repeat (first | with_reducible apply Rm.head | apply Rm.tail)) ?_ ?_; focus rfl) | (refine SelI.ext' (by repeat (first | with_reducible apply Rm.head | apply Rm.tail)) ?_ ?_; focus rfl))); exact SelI.nil))
 | (apply r_quiet; refine mixed; kernel_rfl; kernel_rfl; kernel_rfl; conv => whnf)
 | (refine if_decF (by omega) ?_; conv => whnf))
      · have hpos : 0 < L.length := (List.getElem?_eq_some_iff.1 hx).1
        have hxat := pt_at hx
        rcases hc with ⟨c1, c2, rfl⟩ | ⟨c1, rfl⟩ | ⟨c1, c2, rfl⟩
        · repeat' (first
 | with_reducible ((first | refine r_seq (fun KS hS => ?_) | (refine hS _ _ ?_; clear hS KS) | (refine hA _ ?_; clear hA KA)))
 | ((with_reducible (first | refine r_region ?_ | refine r_cond (fun KA hA KB hB => ?_) | refine And.intro rfl ?_)); conv => whnf)
 | ((with_reducible refine QK.id ?_); refine QK.idx (k := 4) rfl rfl rfl rfl rfl rfl rfl (Sees.ext (by repeat (first | with_reducible apply At.head | apply At.tail))) (by omega) (by omega) hxat (fun bz off hpc => ?_); conv => whnf)
 | ((with_reducible refine IK.id ?_); refine IK.fap rfl rfl ?_; conv => whnf)
 | ((with_reducible refine QK.id ?_); refine QK.ldp rfl rfl (PC.field _ (by assumption)) ?_ ?_; exact List.cons_ne_nil _ _; conv => whnf)
 | (refine hC () _ _ trivial (by repeat' (first | exact Sub.nil | (refine Sub.cons rfl rfl ?_))) (by (try dsimp only [List.cons_append, List.nil_append, den, denL]); refine SelI.spec ?_; (repeat (first | refine SelI.blk (by repeat (first | with_reducible apply Rm.head | apply Rm.tail)) ?_ | refine SelI.ext (by repeat (first | with_reducible apply Rm.head | apply Rm.tail)) ?_ | (refine SelI.blk' (by repeat (first | with_reducible apply Rm.head | apply Rm.tail)) ?_ ?_; focus rfl) | (refine SelI.ext' (by repeat (first | with_reducible apply Rm.head | apply Rm.tail)) ?_ ?_; focus rfl))); exact SelI.nil))
 | (apply r_quiet; refine mixed; kernel_rfl; kernel_rfl; kernel_rfl; conv => whnf)
 | ((first | refine if_decT (by omega) ?_ | refine if_ndecT (by omega) ?_); conv => whnf))
        · repeat' (first
 | with_reducible ((first | refine r_seq (fun KS hS => ?_) | (refine hS _ _ ?_; clear hS KS) | (refine hB _ ?_; clear hB KB)))
 | ((with_reducible (first | refine r_cond (fun KA hA KB hB => ?_) | refine r_skip ?_ | refine And.intro rfl ?_)); conv => whnf)
 | ((with_reducible refine QK.id ?_); refine QK.idx (k := 4) rfl rfl rfl rfl rfl rfl rfl (Sees.ext (by repeat (first | with_reducible apply At.head | apply At.tail))) (by omega) (by omega) hxat (fun bz off hpc => ?_); conv => whnf)
 | ((with_reducible refine IK.id ?_); refine IK.fap rfl rfl ?_; conv => whnf)
 | ((with_reducible refine QK.id ?_); refine QK.ldp rfl rfl (PC.field _ (by assumption)) ?_ ?_; exact List.cons_ne_nil _ _; conv => whnf)
 | (refine hC () _ _ trivial (by repeat' (first | exact Sub.nil | (refine Sub.cons rfl rfl ?_))) (by (try dsimp only [List.cons_append, List.nil_append, den, denL]); refine SelI.spec ?_; (repeat (first | refine SelI.blk (by repeat (first | with_reducible apply Rm.head | apply Rm.tail)) ?_ | refine SelI.ext (by repeat (first | with_reducible apply Rm.head | apply Rm.tail)) ?_ | (refine SelI.blk' (by repeat (first | with_reducible apply Rm.head | apply Rm.tail)) ?_ ?_; focus rfl) | (refine SelI.ext' (by repeat (first | with_reducible apply Rm.head | apply Rm.tail)) ?_ ?_; focus rfl))); exact SelI.nil))
 | (apply r_quiet; refine mixed; kernel_rfl; kernel_rfl; kernel_rfl; conv => whnf)
 | ((first | refine if_decT (by omega) ?_ | refine if_decF (by omega) ?_); conv => whnf))
        · repeat' (first
 | with_reducible ((first | refine r_seq (fun KS hS => ?_) | (refine hS _ _ ?_; clear hS KS) | (refine hB _ ?_; clear hB KB)))
 | ((with_reducible (first | refine r_cond (fun KA hA KB hB => ?_) | refine r_skip ?_ | refine And.intro rfl ?_)); conv => whnf)
 | ((with_reducible refine QK.id ?_); refine QK.idx (k := 4) rfl rfl rfl rfl rfl rfl rfl (Sees.ext (by repeat (first | with_reducible apply At.head | apply At.tail))) (by omega) (by omega) hxat (fun bz off hpc => ?_); conv => whnf)
 | ((with_reducible refine IK.id ?_); refine IK.fap rfl rfl ?_; conv => whnf)
 | ((with_reducible refine QK.id ?_); refine QK.ldp rfl rfl (PC.field _ (by assumption)) ?_ ?_; exact List.cons_ne_nil _ _; conv => whnf)
 | (refine hC () _ _ trivial (by repeat' (first | exact Sub.nil | (refine Sub.cons rfl rfl ?_))) (by (try dsimp only [List.cons_append, List.nil_append, den, denL]); refine SelI.spec ?_; (repeat (first | refine SelI.blk (by repeat (first | with_reducible apply Rm.head | apply Rm.tail)) ?_ | refine SelI.ext (by repeat (first | with_reducible apply Rm.head | apply Rm.tail)) ?_ | (refine SelI.blk' (by repeat (first | with_reducible apply Rm.head | apply Rm.tail)) ?_ ?_; focus rfl) | (refine SelI.ext' (by repeat (first | with_reducible apply Rm.head | apply Rm.tail)) ?_ ?_; focus rfl))); exact SelI.nil))
 | (apply r_quiet; refine mixed; kernel_rfl; kernel_rfl; kernel_rfl; conv => whnf)
 | ((first | refine if_decT (by omega) ?_ | refine if_ndecF (by omega) ?_); conv => whnf))
    rintro - -
    repeat' (first
 | with_reducible refine r_stop 26 ?_
 | with_reducible ((first | refine r_seq (fun KS hS => ?_) | (refine hS _ _ ?_; clear hS KS)))
 | ((with_reducible (first | refine r_region ?_ | refine And.intro rfl ?_)); conv => whnf)
 | ((with_reducible refine WrapK.i64 ?_ ?_); (focus omega); conv => whnf)
 | ((with_reducible refine OpK.id ?_); refine OpK.minI rfl rfl rfl ?_; conv => whnf))
    refine StopR.mk ?_
    obtain ⟨eq, heq⟩ : ∃ eq, min (ep + 1) 2147483648 = eq := ⟨_, rfl⟩
    rw [heq] at hmv ⊢
    refine r_seq (fun KS hS => ?_)
    refine r_par (β := Nat) (id := 26) [⟨0, [], none, fun _ _ => .loc t 0 0, fun _ _ => []⟩, ⟨1, [0], none, fun _ _ => .loc t 0 0, fun _ _ => []⟩, ⟨2, [1], none, fun _ _ => .loc t 0 0, fun _ _ => []⟩, ⟨3, [2], none, fun _ _ => .v (.slice a l.length cap), fun _ _ => []⟩, ⟨4, [], none, fun _ _ => .v (.int .i64 (fi : Nat)), fun _ _ => []⟩, ⟨5, [3, 4], none, fun _ _ => .v (.slice a fi cap), fun _ _ => []⟩, ⟨6, [], none, fun _ _ => .v (.slice la L.length lcap), fun _ _ => []⟩, ⟨7, [], none, fun _ _ => .v (.int .i64 (kk : Nat)), fun _ _ => []⟩, ⟨8, [6, 7], none, fun _ _ => .v (.slice la kk lcap), fun _ _ => []⟩, ⟨9, [], none, fun _ _ => .agg [.v (.string r.lo), .v (.string r.hi)], fun _ _ => []⟩, ⟨10, [], none, fun _ _ => .v (.int .i64 g), fun _ _ => []⟩, ⟨11, [], none, fun _ _ => .v (.int .i64 eq), fun _ _ => []⟩, ⟨12, [9, 10, 11], none, fun _ _ => .agg [.v (.string r.lo), .v (.string r.hi), .v (.int .i64 g), .v (.int .i64 eq)], fun _ _ => []⟩, ⟨13, [12], none, fun _ q => .slc q 90 0 1 1, fun _ q => [.blk 90 q [.v (.string r.lo), .v (.string r.hi), .v (.int .i64 g), .v (.int .i64 eq)] 193]⟩, ⟨14, [], none, fun _ _ => .v (.slice la L.length lcap), fun _ _ => []⟩, ⟨15, [], none, fun _ _ => .v (.int .i64 (kk : Nat)), fun _ _ => []⟩, ⟨16, [14, 15], none, fun _ _ => .v (.slice (if lcap = kk then la else la.map (·.add (kk * 4))) (L.length - kk) (lcap - kk)), fun _ _ => []⟩, ⟨17, [], none, fun _ _ => .loc t 0 0, fun _ _ => []⟩, ⟨18, [17], none, fun _ _ => .loc t 0 0, fun _ _ => []⟩, ⟨19, [18], none, fun _ _ => .loc t 0 0, fun _ _ => []⟩, ⟨20, [19], none, fun _ _ => .v (.slice a l.length cap), fun _ _ => []⟩, ⟨21, [], none, fun _ _ => .v (.int .i64 (li : Nat)), fun _ _ => []⟩, ⟨22, [21], none, fun _ _ => .v (.int .i64 ((li + 1 : Nat) : Int)), fun _ _ => []⟩, ⟨23, [20, 22], none, fun _ _ => .v (.slice (if cap = li + 1 then a else a.map (·.add ((li + 1) * 4))) (l.length - (li + 1)) (cap - (li + 1))), fun _ _ => []⟩] [] 3 _ mixed (by kernel_rfl) (by kernel_rfl) (HSub.refl _) ?_ ?_
    · conv => whnf
      repeat' (first | ((with_reducible refine And.intro ?_ ?_); all_goals (conv => whnf)) | ((with_reducible intro zz AA KP hP); conv => whnf))
      repeat' (first
 | ((with_reducible intro b); conv => whnf)
 | ((with_reducible refine WrapK.i64 ?_ ?_); (focus omega); conv => whnf)
 | ((with_reducible refine OpK.id ?_); (first | refine OpK.slP (k := 4) rfl rfl rfl rfl rfl rfl (by repeat (first | with_reducible apply At.head | apply At.tail)) (by omega) ?_ | refine OpK.slT (k := 4) rfl rfl rfl rfl rfl rfl rfl (by repeat (first | with_reducible apply At.head | apply At.tail)) (by omega) ?_); conv => whnf)
 | ((with_reducible apply hP); all_goals (first | exact (0 : Nat) | ((repeat' (first | exact SubD.nil | (refine SubD.cons rfl rfl ?_))); done) | ((try dsimp only [mapZ, List.cons_append, List.nil_append, den, denL]); refine SelI.spec ?_; repeat (first | apply SelI.nil | refine SelI.blk (by repeat (first | with_reducible apply Rm.head | apply Rm.tail)) ?_ | refine SelI.ext (by repeat (first | with_reducible apply Rm.head | apply Rm.tail)) ?_ | (refine SelI.blk' (by repeat (first | with_reducible apply Rm.head | apply Rm.tail)) ?_ ?_; focus rfl) | (refine SelI.ext' (by repeat (first | with_reducible apply Rm.head | apply Rm.tail)) ?_ ?_; focus rfl))))))
    conv => whnf
    intro zz
    conv => whnf
    try dsimp only
    obtain ⟨M, hMe⟩ : ∃ M, OM.moveP l r g = M := ⟨_, rfl⟩
    rw [hMe] at hmv hlen ⊢
    rw [hkk, Int.toNat_natCast, Int.toNat_natCast] at hmv
    repeat' (first
 | with_reducible ((first | refine r_seq (fun KS hS => ?_) | (refine hS _ _ ?_; clear hS KS) | (refine hB _ ?_; clear hB KB)))
 | ((with_reducible (first | refine r_region ?_ | refine r_cond (fun KA hA KB hB => ?_) | refine r_ret ?_ | refine r_skip ?_ | refine And.intro rfl ?_ | intro b)); conv => whnf)
 | ((with_reducible refine CallK.id ?_); refine CallK.fresh (fun ms w hk => cat51159 hmv.symm hl hle hfl hll hkL.1 hlen (RdS.ofGot (n := 5) (k := 1) (hk.got (by repeat (first | constructor | apply List.Mem.tail))) rfl) (RdS.ofGot (n := 1) (k := 4) (hk.got (i := 90) (b := zz 13) (t := 193) (cs := [.v (.string r.lo), .v (.string r.hi), .v (.int .i64 g), .v (.int .i64 eq)]) (by repeat (first | constructor | apply List.Mem.tail))) rfl) (Sees.rd (Sees.ext (by repeat (first | with_reducible apply At.head | apply At.tail))) hk) (Sees.rd (Sees.ext (by repeat (first | with_reducible apply At.head | apply At.tail))) hk)) ?_; conv => whnf)
 | ((with_reducible ((first | refine InAt.mk (fun K' hK => ?_) | refine AnyAt.mk (fun K' hK => ?_) | (refine hK _ ?_; clear hK K') | (refine hK _ _ ?_; clear hK K')))); conv => whnf)
 | (refine if_decF (by omega) ?_; conv => whnf)
 | with_reducible apply_assumption -symm -exfalso)
    rw [hMe]
    exact FinK.frL rfl (HSub.trans (pts_id (i := 0) (j := 1) (t := t) (l := M) (a := b.1) (cap := b.2) rfl) (by (try dsimp only [List.cons_append, List.nil_append, den, denL]); refine SelI.spec ?_; (repeat (first | refine SelI.blk (by repeat (first | with_reducible apply Rm.head | apply Rm.tail)) ?_ | refine SelI.ext (by repeat (first | with_reducible apply Rm.head | apply Rm.tail)) ?_ | (refine SelI.blk' (by repeat (first | with_reducible apply Rm.head | apply Rm.tail)) ?_ ?_; focus rfl) | (refine SelI.ext' (by repeat (first | with_reducible apply Rm.head | apply Rm.tail)) ?_ ?_; focus rfl))); exact SelI.nil))
end Go.Proofs.YtjkmpaggfbghiaaGreatDoor

namespace Go.Proofs.YtjkmpaggfbghiaaGreatDoor
open Go Go.X
def orH (d : Nat) (s : OM.St) (z : Nat × Nat × Nat) : List Blk := [.blk 0 d [.v (.int .i64 s.groups), .v (.int .i64 s.done), .loc z.1 20 0, .loc z.2.1 21 0, .loc z.2.2 22 0] 121, .ext 1 (TabA z.1 s.sagas), .ext 2 (MvsA z.2.1 s.moves), .ext 3 (PtsA z.2.2 s.parts)]
abbrev OrchA (d : Nat) (s : OM.St) : Ass := exA (orH d s)
theorem or_id {d t1 t2 t3 : Nat} {s : OM.St} {i j k l q : Nat} : HSub [.ext q (OrchA d s)] [.blk i d [.v (.int .i64 s.groups), .v (.int .i64 s.done), .loc t1 20 0, .loc t2 21 0, .loc t3 22 0] 121, .ext j (TabA t1 s.sagas), .ext k (MvsA t2 s.moves), .ext l (PtsA t3 s.parts)] :=
  HSub.trans (exA.close (A := orH d s) (t1, t2, t3)) (HSub.keep rfl (HSub.ext (fun _ _ h => h) (HSub.ext (fun _ _ h => h) (HSub.ext (fun _ _ h => h) HSub.nil))))
abbrev itV (x : OM.Item) : List SV := [.v (.int .i64 x.eff.saga), .v (.int .i64 x.eff.step), .v (.int .i64 x.eff.phase), .v (.int .i64 x.move), .v (.bool x.in_), .v (.int .i64 x.group)]
abbrev itC (x : OM.Item) : List Value := [.int .i64 x.eff.saga, .int .i64 x.eff.step, .int .i64 x.eff.phase, .int .i64 x.move, .bool x.in_, .int .i64 x.group]
abbrev cmV (c : OM.Cmd) (a : Option Addr) (n cap : Nat) : List SV := [.v (.int .i64 c.kind), .v (.int .i64 c.call), .v (.int .i64 c.saga), .v (.int .i64 c.eff.saga), .v (.int .i64 c.eff.step), .v (.int .i64 c.eff.phase), .v (.string c.key), .v (.int .i64 c.delta), .v (.int .i64 c.move), .v (.string c.r.lo), .v (.string c.r.hi), .v (.int .i64 c.group), .v (.string c.d.name), .v (.int .i64 c.d.retries), .v (.int .i64 c.d.deadline), .v (.slice a n cap), .v (.int .i64 c.item.eff.saga), .v (.int .i64 c.item.eff.step), .v (.int .i64 c.item.eff.phase), .v (.int .i64 c.item.move), .v (.bool c.item.in_), .v (.int .i64 c.item.group), .v (.int .i64 c.res), .v (.string c.data)]
abbrev wtX (x : OM.Item × OM.Cmd) : List SV := [.agg (itV x.1), .agg (cmV x.2 Option.none 0 0)]
theorem LOk.ofInv {o : OM.St} (h : OM.Inv o) : LOk o.sagas := ⟨h.srt, h.slen, fun x hx => (h.sok x hx).2.2, fun x hx => ⟨(h.sok x hx).1, (h.sok x hx).2.1⟩⟩
theorem inv_mok {o : OM.St} (h : OM.Inv o) : ∀ m ∈ o.moves, m.r.ok = true := fun m hm => OM.ok_iff.2 (h.mok m hm).1
theorem inv_pok {o : OM.St} (h : OM.Inv o) : ∀ p ∈ o.parts, p.r.ok = true := fun p hp => OM.ok_iff.2 (h.cov.1.ok p hp)
def effE (o : OM.St) (e : OM.Eff) : Option (OM.Item × OM.Cmd) := match getL o.sagas e.saga with
  | none => none
  | some s => if o.busy s.stepAt.key then none else some (⟨e, 0, false, o.route s.stepAt.key⟩, { OM.zCmd with kind := 1, eff := e, key := s.stepAt.key, delta := s.stepAt.delta })
theorem fm_congr {α β : Type} {f g : α → Option β} : ∀ {l : List α}, (∀ x ∈ l, f x = g x) → l.filterMap f = l.filterMap g
  | [], _ => rfl
  | x :: l, h => by rw [List.filterMap_cons, List.filterMap_cons, h x (by simp), fm_congr fun y hy => h y (by simp [hy])]
theorem effs_nx {o : OM.St} (h : LOk o.sagas) : o.effs = (nxE o.sagas).filterMap (effE o) := by
  unfold OM.St.effs nxE
  rw [List.filterMap_filterMap]
  refine fm_congr fun x hx => ?_
  unfold OM.St.effOf
  have hg := getL_of_mem h.srt hx
  cases hn : x.2.next x.1 with
  | none => rfl
  | some e =>
    have he : e.saga = x.1 := by
      unfold OM.Sg.next at hn
      split at hn
      · have := Option.some.inj hn; rw [← this]
      · cases hn
    simp only [Option.bind_some, effE, he, hg]
end Go.Proofs.YtjkmpaggfbghiaaGreatDoor

namespace Go.Proofs.YtjkmpaggfbghiaaGreatDoor
open Go Go.X
theorem step_int {L : List OM.Stp} {z : Int} {s : OM.Stp} (h : L[z.toNat]? = some s) : ((stepCells L).drop (z.toNat * 2)).take 2 = denL (stc s) := step_flat L z.toNat s h
theorem step1092 {d : Nat} {o : OM.St} {sg : OM.Sg} {e : OM.Eff} (hL : LOk o.sagas) (hg : getL o.sagas e.saga = some sg) (ho : sg.st < 4) (he : e.step = sg.at_) (w : World) :
    Fr Tryz.prog 92 #[pv d, .agg #[.int .i64 e.saga, .int .i64 e.step, .int .i64 e.phase]] w (AssL [.ext 12 (OrchA d o)]) (.agg #[.string sg.stepAt.key, .int .i64 sg.stepAt.delta]) (AssL [.ext 12 (OrchA d o)]) := by
  have hmem := getL_mem hg
  have hok : OM.SOk sg := hL.ok _ hmem
  have hid : 1 ≤ e.saga ∧ e.saga ≤ 9999 := hL.id _ hmem
  have h0 := hok.at0
  have h1 := hok.at1 ho
  have hd := OM.Dfn.steps_pos hok.d
  have hst : sg.d.steps[sg.at_.toNat]? = some sg.stepAt := by
    unfold OM.Sg.stepAt
    rw [List.getElem?_eq_getElem (by omega)]; rfl
  obtain ⟨es, et, ep⟩ := e
  dsimp only at he hg hid
  subst he
  refine enter_fr TBok (H := [.ext 12 (OrchA d o)]) all_foot Tryz.func92 rfl rfl Tryz.ntmps92 [.loc d 0 0, .agg [.v (.int .i64 es), .v (.int .i64 sg.at_), .v (.int .i64 ep)]] rfl rfl ?_
  intro S
  conv => whnf
  refine Run.ex (A := orH d o) (i := 12) .head ?_
  rintro ⟨t1, t2, t3⟩
  dsimp only [orH, layF]
  repeat' (first
 | with_reducible ((first | refine r_seq (fun KS hS => ?_) | (refine hS _ _ ?_; clear hS KS)))
 | ((with_reducible (first | refine r_region ?_ | refine r_ret ?_ | refine And.intro rfl ?_ | intro b)); conv => whnf)
 | (apply r_any (id := 1); refine mixed; kernel_rfl; kernel_rfl; conv => whnf)
 | ((with_reducible refine CallK.id ?_); refine CallK.s1 (by repeat (first | with_reducible apply Rm.head | apply Rm.tail)) (fun ms w hk => get1056 hg hok (zok_id hid) w) ?_; conv => whnf)
 | ((with_reducible refine OpK.id ?_); (first | refine OpK.idx (k := 2) rfl rfl rfl rfl rfl rfl rfl (Sees.ext (by repeat (first | with_reducible apply At.head | apply At.tail))) (by omega) (by omega) (step_int hst) (fun bq off hpc => ?_) | refine OpK.ldp rfl rfl hpc (List.cons_ne_nil _ _) ?_); conv => whnf)
 | ((with_reducible ((first | refine InAt.mk (fun K' hK => ?_) | refine AnyAt.mk (fun K' hK => ?_) | (refine hK _ ?_; clear hK K') | (refine hK _ _ ?_; clear hK K')))); conv => whnf)
 | (refine And.intro ?_ ?_; all_goals (conv => whnf)))
  all_goals exact FinK.frL rfl (HSub.trans (or_id (i := 0) (j := 1) (k := 2) (l := 3) (d := d) (s := o) (t1 := t1) (t2 := t2) (t3 := t3)) (by (try dsimp only [List.cons_append, List.nil_append, den, denL]); refine SelI.spec ?_; (repeat (first | refine SelI.blk (by repeat (first | with_reducible apply Rm.head | apply Rm.tail)) ?_ | refine SelI.ext (by repeat (first | with_reducible apply Rm.head | apply Rm.tail)) ?_ | (refine SelI.blk' (by repeat (first | with_reducible apply Rm.head | apply Rm.tail)) ?_ ?_; focus rfl) | (refine SelI.ext' (by repeat (first | with_reducible apply Rm.head | apply Rm.tail)) ?_ ?_; focus rfl))); exact SelI.nil))
end Go.Proofs.YtjkmpaggfbghiaaGreatDoor
