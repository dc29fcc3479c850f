/- Contracts and lemmas for the claim (part XN3); no condition of its own. -/
import Derived.Test.YtbgnoibellfojaaGreatDoorXN2
set_option linter.all false
set_option linter.unusedVariables false
set_option linter.unusedSimpArgs false
set_option linter.unnecessarySimpa false
namespace Go.Proofs.YtbgnoibellfojaaGreatDoor
open Go Go.X
set_option maxRecDepth 100000
set_option maxHeartbeats 0
theorem WrA.fresh {p : Nat} {w : World} {S : Nat → Prop} (h : (blkA p [.bool true, .slice none 0 0] 209).holds w S) (hS : ∀ k, S k → k < w.heap.size) : (WrA p []).holds w (fun k => k = p) :=
  ⟨none, 0, by
    have h1 : Holds w ([] : List Blk) (fun _ => False) := .nil
    have h2 : Holds w [.ext 11 (SlA 5 1 none 0 0 (bcells []))] (fun k => False ∨ False) := .cons (S := fun _ => False) (x := .ext 11 (SlA 5 1 none 0 0 (bcells []))) (.inl ⟨rfl, rfl, rfl, rfl⟩) (fun _ h => h.elim) h1 (fun _ h _ => h)
    have h3 : Holds w (.blk 10 p [.v (.bool true), .v (.slice none 0 0)] 209 :: [.ext 11 (SlA 5 1 none 0 0 (bcells []))]) (fun k => k = p ∨ (False ∨ False)) :=
      .cons (S := fun k => k = p) (x := .blk 10 p [.v (.bool true), .v (.slice none 0 0)] 209) ⟨rfl, h.2⟩ (fun k hk => hk ▸ hS p h.1) h2 (fun _ _ h => h.elim id id)
    have e : (fun k => k = p ∨ (False ∨ False)) = (fun k => k = p) := by funext k; simp
    rw [e] at h3
    exact h3⟩
theorem uint83n {p n : Nat} (hn : n < 2 ^ 64) (w : World) : Fr Tryz.prog 83 #[pv p, .int .u64 n] w (blkA p [.bool true, .slice none 0 0] 209) (.tuple #[]) (WrA p (uvar n)) := by
  intro S hS hlt
  refine (uint83 (l := []) hn (Nat.zero_le _) w (fun k => k = p) (WrA.fresh hS hlt) (fun k hk => hk ▸ hlt p hS.1)).mono ?_
  rintro e w' ⟨h1, h2, S', h3, h4⟩
  refine ⟨h1, ⟨h2.os, h2.tape, h2.output, h2.size, fun k hk hn => h2.old k hk fun e => hn (e ▸ hS.1)⟩, S', h3, fun k hk => ⟨(h4 k hk).1, (h4 k hk).2.imp (fun e => by rw [show k = p from e]; exact hS.1) id⟩⟩
theorem limited86 {p : Nat} {l : List UInt8} (hl : l.length ≤ 65536) (w : World) : FrZ Tryz.prog 86 #[pv p] w (WrA p l) (fun z : Option Addr × Nat => .tuple #[.slice z.1 l.length z.2, .int .i64 0]) (fun z => SlA 5 1 z.1 l.length z.2 (bcells l)) := by
  refine enter_frZ TBok (H := [.ext 12 (WrA p l)]) one_foot Tryz.func86 rfl rfl Tryz.ntmps86 [.loc p 10 0] rfl rfl ?_
  intro S _ _
  refine Run.open (α := Option Addr × Nat) (A := []) (B := []) (fun z => [.blk 10 p [.v (.bool true), .v (.slice z.1 l.length z.2)] 209, .ext 11 (SlA 5 1 z.1 l.length z.2 (bcells l))]) (fun w S h => WrA.open (X := []) (Y := []) h) ?_
  rintro ⟨a, cap⟩
  dsimp only
  conv => whnf
  repeat' (first
    | ((with_reducible refine r_seq (fun KS hS => ?_)))
    | ((with_reducible refine r_region ?_); conv => whnf)
    | ((with_reducible refine r_cond (fun KA hA KB hB => ?_)); conv => whnf)
    | ((with_reducible refine hS _ _ ?_); clear hS KS)
    | ((with_reducible refine hA _ ?_); clear hA KA)
    | ((with_reducible refine hB _ ?_); clear hB KB)
    | ((with_reducible refine r_block ?_))
    | ((with_reducible refine r_ret ?_); conv => whnf)
    | ((with_reducible refine r_skip ?_); conv => whnf)
    | ((with_reducible refine r_exit ?_); conv => whnf)
    | ((with_reducible refine WrapK.i64 ?_ ?_); (focus omega); conv => whnf)
    | ((with_reducible refine And.intro rfl ?_); conv => whnf)
    | ((with_reducible intro b); conv => whnf)
    | (apply in134; refine Tryz.ntmps134; rfl; rfl; rfl; intro A; conv => whnf)
    | (apply in135; refine Tryz.ntmps135; rfl; rfl; rfl; intro A; conv => whnf)
    | (refine CallK.fresh (fun ms w hk => clone191 (l := l) (Sees.rd (Sees.ext (by repeat (first | with_reducible apply At.head | apply At.tail))) hk) (by omega)) ?_; conv => whnf)
    | (intro z; conv => whnf)
    | ((with_reducible apply OpK.more); (focus refine sok); (conv => whnf); fail_if_success guard_target =ₛ False)
    | ((with_reducible refine InAt.mk (fun K' hK => ?_)); conv => whnf)
    | ((with_reducible refine AnyAt.mk (fun K' hK => ?_)); conv => whnf)
    | ((with_reducible refine hK _ ?_); clear hK K'; conv => whnf)
    | ((with_reducible refine hK _ _ ?_); clear hK K'; conv => whnf)
    | ((refine And.intro ?_ ?_); all_goals (conv => whnf))
    | (apply r_quiet; refine mixed; kernel_rfl; kernel_rfl; kernel_rfl; conv => whnf)
    | ((refine if_t ?_ ?_); (focus decide); conv => whnf)
    | ((refine if_f ?_ ?_); (focus decide); conv => whnf)
    | ((refine if_decT ?_ ?_); (focus omega); conv => whnf)
    | ((refine if_decF ?_ ?_); (focus omega); conv => whnf)
    | ((refine if_ndecT ?_ ?_); (focus omega); conv => whnf)
    | ((refine if_ndecF ?_ ?_); (focus omega); conv => whnf)
    | ((refine if_dec (fun h => ?_) (fun h => ?_)); all_goals (conv => whnf))
    | ((refine if_ndec (fun h => ?_) (fun h => ?_)); all_goals (conv => whnf))
    | ((refine if_cond (fun h => ?_) (fun h => ?_)); all_goals (conv => whnf))
    | ((with_reducible apply_assumption -symm -exfalso)))
  exact FinK.frZ (i := 0) b rfl (HSub.ext (fun _ _ h => h) (HSub.drop (HSub.drop HSub.nil)))
theorem encEff62 {s t p : Nat} {k : ByteArray} {d : Int} (h : EffOk s t p) (hk : nameOk k = true) (hks : k.size ≤ 16) (hd : d ≠ 0) (hn : NumOk d) (hl : (uvar 1 ++ uvar s ++ uvar t ++ uvar p ++ uvar k.size ++ k.data.toList ++ uvar (zigN d)).length ≤ 65536) (w : World) : FrZ Tryz.prog 62 #[.agg #[.int .i64 1, .int .i64 0, .int .i64 0, .int .i64 (s : Nat), .int .i64 (t : Nat), .int .i64 (p : Nat), .string k, .int .i64 d, .int .i64 0, .string ⟨#[]⟩, .string ⟨#[]⟩, .int .i64 0, .string ⟨#[]⟩, .int .i64 0, .int .i64 0, .slice none 0 0, .int .i64 0, .int .i64 0, .int .i64 0, .int .i64 0, .bool false, .int .i64 0, .int .i64 0, .string ⟨#[]⟩]] w emp (fun z : Option Addr × Nat => .tuple #[.slice z.1 (uvar 1 ++ uvar s ++ uvar t ++ uvar p ++ uvar k.size ++ k.data.toList ++ uvar (zigN d)).length z.2, .int .i64 0]) (fun z => SlA 5 1 z.1 (uvar 1 ++ uvar s ++ uvar t ++ uvar p ++ uvar k.size ++ k.data.toList ++ uvar (zigN d)).length z.2 (bcells (uvar 1 ++ uvar s ++ uvar t ++ uvar p ++ uvar k.size ++ k.data.toList ++ uvar (zigN d)))) := by
  refine enter_frZ TBok (H := []) emp_foot Tryz.func62 rfl rfl Tryz.ntmps62 [.agg [.v (.int .i64 1), .v (.int .i64 0), .v (.int .i64 0), .v (.int .i64 (s : Nat)), .v (.int .i64 (t : Nat)), .v (.int .i64 (p : Nat)), .v (.string k), .v (.int .i64 d), .v (.int .i64 0), .v (.string ⟨#[]⟩), .v (.string ⟨#[]⟩), .v (.int .i64 0), .v (.string ⟨#[]⟩), .v (.int .i64 0), .v (.int .i64 0), .v (.slice none 0 0), .v (.int .i64 0), .v (.int .i64 0), .v (.int .i64 0), .v (.int .i64 0), .v (.bool false), .v (.int .i64 0), .v (.int .i64 0), .v (.string ⟨#[]⟩)]] rfl rfl ?_
  intro S _ _
  have h' := h
  have hn' := hn
  unfold EffOk at h'
  unfold NumOk at hn'
  have hz := zigN_lt (a := d) (by omega)
  have hkl := str_len k
  have hu0 := uvar_len64 (n := 1) (by omega)
  have hu1 := uvar_len64 (n := s) (by omega)
  have hu2 := uvar_len64 (n := t) (by omega)
  have hu3 := uvar_len64 (n := p) (by omega)
  have hu4 := uvar_len64 (n := k.size) (by omega)
  have hu5 := uvar_len64 (n := zigN d) (by omega)
  conv => whnf
  repeat' (first
    | ((with_reducible refine r_seq (fun KS hS => ?_)))
    | ((with_reducible refine r_region ?_); conv => whnf)
    | ((with_reducible refine r_cond (fun KA hA KB hB => ?_)); conv => whnf)
    | ((with_reducible refine hS _ _ ?_); clear hS KS)
    | ((with_reducible refine hA _ ?_); clear hA KA)
    | ((with_reducible refine hB _ ?_); clear hB KB)
    | ((with_reducible refine r_block ?_))
    | ((with_reducible refine r_ret ?_); conv => whnf)
    | ((with_reducible refine r_skip ?_); conv => whnf)
    | ((with_reducible refine r_exit ?_); conv => whnf)
    | ((with_reducible refine WrapK.i64 ?_ ?_); (focus omega); conv => whnf)
    | ((with_reducible refine And.intro rfl ?_); conv => whnf)
    | ((with_reducible intro b); conv => whnf)
    | (refine CallK.pu (fun w => checkEff102 h hk (by omega) hd hn w) ?_; conv => whnf)
    | (apply in103; refine Tryz.ntmps103; rfl; rfl; rfl; intro A; conv => whnf)
    | (apply in143; refine Tryz.ntmps143; rfl; rfl; rfl; intro A; conv => whnf)
    | (apply in144; refine Tryz.ntmps144; rfl; rfl; rfl; intro A; conv => whnf)
    | (apply in145; refine Tryz.ntmps145; rfl; rfl; rfl; intro A; conv => whnf)
    | (apply in147; refine Tryz.ntmps147; rfl; rfl; rfl; intro A; conv => whnf)
    | (apply in148; refine Tryz.ntmps148; rfl; rfl; rfl; intro A; conv => whnf)
    | (apply in149; refine Tryz.ntmps149; rfl; rfl; rfl; intro A; conv => whnf)
    | (apply in216; refine Tryz.ntmps216; rfl; rfl; rfl; intro A; conv => whnf)
    | (apply in226; refine Tryz.ntmps226; rfl; rfl; rfl; intro A; conv => whnf)
    | (apply in82; refine Tryz.ntmps82; rfl; rfl; rfl; intro A; conv => whnf)
    | (apply in84; refine Tryz.ntmps84; rfl; rfl; rfl; intro A; conv => whnf)
    | (apply in211; refine Tryz.ntmps211; rfl; rfl; rfl; intro A; conv => whnf)
    | (apply in289; refine Tryz.ntmps289; rfl; rfl; rfl; intro A; conv => whnf)
    | (apply in221; refine Tryz.ntmps221; rfl; rfl; rfl; intro A; conv => whnf)
    | (apply in231; refine Tryz.ntmps231; rfl; rfl; rfl; intro A; conv => whnf)
    | (apply in299; refine Tryz.ntmps299; rfl; rfl; rfl; intro A; conv => whnf)
    | (refine aq217 ?_; conv => whnf)
    | (refine ak217 ?_; conv => whnf)
    | (refine aq228 ?_; conv => whnf)
    | (refine ak228 ?_; conv => whnf)
    | (refine aq236 ?_; conv => whnf)
    | (refine ak236 ?_; conv => whnf)
    | (refine WrapK.eq (IntWalk.u64_in _ (by omega)) ?_; conv => whnf)
    | (refine CallK.frB At.head (fun w => uint83n (n := 1) (by omega) w) ?_; conv => whnf)
    | (refine CallK.frE (by repeat (first | with_reducible apply At.head | apply At.tail)) (fun w => text85 (by omega) (by first | omega | (simp only [List.length_append, List.length_nil]; omega)) w) ?_; conv => whnf)
    | (refine CallK.pu (fun w => zig133 (by omega) w) ?_; conv => whnf)
    | (refine CallK.frZE (by repeat (first | with_reducible apply At.head | apply At.tail)) (fun w => limited86 hl w) ?_; conv => whnf)
    | (intro z; conv => whnf)
    | (refine CallK.frE (by repeat (first | with_reducible apply At.head | apply At.tail)) (fun w => uint83 (n := zigN d) hz (by first | omega | (simp only [List.length_append, List.length_nil]; omega)) w) ?_; conv => whnf)
    | (refine CallK.frE (by repeat (first | with_reducible apply At.head | apply At.tail)) (fun w => uint83 (n := s) (by omega) (by first | omega | (simp only [List.length_append, List.length_nil]; omega)) w) ?_; conv => whnf)
    | (refine CallK.frE (by repeat (first | with_reducible apply At.head | apply At.tail)) (fun w => uint83 (n := t) (by omega) (by first | omega | (simp only [List.length_append, List.length_nil]; omega)) w) ?_; conv => whnf)
    | (refine CallK.frE (by repeat (first | with_reducible apply At.head | apply At.tail)) (fun w => uint83 (n := p) (by omega) (by first | omega | (simp only [List.length_append, List.length_nil]; omega)) w) ?_; conv => whnf)
    | ((with_reducible apply OpK.more); (focus refine sok); (conv => whnf); fail_if_success guard_target =ₛ False)
    | ((with_reducible refine Rounds.step (fun KL hL => ?_)))
    | ((with_reducible refine hL _ _ ?_); clear hL KL)
    | ((with_reducible refine r_rounds 100 ?_))
    | ((with_reducible refine InAt.mk (fun K' hK => ?_)); conv => whnf)
    | ((with_reducible refine AnyAt.mk (fun K' hK => ?_)); conv => whnf)
    | ((with_reducible refine hK _ ?_); clear hK K'; conv => whnf)
    | ((with_reducible refine hK _ _ ?_); clear hK K'; conv => whnf)
    | ((refine And.intro ?_ ?_); all_goals (conv => whnf))
    | (apply r_quiet; refine mixed; kernel_rfl; kernel_rfl; kernel_rfl; conv => whnf)
    | ((refine if_t ?_ ?_); (focus decide); conv => whnf)
    | ((refine if_f ?_ ?_); (focus decide); conv => whnf)
    | ((refine if_decT ?_ ?_); (focus omega); conv => whnf)
    | ((refine if_decF ?_ ?_); (focus omega); conv => whnf)
    | ((refine if_ndecT ?_ ?_); (focus omega); conv => whnf)
    | ((refine if_ndecF ?_ ?_); (focus omega); conv => whnf)
    | ((refine if_dec (fun h => ?_) (fun h => ?_)); all_goals (conv => whnf))
    | ((refine if_ndec (fun h => ?_) (fun h => ?_)); all_goals (conv => whnf))
    | ((refine if_cond (fun h => ?_) (fun h => ?_)); all_goals (conv => whnf))
    | ((with_reducible apply_assumption -symm -exfalso)))
  exact FinK.frZ b rfl (HSub.pick (by repeat (first | with_reducible apply At.head | apply At.tail)))
theorem encOut62 {m : Nat} {f : ByteArray} (hm : 1 ≤ (m : Int) ∧ (m : Int) ≤ 64) (hf : nameOk f = true) (hs : f.size ≤ 16) (hl : (uvar 3 ++ uvar m ++ uvar f.size ++ f.data.toList ++ uvar (ByteArray.mk #[]).size ++ (ByteArray.mk #[]).data.toList).length ≤ 65536) (w : World) : FrZ Tryz.prog 62 #[.agg #[.int .i64 3, .int .i64 0, .int .i64 0, .int .i64 0, .int .i64 0, .int .i64 0, .string ⟨#[]⟩, .int .i64 0, .int .i64 (m : Nat), .string f, .string ⟨#[]⟩, .int .i64 0, .string ⟨#[]⟩, .int .i64 0, .int .i64 0, .slice none 0 0, .int .i64 0, .int .i64 0, .int .i64 0, .int .i64 0, .bool false, .int .i64 0, .int .i64 0, .string ⟨#[]⟩]] w emp (fun z : Option Addr × Nat => .tuple #[.slice z.1 (uvar 3 ++ uvar m ++ uvar f.size ++ f.data.toList ++ uvar (ByteArray.mk #[]).size ++ (ByteArray.mk #[]).data.toList).length z.2, .int .i64 0]) (fun z => SlA 5 1 z.1 (uvar 3 ++ uvar m ++ uvar f.size ++ f.data.toList ++ uvar (ByteArray.mk #[]).size ++ (ByteArray.mk #[]).data.toList).length z.2 (bcells (uvar 3 ++ uvar m ++ uvar f.size ++ f.data.toList ++ uvar (ByteArray.mk #[]).size ++ (ByteArray.mk #[]).data.toList))) := by
  refine enter_frZ TBok (H := []) emp_foot Tryz.func62 rfl rfl Tryz.ntmps62 [.agg [.v (.int .i64 3), .v (.int .i64 0), .v (.int .i64 0), .v (.int .i64 0), .v (.int .i64 0), .v (.int .i64 0), .v (.string ⟨#[]⟩), .v (.int .i64 0), .v (.int .i64 (m : Nat)), .v (.string f), .v (.string ⟨#[]⟩), .v (.int .i64 0), .v (.string ⟨#[]⟩), .v (.int .i64 0), .v (.int .i64 0), .v (.slice none 0 0), .v (.int .i64 0), .v (.int .i64 0), .v (.int .i64 0), .v (.int .i64 0), .v (.bool false), .v (.int .i64 0), .v (.int .i64 0), .v (.string ⟨#[]⟩)]] rfl rfl ?_
  intro S _ _
  have hkl := str_len f
  have he1 : (ByteArray.mk #[]).size = 0 := rfl
  have he2 : (ByteArray.mk #[]).data.toList.length = 0 := rfl
  have hu0 := uvar_len64 (n := 3) (by omega)
  have hu1 := uvar_len64 (n := m) (by omega)
  have hu2 := uvar_len64 (n := f.size) (by omega)
  have hu3 := uvar_len64 (n := (ByteArray.mk #[]).size) (by omega)
  conv => whnf
  repeat' (first
    | ((with_reducible refine r_seq (fun KS hS => ?_)))
    | ((with_reducible refine r_region ?_); conv => whnf)
    | ((with_reducible refine r_cond (fun KA hA KB hB => ?_)); conv => whnf)
    | ((with_reducible refine hS _ _ ?_); clear hS KS)
    | ((with_reducible refine hA _ ?_); clear hA KA)
    | ((with_reducible refine hB _ ?_); clear hB KB)
    | ((with_reducible refine r_block ?_))
    | ((with_reducible refine r_ret ?_); conv => whnf)
    | ((with_reducible refine r_skip ?_); conv => whnf)
    | ((with_reducible refine r_exit ?_); conv => whnf)
    | ((with_reducible refine WrapK.i64 ?_ ?_); (focus omega); conv => whnf)
    | ((with_reducible refine And.intro rfl ?_); conv => whnf)
    | ((with_reducible intro b); conv => whnf)
    | (refine CallK.pu (fun w => checkOut102 hm hf (by omega) w) ?_; conv => whnf)
    | (apply in103; refine Tryz.ntmps103; rfl; rfl; rfl; intro A; conv => whnf)
    | (apply in143; refine Tryz.ntmps143; rfl; rfl; rfl; intro A; conv => whnf)
    | (apply in144; refine Tryz.ntmps144; rfl; rfl; rfl; intro A; conv => whnf)
    | (apply in145; refine Tryz.ntmps145; rfl; rfl; rfl; intro A; conv => whnf)
    | (apply in147; refine Tryz.ntmps147; rfl; rfl; rfl; intro A; conv => whnf)
    | (apply in148; refine Tryz.ntmps148; rfl; rfl; rfl; intro A; conv => whnf)
    | (apply in149; refine Tryz.ntmps149; rfl; rfl; rfl; intro A; conv => whnf)
    | (apply in216; refine Tryz.ntmps216; rfl; rfl; rfl; intro A; conv => whnf)
    | (apply in226; refine Tryz.ntmps226; rfl; rfl; rfl; intro A; conv => whnf)
    | (apply in82; refine Tryz.ntmps82; rfl; rfl; rfl; intro A; conv => whnf)
    | (apply in84; refine Tryz.ntmps84; rfl; rfl; rfl; intro A; conv => whnf)
    | (apply in211; refine Tryz.ntmps211; rfl; rfl; rfl; intro A; conv => whnf)
    | (apply in289; refine Tryz.ntmps289; rfl; rfl; rfl; intro A; conv => whnf)
    | (apply in221; refine Tryz.ntmps221; rfl; rfl; rfl; intro A; conv => whnf)
    | (apply in231; refine Tryz.ntmps231; rfl; rfl; rfl; intro A; conv => whnf)
    | (apply in299; refine Tryz.ntmps299; rfl; rfl; rfl; intro A; conv => whnf)
    | (refine aq217 ?_; conv => whnf)
    | (refine ak217 ?_; conv => whnf)
    | (refine aq228 ?_; conv => whnf)
    | (refine ak228 ?_; conv => whnf)
    | (refine aq236 ?_; conv => whnf)
    | (refine ak236 ?_; conv => whnf)
    | (refine WrapK.eq (IntWalk.u64_in _ (by omega)) ?_; conv => whnf)
    | (refine CallK.frB At.head (fun w => uint83n (n := 3) (by omega) w) ?_; conv => whnf)
    | (refine CallK.frE (by repeat (first | with_reducible apply At.head | apply At.tail)) (fun w => text85 (by omega) (by first | omega | (simp only [List.length_append, List.length_nil]; omega)) w) ?_; conv => whnf)
    | (refine CallK.frZE (by repeat (first | with_reducible apply At.head | apply At.tail)) (fun w => limited86 hl w) ?_; conv => whnf)
    | (intro z; conv => whnf)
    | (refine CallK.frE (by repeat (first | with_reducible apply At.head | apply At.tail)) (fun w => uint83 (n := m) (by omega) (by first | omega | (simp only [List.length_append, List.length_nil]; omega)) w) ?_; conv => whnf)
    | ((with_reducible apply OpK.more); (focus refine sok); (conv => whnf); fail_if_success guard_target =ₛ False)
    | ((with_reducible refine Rounds.step (fun KL hL => ?_)))
    | ((with_reducible refine hL _ _ ?_); clear hL KL)
    | ((with_reducible refine r_rounds 100 ?_))
    | ((with_reducible refine InAt.mk (fun K' hK => ?_)); conv => whnf)
    | ((with_reducible refine AnyAt.mk (fun K' hK => ?_)); conv => whnf)
    | ((with_reducible refine hK _ ?_); clear hK K'; conv => whnf)
    | ((with_reducible refine hK _ _ ?_); clear hK K'; conv => whnf)
    | ((refine And.intro ?_ ?_); all_goals (conv => whnf))
    | (apply r_quiet; refine mixed; kernel_rfl; kernel_rfl; kernel_rfl; conv => whnf)
    | ((refine if_t ?_ ?_); (focus decide); conv => whnf)
    | ((refine if_f ?_ ?_); (focus decide); conv => whnf)
    | ((refine if_decT ?_ ?_); (focus omega); conv => whnf)
    | ((refine if_decF ?_ ?_); (focus omega); conv => whnf)
    | ((refine if_ndecT ?_ ?_); (focus omega); conv => whnf)
    | ((refine if_ndecF ?_ ?_); (focus omega); conv => whnf)
    | ((refine if_dec (fun h => ?_) (fun h => ?_)); all_goals (conv => whnf))
    | ((refine if_ndec (fun h => ?_) (fun h => ?_)); all_goals (conv => whnf))
    | ((refine if_cond (fun h => ?_) (fun h => ?_)); all_goals (conv => whnf))
    | ((with_reducible apply_assumption -symm -exfalso)))
  exact FinK.frZ b rfl (HSub.pick (by repeat (first | with_reducible apply At.head | apply At.tail)))
theorem encIn62 {m : Nat} {f x : ByteArray} (hm : 1 ≤ (m : Int) ∧ (m : Int) ≤ 64) (hf : nameOk f = true) (hs : f.size ≤ 16) (hx : x.size ≤ 65536) (hl : (uvar 4 ++ uvar m ++ uvar f.size ++ f.data.toList ++ uvar (ByteArray.mk #[]).size ++ (ByteArray.mk #[]).data.toList ++ uvar x.size ++ x.data.toList).length ≤ 65536) (w : World) : FrZ Tryz.prog 62 #[.agg #[.int .i64 4, .int .i64 0, .int .i64 0, .int .i64 0, .int .i64 0, .int .i64 0, .string ⟨#[]⟩, .int .i64 0, .int .i64 (m : Nat), .string f, .string ⟨#[]⟩, .int .i64 0, .string ⟨#[]⟩, .int .i64 0, .int .i64 0, .slice none 0 0, .int .i64 0, .int .i64 0, .int .i64 0, .int .i64 0, .bool false, .int .i64 0, .int .i64 0, .string x]] w emp (fun z : Option Addr × Nat => .tuple #[.slice z.1 (uvar 4 ++ uvar m ++ uvar f.size ++ f.data.toList ++ uvar (ByteArray.mk #[]).size ++ (ByteArray.mk #[]).data.toList ++ uvar x.size ++ x.data.toList).length z.2, .int .i64 0]) (fun z => SlA 5 1 z.1 (uvar 4 ++ uvar m ++ uvar f.size ++ f.data.toList ++ uvar (ByteArray.mk #[]).size ++ (ByteArray.mk #[]).data.toList ++ uvar x.size ++ x.data.toList).length z.2 (bcells (uvar 4 ++ uvar m ++ uvar f.size ++ f.data.toList ++ uvar (ByteArray.mk #[]).size ++ (ByteArray.mk #[]).data.toList ++ uvar x.size ++ x.data.toList))) := by
  refine enter_frZ TBok (H := []) emp_foot Tryz.func62 rfl rfl Tryz.ntmps62 [.agg [.v (.int .i64 4), .v (.int .i64 0), .v (.int .i64 0), .v (.int .i64 0), .v (.int .i64 0), .v (.int .i64 0), .v (.string ⟨#[]⟩), .v (.int .i64 0), .v (.int .i64 (m : Nat)), .v (.string f), .v (.string ⟨#[]⟩), .v (.int .i64 0), .v (.string ⟨#[]⟩), .v (.int .i64 0), .v (.int .i64 0), .v (.slice none 0 0), .v (.int .i64 0), .v (.int .i64 0), .v (.int .i64 0), .v (.int .i64 0), .v (.bool false), .v (.int .i64 0), .v (.int .i64 0), .v (.string x)]] rfl rfl ?_
  intro S _ _
  have hkl := str_len f
  have hkx := str_len x
  have he1 : (ByteArray.mk #[]).size = 0 := rfl
  have he2 : (ByteArray.mk #[]).data.toList.length = 0 := rfl
  have hu0 := uvar_len64 (n := 4) (by omega)
  have hu1 := uvar_len64 (n := m) (by omega)
  have hu2 := uvar_len64 (n := f.size) (by omega)
  have hu3 := uvar_len64 (n := (ByteArray.mk #[]).size) (by omega)
  have hu4 := uvar_len64 (n := x.size) (by omega)
  conv => whnf
  repeat' (first
    | ((with_reducible refine r_seq (fun KS hS => ?_)))
    | ((with_reducible refine r_region ?_); conv => whnf)
    | ((with_reducible refine r_cond (fun KA hA KB hB => ?_)); conv => whnf)
    | ((with_reducible refine hS _ _ ?_); clear hS KS)
    | ((with_reducible refine hA _ ?_); clear hA KA)
    | ((with_reducible refine hB _ ?_); clear hB KB)
    | ((with_reducible refine r_block ?_))
    | ((with_reducible refine r_ret ?_); conv => whnf)
    | ((with_reducible refine r_skip ?_); conv => whnf)
    | ((with_reducible refine r_exit ?_); conv => whnf)
    | ((with_reducible refine WrapK.i64 ?_ ?_); (focus omega); conv => whnf)
    | ((with_reducible refine And.intro rfl ?_); conv => whnf)
    | ((with_reducible intro b); conv => whnf)
    | (refine CallK.pu (fun w => checkIn102 hm hf (by omega) hx w) ?_; conv => whnf)
    | (apply in103; refine Tryz.ntmps103; rfl; rfl; rfl; intro A; conv => whnf)
    | (apply in143; refine Tryz.ntmps143; rfl; rfl; rfl; intro A; conv => whnf)
    | (apply in144; refine Tryz.ntmps144; rfl; rfl; rfl; intro A; conv => whnf)
    | (apply in145; refine Tryz.ntmps145; rfl; rfl; rfl; intro A; conv => whnf)
    | (apply in147; refine Tryz.ntmps147; rfl; rfl; rfl; intro A; conv => whnf)
    | (apply in148; refine Tryz.ntmps148; rfl; rfl; rfl; intro A; conv => whnf)
    | (apply in149; refine Tryz.ntmps149; rfl; rfl; rfl; intro A; conv => whnf)
    | (apply in216; refine Tryz.ntmps216; rfl; rfl; rfl; intro A; conv => whnf)
    | (apply in226; refine Tryz.ntmps226; rfl; rfl; rfl; intro A; conv => whnf)
    | (apply in82; refine Tryz.ntmps82; rfl; rfl; rfl; intro A; conv => whnf)
    | (apply in84; refine Tryz.ntmps84; rfl; rfl; rfl; intro A; conv => whnf)
    | (apply in211; refine Tryz.ntmps211; rfl; rfl; rfl; intro A; conv => whnf)
    | (apply in289; refine Tryz.ntmps289; rfl; rfl; rfl; intro A; conv => whnf)
    | (apply in221; refine Tryz.ntmps221; rfl; rfl; rfl; intro A; conv => whnf)
    | (apply in231; refine Tryz.ntmps231; rfl; rfl; rfl; intro A; conv => whnf)
    | (apply in299; refine Tryz.ntmps299; rfl; rfl; rfl; intro A; conv => whnf)
    | (refine aq217 ?_; conv => whnf)
    | (refine ak217 ?_; conv => whnf)
    | (refine aq228 ?_; conv => whnf)
    | (refine ak228 ?_; conv => whnf)
    | (refine aq236 ?_; conv => whnf)
    | (refine ak236 ?_; conv => whnf)
    | (refine WrapK.eq (IntWalk.u64_in _ (by omega)) ?_; conv => whnf)
    | (refine CallK.frB At.head (fun w => uint83n (n := 4) (by omega) w) ?_; conv => whnf)
    | (refine CallK.frE (by repeat (first | with_reducible apply At.head | apply At.tail)) (fun w => text85 (by omega) (by first | omega | (simp only [List.length_append, List.length_nil]; omega)) w) ?_; conv => whnf)
    | (refine CallK.frZE (by repeat (first | with_reducible apply At.head | apply At.tail)) (fun w => limited86 hl w) ?_; conv => whnf)
    | (intro z; conv => whnf)
    | (refine CallK.frE (by repeat (first | with_reducible apply At.head | apply At.tail)) (fun w => uint83 (n := m) (by omega) (by first | omega | (simp only [List.length_append, List.length_nil]; omega)) w) ?_; conv => whnf)
    | ((with_reducible apply OpK.more); (focus refine sok); (conv => whnf); fail_if_success guard_target =ₛ False)
    | ((with_reducible refine Rounds.step (fun KL hL => ?_)))
    | ((with_reducible refine hL _ _ ?_); clear hL KL)
    | ((with_reducible refine r_rounds 100 ?_))
    | ((with_reducible refine InAt.mk (fun K' hK => ?_)); conv => whnf)
    | ((with_reducible refine AnyAt.mk (fun K' hK => ?_)); conv => whnf)
    | ((with_reducible refine hK _ ?_); clear hK K'; conv => whnf)
    | ((with_reducible refine hK _ _ ?_); clear hK K'; conv => whnf)
    | ((refine And.intro ?_ ?_); all_goals (conv => whnf))
    | (apply r_quiet; refine mixed; kernel_rfl; kernel_rfl; kernel_rfl; conv => whnf)
    | ((refine if_t ?_ ?_); (focus decide); conv => whnf)
    | ((refine if_f ?_ ?_); (focus decide); conv => whnf)
    | ((refine if_decT ?_ ?_); (focus omega); conv => whnf)
    | ((refine if_decF ?_ ?_); (focus omega); conv => whnf)
    | ((refine if_ndecT ?_ ?_); (focus omega); conv => whnf)
    | ((refine if_ndecF ?_ ?_); (focus omega); conv => whnf)
    | ((refine if_dec (fun h => ?_) (fun h => ?_)); all_goals (conv => whnf))
    | ((refine if_ndec (fun h => ?_) (fun h => ?_)); all_goals (conv => whnf))
    | ((refine if_cond (fun h => ?_) (fun h => ?_)); all_goals (conv => whnf))
    | ((with_reducible apply_assumption -symm -exfalso)))
  exact FinK.frZ b rfl (HSub.pick (by repeat (first | with_reducible apply At.head | apply At.tail)))
end Go.Proofs.YtbgnoibellfojaaGreatDoor

namespace Go.Proofs.YtbgnoibellfojaaGreatDoor
open Go Go.X
set_option maxRecDepth 100000
set_option maxHeartbeats 0
theorem numG_uvar (n : Nat) : ∀ (i a : Nat) (r : List UInt8), (i = 0 ∨ n ≠ 0) → i ≤ 9 → n * 2 ^ (7 * i) < 2 ^ 64 → numG i a (uvar n ++ r) = (a + n * 2 ^ (7 * i), i + (uvar n).length) := by
  induction n using Nat.strongRecOn with
  | _ n ih =>
    intro i a r h0 hi hn
    by_cases h : n < 128
    · rw [uvar_lt h]
      have hc : (UInt8.ofNat n).toNat = n := by simp; omega
      have h9 : i = 9 → n ≤ 1 := by
        rintro rfl
        by_cases h2 : n ≤ 1
        · exact h2
        · have := Nat.mul_le_mul_right (2 ^ (7 * 9)) (show 2 ≤ n by omega)
          exact absurd (Nat.lt_of_le_of_lt this hn) (by decide)
      show numG i a (UInt8.ofNat n :: r) = _
      rw [numG, hc, if_neg (by omega), if_pos h, Nat.mod_eq_of_lt h]
      rfl
    · rw [uvar_ge h]
      have hc : (UInt8.ofNat (n % 128 + 128)).toNat = n % 128 + 128 := by simp; omega
      have h9 : i ≠ 9 := by
        rintro rfl
        have := Nat.mul_le_mul_right (2 ^ (7 * 9)) (show 2 ≤ n by omega)
        exact absurd (Nat.lt_of_le_of_lt this hn) (by decide)
      have e1 : 2 ^ (7 * (i + 1)) = 128 * 2 ^ (7 * i) := by rw [show 7 * (i + 1) = 7 + 7 * i by omega, Nat.pow_add]
      have e2 : n / 128 * 2 ^ (7 * (i + 1)) + n % 128 * 2 ^ (7 * i) = n * 2 ^ (7 * i) := by
        rw [e1, ← Nat.mul_assoc, ← Nat.add_mul]
        congr 1
        omega
      show numG i a (UInt8.ofNat (n % 128 + 128) :: (uvar (n / 128) ++ r)) = _
      rw [numG, hc, if_neg (by omega), if_neg (by omega), ih (n / 128) (by omega) (i + 1) _ r (.inr (by omega)) (by omega) (by omega)]
      rw [show (n % 128 + 128) % 128 = n % 128 by omega, List.length_cons]
      congr 1
      · omega
      · omega
theorem numR_uvar {n : Nat} (r : List UInt8) (hn : n < 2 ^ 64) : numR (uvar n ++ r) = (n, (uvar n).length) := by
  have := numG_uvar n 0 0 r (.inl rfl) (by omega) (by simpa using hn)
  simpa [numR] using this
theorem uvar_pos (n : Nat) : (uvar n).length ≠ 0 := by
  by_cases h : n < 128
  · rw [uvar_lt h]; simp
  · rw [uvar_ge h]; simp
theorem rdU_uvar {n : Nat} (r : List UInt8) (hn : n < 2 ^ 64) : rdU (some (uvar n ++ r)) = (n, some r) := by
  simp only [rdU, numR_uvar r hn, if_neg (uvar_pos n), List.drop_left]
theorem rdS_uvar {n most : Nat} (r : List UInt8) (hn : n < 2 ^ 64) (hm : n ≤ most) : rdS most (some (uvar n ++ r)) = (n, some r) := by
  unfold rdS
  rw [rdU_uvar r hn, if_neg (by dsimp only; omega)]
theorem zagI_zigN {a : Int} (ha : -9223372036854775808 ≤ a ∧ a ≤ 9223372036854775807) : zagI (zigN a) = a := by
  unfold zagI
  rcases Int.lt_or_le a 0 with h | h
  · have := zigN_neg h
    rw [if_neg (by omega)]
    omega
  · have := zigN_pos h
    rw [if_pos (by omega)]
    omega
theorem rdI_uvar {a : Int} (r : List UInt8) (ha : -9223372036854775808 ≤ a ∧ a ≤ 9223372036854775807) : rdI (some (uvar (zigN a) ++ r)) = (a, some r) := by
  simp only [rdI, numR_uvar r (zigN_lt ha), if_neg (uvar_pos _), List.drop_left, zagI_zigN ha]
theorem rdT_uvar {s : ByteArray} (r : List UInt8) (hs : s.size ≤ 65536) : rdT (some (uvar s.size ++ s.data.toList ++ r)) = (s, some r) := by
  rw [List.append_assoc]
  have h1 := numR_uvar (s.data.toList ++ r) (show s.size < 2 ^ 64 by omega)
  have hl := str_len s
  have h2 : txtR (uvar s.size ++ (s.data.toList ++ r)) = (s, (uvar s.size).length + s.size) := by
    unfold txtR
    rw [h1]
    have hp := uvar_pos s.size
    rw [if_neg (by simp only [List.length_append]; omega)]
    simp only [List.drop_left]
    congr 1
    apply str_ext
    show List.take s.size (s.data.toList ++ r) = _
    rw [← hl, List.take_left]
  simp only [rdT, h2]
  have hp := uvar_pos s.size
  rw [if_neg (by omega), ← hl, ← List.length_append, ← List.append_assoc, List.drop_left]
theorem small114e {p : Nat} {st st' : RSt} {most n : Nat} (hb : RB st) (hm : most ≤ 9223372036854775807) (e : rdS most st = (n, st')) (w : World) : Fr Tryz.prog 114 #[pv p, .int .i64 most] w (RdA p st) (.int .i64 n) (RdA p st') := by
  have := small114 (p := p) hb hm w
  rwa [e] at this
theorem int115e {p : Nat} {st st' : RSt} {a : Int} (hb : RB st) (e : rdI st = (a, st')) (w : World) : Fr Tryz.prog 115 #[pv p] w (RdA p st) (.int .i64 a) (RdA p st') := by
  have := int115 (p := p) hb w
  rwa [e] at this
theorem text116e {p : Nat} {st st' : RSt} {s : ByteArray} (hb : RB st) (e : rdT st = (s, st')) (w : World) : Fr Tryz.prog 116 #[pv p] w (RdA p st) (.string s) (RdA p st') := by
  have := text116 (p := p) hb w
  rwa [e] at this
theorem end117ok {p : Nat} (w : World) : Fr Tryz.prog 117 #[pv p] w (RdA p (some [])) (.int .i64 0) (RdA p (some [])) := by
  refine enter_fr TBok (A' := RdA p (some [])) (H := [.ext 12 (RdA p (some []))]) one_foot Tryz.func117 rfl rfl Tryz.ntmps117 [.loc p 10 0] rfl rfl ?_
  intro S
  refine Run.open (α := Option Addr × Nat) (A := []) (B := []) (fun z => RdH p (some []) z ++ []) (fun w S h => RdA.open (X := []) (Y := []) h) ?_
  rintro ⟨a, cap⟩
  dsimp only [RdH, List.cons_append, List.nil_append]
  conv => whnf
  repeat' (first
    | ((with_reducible refine r_seq (fun KS hS => ?_)))
    | ((with_reducible refine r_region ?_); conv => whnf)
    | ((with_reducible refine r_cond (fun KA hA KB hB => ?_)); conv => whnf)
    | ((with_reducible refine hS _ _ ?_); clear hS KS)
    | ((with_reducible refine hA _ ?_); clear hA KA)
    | ((with_reducible refine hB _ ?_); clear hB KB)
    | ((with_reducible refine r_block ?_))
    | ((with_reducible refine r_ret ?_); conv => whnf)
    | ((with_reducible refine r_skip ?_); conv => whnf)
    | ((with_reducible refine r_exit ?_); conv => whnf)
    | ((with_reducible refine WrapK.i64 ?_ ?_); (focus omega); conv => whnf)
    | ((with_reducible refine And.intro rfl ?_); conv => whnf)
    | ((with_reducible intro b); conv => whnf)
    | ((with_reducible apply OpK.more); (focus refine sok); (conv => whnf); fail_if_success guard_target =ₛ False)
    | ((with_reducible refine InAt.mk (fun K' hK => ?_)); conv => whnf)
    | ((with_reducible refine AnyAt.mk (fun K' hK => ?_)); conv => whnf)
    | ((with_reducible refine hK _ ?_); clear hK K'; conv => whnf)
    | ((with_reducible refine hK _ _ ?_); clear hK K'; conv => whnf)
    | ((refine And.intro ?_ ?_); all_goals (conv => whnf))
    | (apply r_quiet; refine mixed; kernel_rfl; kernel_rfl; kernel_rfl; conv => whnf)
    | ((refine if_t ?_ ?_); (focus decide); conv => whnf)
    | ((refine if_f ?_ ?_); (focus decide); conv => whnf)
    | ((refine if_decT ?_ ?_); (focus omega); conv => whnf)
    | ((refine if_decF ?_ ?_); (focus omega); conv => whnf)
    | ((refine if_ndecT ?_ ?_); (focus omega); conv => whnf)
    | ((refine if_ndecF ?_ ?_); (focus omega); conv => whnf)
    | ((refine if_dec (fun h => ?_) (fun h => ?_)); all_goals (conv => whnf))
    | ((refine if_ndec (fun h => ?_) (fun h => ?_)); all_goals (conv => whnf))
    | ((refine if_cond (fun h => ?_) (fun h => ?_)); all_goals (conv => whnf))
    | ((with_reducible apply_assumption -symm -exfalso)))
  all_goals exact FinK.fr (y := .ext 0 (RdA p (some []))) rfl (RdA.close rfl rfl) (fun _ _ h => h)
theorem end117bad {p : Nat} {st : RSt} (hst : st ≠ some []) (w : World) : Fr Tryz.prog 117 #[pv p] w (RdA p st) (.int .i64 10) (RdA p st) := by
  refine enter_fr TBok (A' := RdA p st) (H := [.ext 12 (RdA p st)]) one_foot Tryz.func117 rfl rfl Tryz.ntmps117 [.loc p 10 0] rfl rfl ?_
  intro S
  refine Run.open (α := Option Addr × Nat) (A := []) (B := []) (fun z => RdH p st z ++ []) (fun w S h => RdA.open (X := []) (Y := []) h) ?_
  rintro ⟨a, cap⟩
  cases st with
  | none =>
    dsimp only [RdH, List.cons_append, List.nil_append]
    conv => whnf
    repeat' (first
    | ((with_reducible refine r_seq (fun KS hS => ?_)))
    | ((with_reducible refine r_region ?_); conv => whnf)
    | ((with_reducible refine r_cond (fun KA hA KB hB => ?_)); conv => whnf)
    | ((with_reducible refine hS _ _ ?_); clear hS KS)
    | ((with_reducible refine hA _ ?_); clear hA KA)
    | ((with_reducible refine hB _ ?_); clear hB KB)
    | ((with_reducible refine r_block ?_))
    | ((with_reducible refine r_ret ?_); conv => whnf)
    | ((with_reducible refine r_skip ?_); conv => whnf)
    | ((with_reducible refine r_exit ?_); conv => whnf)
    | ((with_reducible refine WrapK.i64 ?_ ?_); (focus omega); conv => whnf)
    | ((with_reducible refine And.intro rfl ?_); conv => whnf)
    | ((with_reducible intro b); conv => whnf)
    | ((with_reducible apply OpK.more); (focus refine sok); (conv => whnf); fail_if_success guard_target =ₛ False)
    | ((with_reducible refine InAt.mk (fun K' hK => ?_)); conv => whnf)
    | ((with_reducible refine AnyAt.mk (fun K' hK => ?_)); conv => whnf)
    | ((with_reducible refine hK _ ?_); clear hK K'; conv => whnf)
    | ((with_reducible refine hK _ _ ?_); clear hK K'; conv => whnf)
    | ((refine And.intro ?_ ?_); all_goals (conv => whnf))
    | (apply r_quiet; refine mixed; kernel_rfl; kernel_rfl; kernel_rfl; conv => whnf)
    | ((refine if_t ?_ ?_); (focus decide); conv => whnf)
    | ((refine if_f ?_ ?_); (focus decide); conv => whnf)
    | ((refine if_decT ?_ ?_); (focus omega); conv => whnf)
    | ((refine if_decF ?_ ?_); (focus omega); conv => whnf)
    | ((refine if_ndecT ?_ ?_); (focus omega); conv => whnf)
    | ((refine if_ndecF ?_ ?_); (focus omega); conv => whnf)
    | ((refine if_dec (fun h => ?_) (fun h => ?_)); all_goals (conv => whnf))
    | ((refine if_ndec (fun h => ?_) (fun h => ?_)); all_goals (conv => whnf))
    | ((refine if_cond (fun h => ?_) (fun h => ?_)); all_goals (conv => whnf))
    | ((with_reducible apply_assumption -symm -exfalso)))
    exact FinK.fr (y := .ext 0 (RdA p none)) rfl RdA.closeN (fun _ _ h => h)
  | some l =>
    have hl : l.length ≠ 0 := fun h => hst (by rw [List.length_eq_zero_iff.1 h])
    dsimp only [RdH, List.cons_append, List.nil_append]
    conv => whnf
    repeat' (first
    | ((with_reducible refine r_seq (fun KS hS => ?_)))
    | ((with_reducible refine r_region ?_); conv => whnf)
    | ((with_reducible refine r_cond (fun KA hA KB hB => ?_)); conv => whnf)
    | ((with_reducible refine hS _ _ ?_); clear hS KS)
    | ((with_reducible refine hA _ ?_); clear hA KA)
    | ((with_reducible refine hB _ ?_); clear hB KB)
    | ((with_reducible refine r_block ?_))
    | ((with_reducible refine r_ret ?_); conv => whnf)
    | ((with_reducible refine r_skip ?_); conv => whnf)
    | ((with_reducible refine r_exit ?_); conv => whnf)
    | ((with_reducible refine WrapK.i64 ?_ ?_); (focus omega); conv => whnf)
    | ((with_reducible refine And.intro rfl ?_); conv => whnf)
    | ((with_reducible intro b); conv => whnf)
    | ((with_reducible apply OpK.more); (focus refine sok); (conv => whnf); fail_if_success guard_target =ₛ False)
    | ((with_reducible refine InAt.mk (fun K' hK => ?_)); conv => whnf)
    | ((with_reducible refine AnyAt.mk (fun K' hK => ?_)); conv => whnf)
    | ((with_reducible refine hK _ ?_); clear hK K'; conv => whnf)
    | ((with_reducible refine hK _ _ ?_); clear hK K'; conv => whnf)
    | ((refine And.intro ?_ ?_); all_goals (conv => whnf))
    | (apply r_quiet; refine mixed; kernel_rfl; kernel_rfl; kernel_rfl; conv => whnf)
    | ((refine if_t ?_ ?_); (focus decide); conv => whnf)
    | ((refine if_f ?_ ?_); (focus decide); conv => whnf)
    | ((refine if_decT ?_ ?_); (focus omega); conv => whnf)
    | ((refine if_decF ?_ ?_); (focus omega); conv => whnf)
    | ((refine if_ndecT ?_ ?_); (focus omega); conv => whnf)
    | ((refine if_ndecF ?_ ?_); (focus omega); conv => whnf)
    | ((refine if_dec (fun h => ?_) (fun h => ?_)); all_goals (conv => whnf))
    | ((refine if_ndec (fun h => ?_) (fun h => ?_)); all_goals (conv => whnf))
    | ((refine if_cond (fun h => ?_) (fun h => ?_)); all_goals (conv => whnf))
    | ((with_reducible apply_assumption -symm -exfalso)))
    exact FinK.fr (y := .ext 0 (RdA p (some l))) rfl (RdA.close rfl rfl) (fun _ _ h => h)
theorem RdA.closeT {p j i1 i2 : Nat} {l : List UInt8} {a cap} {R : List Blk} : HSub (.ext j (RdA p (some l)) :: R) (.blk i1 p [.v (.bool true), .v (.bool false), .v (.slice a l.length cap)] 238 :: .ext i2 (SlA 5 1 a l.length cap (bcells l)) :: R) :=
  HSub.app2 (A' := [_]) (A := [_, _]) (RdA.close rfl rfl) (HSub.refl R)
theorem RB.len {l : List UInt8} (h : l.length ≤ 1099511627776) : RB (some l) := fun l' e => by
  simp only [Option.some.injEq] at e
  subst e
  exact h

theorem decEff76 {s t p : Nat} {k : ByteArray} {d : Int} {a : Option Addr} {n cap : Nat} {w : World} (hr : RdS w 5 1 a n cap (bcells (uvar 1 ++ (uvar s ++ (uvar t ++ (uvar p ++ (uvar k.size ++ k.data.toList ++ (uvar (zigN d) ++ [])))))))) (h : EffOk s t p) (hk : nameOk k = true) (hks : k.size ≤ 16) (hd : d ≠ 0) (hn : NumOk d) (hl : n ≤ 65536) : Pu Tryz.prog 76 #[.slice a n cap] w (.tuple #[.agg #[.int .i64 1, .int .i64 0, .int .i64 0, .int .i64 (s : Nat), .int .i64 (t : Nat), .int .i64 (p : Nat), .string k, .int .i64 d, .int .i64 0, .string ⟨#[]⟩, .string ⟨#[]⟩, .int .i64 0, .string ⟨#[]⟩, .int .i64 0, .int .i64 0, .slice none 0 0, .int .i64 0, .int .i64 0, .int .i64 0, .int .i64 0, .bool false, .int .i64 0, .int .i64 0, .string ⟨#[]⟩], .int .i64 0]) := by
  have hlen := hr.len
  rw [bcells_length, Nat.mul_one] at hlen
  have hs := fun n' r H => Sees.old (c := ⟨Tryz.prog, TB, n', w, noS, r, TBok⟩) (H := H) hr.old
  have h' := h
  have hn' := hn
  unfold EffOk at h'
  unfold NumOk at hn'
  have e0 : rdS 15 (some (uvar 1 ++ (uvar s ++ (uvar t ++ (uvar p ++ (uvar k.size ++ k.data.toList ++ (uvar (zigN d) ++ []))))))) = (1, some (uvar s ++ (uvar t ++ (uvar p ++ (uvar k.size ++ k.data.toList ++ (uvar (zigN d) ++ [])))))) := rdS_uvar _ (by omega) (by omega)
  have e1 : rdS 9999 (some (uvar s ++ (uvar t ++ (uvar p ++ (uvar k.size ++ k.data.toList ++ (uvar (zigN d) ++ [])))))) = (s, some (uvar t ++ (uvar p ++ (uvar k.size ++ k.data.toList ++ (uvar (zigN d) ++ []))))) := rdS_uvar _ (by omega) (by omega)
  have e2 : rdS 8 (some (uvar t ++ (uvar p ++ (uvar k.size ++ k.data.toList ++ (uvar (zigN d) ++ []))))) = (t, some (uvar p ++ (uvar k.size ++ k.data.toList ++ (uvar (zigN d) ++ [])))) := rdS_uvar _ (by omega) (by omega)
  have e3 : rdS 3 (some (uvar p ++ (uvar k.size ++ k.data.toList ++ (uvar (zigN d) ++ [])))) = (p, some (uvar k.size ++ k.data.toList ++ (uvar (zigN d) ++ []))) := rdS_uvar _ (by omega) (by omega)
  have e4 : rdT (some (uvar k.size ++ k.data.toList ++ (uvar (zigN d) ++ []))) = (k, some (uvar (zigN d) ++ [])) := rdT_uvar _ (by omega)
  have e5 : rdI (some (uvar (zigN d) ++ [])) = (d, some ([])) := rdI_uvar _ (by omega)
  subst hlen
  have hne : (uvar 1 ++ (uvar s ++ (uvar t ++ (uvar p ++ (uvar k.size ++ k.data.toList ++ (uvar (zigN d) ++ [])))))).length ≠ 0 := by have := uvar_pos 1; simp only [List.length_append]; omega
  have hll := hl
  simp only [List.length_append, List.length_nil] at hll
  refine enter_sound TBok Tryz.func76 rfl rfl Tryz.ntmps76 [.v (.slice a (uvar 1 ++ (uvar s ++ (uvar t ++ (uvar p ++ (uvar k.size ++ k.data.toList ++ (uvar (zigN d) ++ [])))))).length cap)] (Kn.start w noS) rfl rfl ?_
  conv => whnf
  repeat' (first
    | ((with_reducible refine r_seq (fun KS hS => ?_)))
    | ((with_reducible refine r_region ?_); conv => whnf)
    | ((with_reducible refine r_cond (fun KA hA KB hB => ?_)); conv => whnf)
    | ((with_reducible refine hS _ _ ?_); clear hS KS)
    | ((with_reducible refine hA _ ?_); clear hA KA)
    | ((with_reducible refine hB _ ?_); clear hB KB)
    | ((with_reducible refine r_block ?_))
    | ((with_reducible refine r_ret ?_); conv => whnf)
    | ((with_reducible refine r_skip ?_); conv => whnf)
    | ((with_reducible refine r_exit ?_); conv => whnf)
    | ((with_reducible refine WrapK.i64 ?_ ?_); (focus omega); conv => whnf)
    | ((with_reducible refine And.intro rfl ?_); conv => whnf)
    | ((with_reducible intro b); conv => whnf)
    | (apply in103; refine Tryz.ntmps103; rfl; rfl; rfl; intro A; conv => whnf)
    | (apply in143; refine Tryz.ntmps143; rfl; rfl; rfl; intro A; conv => whnf)
    | (apply in144; refine Tryz.ntmps144; rfl; rfl; rfl; intro A; conv => whnf)
    | (apply in145; refine Tryz.ntmps145; rfl; rfl; rfl; intro A; conv => whnf)
    | (apply in147; refine Tryz.ntmps147; rfl; rfl; rfl; intro A; conv => whnf)
    | (apply in148; refine Tryz.ntmps148; rfl; rfl; rfl; intro A; conv => whnf)
    | (apply in149; refine Tryz.ntmps149; rfl; rfl; rfl; intro A; conv => whnf)
    | (apply in216; refine Tryz.ntmps216; rfl; rfl; rfl; intro A; conv => whnf)
    | (apply in226; refine Tryz.ntmps226; rfl; rfl; rfl; intro A; conv => whnf)
    | (apply in113; refine Tryz.ntmps113; rfl; rfl; rfl; intro A; conv => whnf)
    | (apply in212; refine Tryz.ntmps212; rfl; rfl; rfl; intro A; conv => whnf)
    | (apply in222; refine Tryz.ntmps222; rfl; rfl; rfl; intro A; conv => whnf)
    | (apply in232; refine Tryz.ntmps232; rfl; rfl; rfl; intro A; conv => whnf)
    | (apply in290; refine Tryz.ntmps290; rfl; rfl; rfl; intro A; conv => whnf)
    | (apply in300; refine Tryz.ntmps300; rfl; rfl; rfl; intro A; conv => whnf)
    | (refine aq217 ?_; conv => whnf)
    | (refine ak217 ?_; conv => whnf)
    | (refine aq228 ?_; conv => whnf)
    | (refine ak228 ?_; conv => whnf)
    | (refine aq236 ?_; conv => whnf)
    | (refine ak236 ?_; conv => whnf)
    | (refine CallK.fresh (fun ms w hk => clone191 (l := uvar 1 ++ (uvar s ++ (uvar t ++ (uvar p ++ (uvar k.size ++ k.data.toList ++ (uvar (zigN d) ++ [])))))) (Sees.rd (hs _ _ _) hk) (by omega)) ?_; conv => whnf)
    | (intro z; conv => whnf)
    | (refine CallK.weak (RdA.closeT (j := 0)) (CallK.frE At.head (fun w => small114e (RB.len (by simp only [List.length_append, List.length_nil]; omega)) (by omega) e0 w) ?_); conv => whnf)
    | (refine CallK.frE (by repeat (first | with_reducible apply At.head | apply At.tail)) (fun w => small114e (RB.len (by simp only [List.length_append, List.length_nil]; omega)) (by omega) e1 w) ?_; conv => whnf)
    | (refine CallK.frE (by repeat (first | with_reducible apply At.head | apply At.tail)) (fun w => small114e (RB.len (by simp only [List.length_append, List.length_nil]; omega)) (by omega) e2 w) ?_; conv => whnf)
    | (refine CallK.frE (by repeat (first | with_reducible apply At.head | apply At.tail)) (fun w => small114e (RB.len (by simp only [List.length_append, List.length_nil]; omega)) (by omega) e3 w) ?_; conv => whnf)
    | (refine CallK.frE (by repeat (first | with_reducible apply At.head | apply At.tail)) (fun w => text116e (RB.len (by simp only [List.length_append, List.length_nil]; omega)) e4 w) ?_; conv => whnf)
    | (refine CallK.frE (by repeat (first | with_reducible apply At.head | apply At.tail)) (fun w => int115e (RB.len (by simp only [List.length_append, List.length_nil]; omega)) e5 w) ?_; conv => whnf)
    | (refine CallK.frE (by repeat (first | with_reducible apply At.head | apply At.tail)) (fun w => end117ok w) ?_; conv => whnf)
    | (refine CallK.pu (fun w => checkEff102 h hk (by omega) hd hn w) ?_; conv => whnf)
    | ((with_reducible apply OpK.more); (focus refine sok); (conv => whnf); fail_if_success guard_target =ₛ False)
    | ((with_reducible refine Rounds.step (fun KL hL => ?_)))
    | ((with_reducible refine hL _ _ ?_); clear hL KL)
    | ((with_reducible refine r_rounds 100 ?_))
    | ((with_reducible refine InAt.mk (fun K' hK => ?_)); conv => whnf)
    | ((with_reducible refine AnyAt.mk (fun K' hK => ?_)); conv => whnf)
    | ((with_reducible refine hK _ ?_); clear hK K'; conv => whnf)
    | ((with_reducible refine hK _ _ ?_); clear hK K'; conv => whnf)
    | ((refine And.intro ?_ ?_); all_goals (conv => whnf))
    | (apply r_quiet; refine mixed; kernel_rfl; kernel_rfl; kernel_rfl; conv => whnf)
    | ((refine if_t ?_ ?_); (focus decide); conv => whnf)
    | ((refine if_f ?_ ?_); (focus decide); conv => whnf)
    | ((refine if_decT ?_ ?_); (focus omega); conv => whnf)
    | ((refine if_decF ?_ ?_); (focus omega); conv => whnf)
    | ((refine if_ndecT ?_ ?_); (focus omega); conv => whnf)
    | ((refine if_ndecF ?_ ?_); (focus omega); conv => whnf)
    | ((refine if_dec (fun h => ?_) (fun h => ?_)); all_goals (conv => whnf))
    | ((refine if_ndec (fun h => ?_) (fun h => ?_)); all_goals (conv => whnf))
    | ((refine if_cond (fun h => ?_) (fun h => ?_)); all_goals (conv => whnf))
    | ((with_reducible apply_assumption -symm -exfalso)))
  all_goals exact FinK.pu rfl

theorem decOut76 {m : Nat} {f : ByteArray} {a : Option Addr} {n cap : Nat} {w : World} (hr : RdS w 5 1 a n cap (bcells (uvar 3 ++ (uvar m ++ (uvar f.size ++ f.data.toList ++ (uvar (ByteArray.mk #[]).size ++ (ByteArray.mk #[]).data.toList ++ [])))))) (hm : 1 ≤ (m : Int) ∧ (m : Int) ≤ 64) (hf : nameOk f = true) (hs : f.size ≤ 16) (hl : n ≤ 65536) : Pu Tryz.prog 76 #[.slice a n cap] w (.tuple #[.agg #[.int .i64 3, .int .i64 0, .int .i64 0, .int .i64 0, .int .i64 0, .int .i64 0, .string ⟨#[]⟩, .int .i64 0, .int .i64 (m : Nat), .string f, .string ⟨#[]⟩, .int .i64 0, .string ⟨#[]⟩, .int .i64 0, .int .i64 0, .slice none 0 0, .int .i64 0, .int .i64 0, .int .i64 0, .int .i64 0, .bool false, .int .i64 0, .int .i64 0, .string ⟨#[]⟩], .int .i64 0]) := by
  have hlen := hr.len
  rw [bcells_length, Nat.mul_one] at hlen
  have hs := fun n' r H => Sees.old (c := ⟨Tryz.prog, TB, n', w, noS, r, TBok⟩) (H := H) hr.old
  have he1 : (ByteArray.mk #[]).size = 0 := rfl
  have e0 : rdS 15 (some (uvar 3 ++ (uvar m ++ (uvar f.size ++ f.data.toList ++ (uvar (ByteArray.mk #[]).size ++ (ByteArray.mk #[]).data.toList ++ []))))) = (3, some (uvar m ++ (uvar f.size ++ f.data.toList ++ (uvar (ByteArray.mk #[]).size ++ (ByteArray.mk #[]).data.toList ++ [])))) := rdS_uvar _ (by omega) (by omega)
  have e1 : rdS 64 (some (uvar m ++ (uvar f.size ++ f.data.toList ++ (uvar (ByteArray.mk #[]).size ++ (ByteArray.mk #[]).data.toList ++ [])))) = (m, some (uvar f.size ++ f.data.toList ++ (uvar (ByteArray.mk #[]).size ++ (ByteArray.mk #[]).data.toList ++ []))) := rdS_uvar _ (by omega) (by omega)
  have e2 : rdT (some (uvar f.size ++ f.data.toList ++ (uvar (ByteArray.mk #[]).size ++ (ByteArray.mk #[]).data.toList ++ []))) = (f, some (uvar (ByteArray.mk #[]).size ++ (ByteArray.mk #[]).data.toList ++ [])) := rdT_uvar _ (by omega)
  have e3 : rdT (some (uvar (ByteArray.mk #[]).size ++ (ByteArray.mk #[]).data.toList ++ [])) = ((ByteArray.mk #[]), some ([])) := rdT_uvar _ (by omega)
  subst hlen
  have hne : (uvar 3 ++ (uvar m ++ (uvar f.size ++ f.data.toList ++ (uvar (ByteArray.mk #[]).size ++ (ByteArray.mk #[]).data.toList ++ [])))).length ≠ 0 := by have := uvar_pos 3; simp only [List.length_append]; omega
  have hll := hl
  simp only [List.length_append, List.length_nil] at hll
  refine enter_sound TBok Tryz.func76 rfl rfl Tryz.ntmps76 [.v (.slice a (uvar 3 ++ (uvar m ++ (uvar f.size ++ f.data.toList ++ (uvar (ByteArray.mk #[]).size ++ (ByteArray.mk #[]).data.toList ++ [])))).length cap)] (Kn.start w noS) rfl rfl ?_
  conv => whnf
  repeat' (first
    | ((with_reducible refine r_seq (fun KS hS => ?_)))
    | ((with_reducible refine r_region ?_); conv => whnf)
    | ((with_reducible refine r_cond (fun KA hA KB hB => ?_)); conv => whnf)
    | ((with_reducible refine hS _ _ ?_); clear hS KS)
    | ((with_reducible refine hA _ ?_); clear hA KA)
    | ((with_reducible refine hB _ ?_); clear hB KB)
    | ((with_reducible refine r_block ?_))
    | ((with_reducible refine r_ret ?_); conv => whnf)
    | ((with_reducible refine r_skip ?_); conv => whnf)
    | ((with_reducible refine r_exit ?_); conv => whnf)
    | ((with_reducible refine WrapK.i64 ?_ ?_); (focus omega); conv => whnf)
    | ((with_reducible refine And.intro rfl ?_); conv => whnf)
    | ((with_reducible intro b); conv => whnf)
    | (apply in103; refine Tryz.ntmps103; rfl; rfl; rfl; intro A; conv => whnf)
    | (apply in143; refine Tryz.ntmps143; rfl; rfl; rfl; intro A; conv => whnf)
    | (apply in144; refine Tryz.ntmps144; rfl; rfl; rfl; intro A; conv => whnf)
    | (apply in145; refine Tryz.ntmps145; rfl; rfl; rfl; intro A; conv => whnf)
    | (apply in147; refine Tryz.ntmps147; rfl; rfl; rfl; intro A; conv => whnf)
    | (apply in148; refine Tryz.ntmps148; rfl; rfl; rfl; intro A; conv => whnf)
    | (apply in149; refine Tryz.ntmps149; rfl; rfl; rfl; intro A; conv => whnf)
    | (apply in216; refine Tryz.ntmps216; rfl; rfl; rfl; intro A; conv => whnf)
    | (apply in226; refine Tryz.ntmps226; rfl; rfl; rfl; intro A; conv => whnf)
    | (apply in113; refine Tryz.ntmps113; rfl; rfl; rfl; intro A; conv => whnf)
    | (apply in212; refine Tryz.ntmps212; rfl; rfl; rfl; intro A; conv => whnf)
    | (apply in222; refine Tryz.ntmps222; rfl; rfl; rfl; intro A; conv => whnf)
    | (apply in232; refine Tryz.ntmps232; rfl; rfl; rfl; intro A; conv => whnf)
    | (apply in290; refine Tryz.ntmps290; rfl; rfl; rfl; intro A; conv => whnf)
    | (apply in300; refine Tryz.ntmps300; rfl; rfl; rfl; intro A; conv => whnf)
    | (refine aq217 ?_; conv => whnf)
    | (refine ak217 ?_; conv => whnf)
    | (refine aq228 ?_; conv => whnf)
    | (refine ak228 ?_; conv => whnf)
    | (refine aq236 ?_; conv => whnf)
    | (refine ak236 ?_; conv => whnf)
    | (refine CallK.fresh (fun ms w hk => clone191 (l := uvar 3 ++ (uvar m ++ (uvar f.size ++ f.data.toList ++ (uvar (ByteArray.mk #[]).size ++ (ByteArray.mk #[]).data.toList ++ [])))) (Sees.rd (hs _ _ _) hk) (by omega)) ?_; conv => whnf)
    | (intro z; conv => whnf)
    | (refine CallK.weak (RdA.closeT (j := 0)) (CallK.frE At.head (fun w => small114e (RB.len (by simp only [List.length_append, List.length_nil]; omega)) (by omega) e0 w) ?_); conv => whnf)
    | (refine CallK.frE (by repeat (first | with_reducible apply At.head | apply At.tail)) (fun w => small114e (RB.len (by simp only [List.length_append, List.length_nil]; omega)) (by omega) e1 w) ?_; conv => whnf)
    | (refine CallK.frE (by repeat (first | with_reducible apply At.head | apply At.tail)) (fun w => text116e (RB.len (by simp only [List.length_append, List.length_nil]; omega)) e2 w) ?_; conv => whnf)
    | (refine CallK.frE (by repeat (first | with_reducible apply At.head | apply At.tail)) (fun w => text116e (RB.len (by simp only [List.length_append, List.length_nil]; omega)) e3 w) ?_; conv => whnf)
    | (refine CallK.frE (by repeat (first | with_reducible apply At.head | apply At.tail)) (fun w => end117ok w) ?_; conv => whnf)
    | (refine CallK.pu (fun w => checkOut102 hm hf (by omega) w) ?_; conv => whnf)
    | (apply r_any; refine mixed; kernel_rfl; kernel_rfl; conv => whnf)
    | ((with_reducible apply OpK.more); (focus refine sok); (conv => whnf); fail_if_success guard_target =ₛ False)
    | ((with_reducible refine Rounds.step (fun KL hL => ?_)))
    | ((with_reducible refine hL _ _ ?_); clear hL KL)
    | ((with_reducible refine r_rounds 100 ?_))
    | ((with_reducible refine InAt.mk (fun K' hK => ?_)); conv => whnf)
    | ((with_reducible refine AnyAt.mk (fun K' hK => ?_)); conv => whnf)
    | ((with_reducible refine hK _ ?_); clear hK K'; conv => whnf)
    | ((with_reducible refine hK _ _ ?_); clear hK K'; conv => whnf)
    | ((refine And.intro ?_ ?_); all_goals (conv => whnf))
    | (apply r_quiet; refine mixed; kernel_rfl; kernel_rfl; kernel_rfl; conv => whnf)
    | ((refine if_t ?_ ?_); (focus decide); conv => whnf)
    | ((refine if_f ?_ ?_); (focus decide); conv => whnf)
    | ((refine if_decT ?_ ?_); (focus omega); conv => whnf)
    | ((refine if_decF ?_ ?_); (focus omega); conv => whnf)
    | ((refine if_ndecT ?_ ?_); (focus omega); conv => whnf)
    | ((refine if_ndecF ?_ ?_); (focus omega); conv => whnf)
    | ((refine if_dec (fun h => ?_) (fun h => ?_)); all_goals (conv => whnf))
    | ((refine if_ndec (fun h => ?_) (fun h => ?_)); all_goals (conv => whnf))
    | ((refine if_cond (fun h => ?_) (fun h => ?_)); all_goals (conv => whnf))
    | ((with_reducible apply_assumption -symm -exfalso)))
  all_goals exact FinK.pu rfl

theorem decIn76 {m : Nat} {f x : ByteArray} {a : Option Addr} {n cap : Nat} {w : World} (hr : RdS w 5 1 a n cap (bcells (uvar 4 ++ (uvar m ++ (uvar f.size ++ f.data.toList ++ (uvar (ByteArray.mk #[]).size ++ (ByteArray.mk #[]).data.toList ++ (uvar x.size ++ x.data.toList ++ []))))))) (hm : 1 ≤ (m : Int) ∧ (m : Int) ≤ 64) (hf : nameOk f = true) (hs : f.size ≤ 16) (hx : x.size ≤ 65536) (hl : n ≤ 65536) : Pu Tryz.prog 76 #[.slice a n cap] w (.tuple #[.agg #[.int .i64 4, .int .i64 0, .int .i64 0, .int .i64 0, .int .i64 0, .int .i64 0, .string ⟨#[]⟩, .int .i64 0, .int .i64 (m : Nat), .string f, .string ⟨#[]⟩, .int .i64 0, .string ⟨#[]⟩, .int .i64 0, .int .i64 0, .slice none 0 0, .int .i64 0, .int .i64 0, .int .i64 0, .int .i64 0, .bool false, .int .i64 0, .int .i64 0, .string x], .int .i64 0]) := by
  have hlen := hr.len
  rw [bcells_length, Nat.mul_one] at hlen
  have hs := fun n' r H => Sees.old (c := ⟨Tryz.prog, TB, n', w, noS, r, TBok⟩) (H := H) hr.old
  have he1 : (ByteArray.mk #[]).size = 0 := rfl
  have e0 : rdS 15 (some (uvar 4 ++ (uvar m ++ (uvar f.size ++ f.data.toList ++ (uvar (ByteArray.mk #[]).size ++ (ByteArray.mk #[]).data.toList ++ (uvar x.size ++ x.data.toList ++ [])))))) = (4, some (uvar m ++ (uvar f.size ++ f.data.toList ++ (uvar (ByteArray.mk #[]).size ++ (ByteArray.mk #[]).data.toList ++ (uvar x.size ++ x.data.toList ++ []))))) := rdS_uvar _ (by omega) (by omega)
  have e1 : rdS 64 (some (uvar m ++ (uvar f.size ++ f.data.toList ++ (uvar (ByteArray.mk #[]).size ++ (ByteArray.mk #[]).data.toList ++ (uvar x.size ++ x.data.toList ++ []))))) = (m, some (uvar f.size ++ f.data.toList ++ (uvar (ByteArray.mk #[]).size ++ (ByteArray.mk #[]).data.toList ++ (uvar x.size ++ x.data.toList ++ [])))) := rdS_uvar _ (by omega) (by omega)
  have e2 : rdT (some (uvar f.size ++ f.data.toList ++ (uvar (ByteArray.mk #[]).size ++ (ByteArray.mk #[]).data.toList ++ (uvar x.size ++ x.data.toList ++ [])))) = (f, some (uvar (ByteArray.mk #[]).size ++ (ByteArray.mk #[]).data.toList ++ (uvar x.size ++ x.data.toList ++ []))) := rdT_uvar _ (by omega)
  have e3 : rdT (some (uvar (ByteArray.mk #[]).size ++ (ByteArray.mk #[]).data.toList ++ (uvar x.size ++ x.data.toList ++ []))) = ((ByteArray.mk #[]), some (uvar x.size ++ x.data.toList ++ [])) := rdT_uvar _ (by omega)
  have e4 : rdT (some (uvar x.size ++ x.data.toList ++ [])) = (x, some ([])) := rdT_uvar _ (by omega)
  subst hlen
  have hne : (uvar 4 ++ (uvar m ++ (uvar f.size ++ f.data.toList ++ (uvar (ByteArray.mk #[]).size ++ (ByteArray.mk #[]).data.toList ++ (uvar x.size ++ x.data.toList ++ []))))).length ≠ 0 := by have := uvar_pos 4; simp only [List.length_append]; omega
  have hll := hl
  simp only [List.length_append, List.length_nil] at hll
  refine enter_sound TBok Tryz.func76 rfl rfl Tryz.ntmps76 [.v (.slice a (uvar 4 ++ (uvar m ++ (uvar f.size ++ f.data.toList ++ (uvar (ByteArray.mk #[]).size ++ (ByteArray.mk #[]).data.toList ++ (uvar x.size ++ x.data.toList ++ []))))).length cap)] (Kn.start w noS) rfl rfl ?_
  conv => whnf
  repeat' (first
    | ((with_reducible refine r_seq (fun KS hS => ?_)))
    | ((with_reducible refine r_region ?_); conv => whnf)
    | ((with_reducible refine r_cond (fun KA hA KB hB => ?_)); conv => whnf)
    | ((with_reducible refine hS _ _ ?_); clear hS KS)
    | ((with_reducible refine hA _ ?_); clear hA KA)
    | ((with_reducible refine hB _ ?_); clear hB KB)
    | ((with_reducible refine r_block ?_))
    | ((with_reducible refine r_ret ?_); conv => whnf)
    | ((with_reducible refine r_skip ?_); conv => whnf)
    | ((with_reducible refine r_exit ?_); conv => whnf)
    | ((with_reducible refine WrapK.i64 ?_ ?_); (focus omega); conv => whnf)
    | ((with_reducible refine And.intro rfl ?_); conv => whnf)
    | ((with_reducible intro b); conv => whnf)
    | (apply in103; refine Tryz.ntmps103; rfl; rfl; rfl; intro A; conv => whnf)
    | (apply in143; refine Tryz.ntmps143; rfl; rfl; rfl; intro A; conv => whnf)
    | (apply in144; refine Tryz.ntmps144; rfl; rfl; rfl; intro A; conv => whnf)
    | (apply in145; refine Tryz.ntmps145; rfl; rfl; rfl; intro A; conv => whnf)
    | (apply in147; refine Tryz.ntmps147; rfl; rfl; rfl; intro A; conv => whnf)
    | (apply in148; refine Tryz.ntmps148; rfl; rfl; rfl; intro A; conv => whnf)
    | (apply in149; refine Tryz.ntmps149; rfl; rfl; rfl; intro A; conv => whnf)
    | (apply in216; refine Tryz.ntmps216; rfl; rfl; rfl; intro A; conv => whnf)
    | (apply in226; refine Tryz.ntmps226; rfl; rfl; rfl; intro A; conv => whnf)
    | (apply in113; refine Tryz.ntmps113; rfl; rfl; rfl; intro A; conv => whnf)
    | (apply in212; refine Tryz.ntmps212; rfl; rfl; rfl; intro A; conv => whnf)
    | (apply in222; refine Tryz.ntmps222; rfl; rfl; rfl; intro A; conv => whnf)
    | (apply in232; refine Tryz.ntmps232; rfl; rfl; rfl; intro A; conv => whnf)
    | (apply in290; refine Tryz.ntmps290; rfl; rfl; rfl; intro A; conv => whnf)
    | (apply in300; refine Tryz.ntmps300; rfl; rfl; rfl; intro A; conv => whnf)
    | (refine aq217 ?_; conv => whnf)
    | (refine ak217 ?_; conv => whnf)
    | (refine aq228 ?_; conv => whnf)
    | (refine ak228 ?_; conv => whnf)
    | (refine aq236 ?_; conv => whnf)
    | (refine ak236 ?_; conv => whnf)
    | (refine CallK.fresh (fun ms w hk => clone191 (l := uvar 4 ++ (uvar m ++ (uvar f.size ++ f.data.toList ++ (uvar (ByteArray.mk #[]).size ++ (ByteArray.mk #[]).data.toList ++ (uvar x.size ++ x.data.toList ++ []))))) (Sees.rd (hs _ _ _) hk) (by omega)) ?_; conv => whnf)
    | (intro z; conv => whnf)
    | (refine CallK.weak (RdA.closeT (j := 0)) (CallK.frE At.head (fun w => small114e (RB.len (by simp only [List.length_append, List.length_nil]; omega)) (by omega) e0 w) ?_); conv => whnf)
    | (refine CallK.frE (by repeat (first | with_reducible apply At.head | apply At.tail)) (fun w => small114e (RB.len (by simp only [List.length_append, List.length_nil]; omega)) (by omega) e1 w) ?_; conv => whnf)
    | (refine CallK.frE (by repeat (first | with_reducible apply At.head | apply At.tail)) (fun w => text116e (RB.len (by simp only [List.length_append, List.length_nil]; omega)) e2 w) ?_; conv => whnf)
    | (refine CallK.frE (by repeat (first | with_reducible apply At.head | apply At.tail)) (fun w => text116e (RB.len (by simp only [List.length_append, List.length_nil]; omega)) e3 w) ?_; conv => whnf)
    | (refine CallK.frE (by repeat (first | with_reducible apply At.head | apply At.tail)) (fun w => text116e (RB.len (by simp only [List.length_append, List.length_nil]; omega)) e4 w) ?_; conv => whnf)
    | (refine CallK.frE (by repeat (first | with_reducible apply At.head | apply At.tail)) (fun w => end117ok w) ?_; conv => whnf)
    | (refine CallK.pu (fun w => checkIn102 hm hf (by omega) hx w) ?_; conv => whnf)
    | (apply r_any; refine mixed; kernel_rfl; kernel_rfl; conv => whnf)
    | ((with_reducible apply OpK.more); (focus refine sok); (conv => whnf); fail_if_success guard_target =ₛ False)
    | ((with_reducible refine Rounds.step (fun KL hL => ?_)))
    | ((with_reducible refine hL _ _ ?_); clear hL KL)
    | ((with_reducible refine r_rounds 100 ?_))
    | ((with_reducible refine InAt.mk (fun K' hK => ?_)); conv => whnf)
    | ((with_reducible refine AnyAt.mk (fun K' hK => ?_)); conv => whnf)
    | ((with_reducible refine hK _ ?_); clear hK K'; conv => whnf)
    | ((with_reducible refine hK _ _ ?_); clear hK K'; conv => whnf)
    | ((refine And.intro ?_ ?_); all_goals (conv => whnf))
    | (apply r_quiet; refine mixed; kernel_rfl; kernel_rfl; kernel_rfl; conv => whnf)
    | ((refine if_t ?_ ?_); (focus decide); conv => whnf)
    | ((refine if_f ?_ ?_); (focus decide); conv => whnf)
    | ((refine if_decT ?_ ?_); (focus omega); conv => whnf)
    | ((refine if_decF ?_ ?_); (focus omega); conv => whnf)
    | ((refine if_ndecT ?_ ?_); (focus omega); conv => whnf)
    | ((refine if_ndecF ?_ ?_); (focus omega); conv => whnf)
    | ((refine if_dec (fun h => ?_) (fun h => ?_)); all_goals (conv => whnf))
    | ((refine if_ndec (fun h => ?_) (fun h => ?_)); all_goals (conv => whnf))
    | ((refine if_cond (fun h => ?_) (fun h => ?_)); all_goals (conv => whnf))
    | ((with_reducible apply_assumption -symm -exfalso)))
  all_goals exact FinK.pu rfl

end Go.Proofs.YtbgnoibellfojaaGreatDoor

namespace Go.Proofs.YtbgnoibellfojaaGreatDoor
open Go Go.X
set_option maxRecDepth 100000
set_option maxHeartbeats 0
theorem checkReply81 {e d : Int} {x : ByteArray} (he : 0 ≤ e ∧ e ≤ 18) (hn : NumOk d) (hx : x.size ≤ 65536) (w : World) : Pu Tryz.prog 81 #[.agg #[.int .i64 e, .int .i64 d, .string x]] w (.int .i64 0) := by
  refine enter_sound TBok Tryz.func81 rfl rfl Tryz.ntmps81 [.agg [.v (.int .i64 e), .v (.int .i64 d), .v (.string x)]] (Kn.start w noS) rfl rfl ?_
  conv => whnf
  repeat' (first
    | ((with_reducible refine r_seq (fun KS hS => ?_)))
    | ((with_reducible refine r_region ?_); conv => whnf)
    | ((with_reducible refine r_cond (fun KA hA KB hB => ?_)); conv => whnf)
    | ((with_reducible refine hS _ _ ?_); clear hS KS)
    | ((with_reducible refine hA _ ?_); clear hA KA)
    | ((with_reducible refine hB _ ?_); clear hB KB)
    | ((with_reducible refine r_block ?_))
    | ((with_reducible refine r_ret ?_); conv => whnf)
    | ((with_reducible refine r_skip ?_); conv => whnf)
    | ((with_reducible refine r_exit ?_); conv => whnf)
    | ((with_reducible refine WrapK.i64 ?_ ?_); (focus omega); conv => whnf)
    | ((with_reducible refine And.intro rfl ?_); conv => whnf)
    | ((with_reducible intro b); conv => whnf)
    | (refine CallK.pu (fun w => numOk131 hn w) ?_; conv => whnf)
    | ((with_reducible apply OpK.more); (focus refine sok); (conv => whnf); fail_if_success guard_target =ₛ False)
    | ((with_reducible refine InAt.mk (fun K' hK => ?_)); conv => whnf)
    | ((with_reducible refine AnyAt.mk (fun K' hK => ?_)); conv => whnf)
    | ((with_reducible refine hK _ ?_); clear hK K'; conv => whnf)
    | ((with_reducible refine hK _ _ ?_); clear hK K'; conv => whnf)
    | ((refine And.intro ?_ ?_); all_goals (conv => whnf))
    | (apply r_quiet; refine mixed; kernel_rfl; kernel_rfl; kernel_rfl; conv => whnf)
    | ((refine if_t ?_ ?_); (focus decide); conv => whnf)
    | ((refine if_f ?_ ?_); (focus decide); conv => whnf)
    | ((refine if_decT ?_ ?_); (focus omega); conv => whnf)
    | ((refine if_decF ?_ ?_); (focus omega); conv => whnf)
    | ((refine if_ndecT ?_ ?_); (focus omega); conv => whnf)
    | ((refine if_ndecF ?_ ?_); (focus omega); conv => whnf)
    | ((refine if_dec (fun h => ?_) (fun h => ?_)); all_goals (conv => whnf))
    | ((refine if_ndec (fun h => ?_) (fun h => ?_)); all_goals (conv => whnf))
    | ((refine if_cond (fun h => ?_) (fun h => ?_)); all_goals (conv => whnf))
    | ((with_reducible apply_assumption -symm -exfalso)))
  exact FinK.pu rfl
theorem checkReplyBad81 {e d : Int} {x : ByteArray} (h : ¬ ((0 ≤ e ∧ e ≤ 18) ∧ NumOk d ∧ x.size ≤ 65536)) (w : World) : Pu Tryz.prog 81 #[.agg #[.int .i64 e, .int .i64 d, .string x]] w (.int .i64 2) := by
  refine enter_sound TBok Tryz.func81 rfl rfl Tryz.ntmps81 [.agg [.v (.int .i64 e), .v (.int .i64 d), .v (.string x)]] (Kn.start w noS) rfl rfl ?_
  by_cases hn : NumOk d
  · have h2 : ¬ ((0 ≤ e ∧ e ≤ 18) ∧ x.size ≤ 65536) := fun ⟨a, b⟩ => h ⟨a, hn, b⟩
    conv => whnf
    repeat' (first
    | ((with_reducible refine r_seq (fun KS hS => ?_)))
    | ((with_reducible refine r_region ?_); conv => whnf)
    | ((with_reducible refine r_cond (fun KA hA KB hB => ?_)); conv => whnf)
    | ((with_reducible refine hS _ _ ?_); clear hS KS)
    | ((with_reducible refine hA _ ?_); clear hA KA)
    | ((with_reducible refine hB _ ?_); clear hB KB)
    | ((with_reducible refine r_block ?_))
    | ((with_reducible refine r_ret ?_); conv => whnf)
    | ((with_reducible refine r_skip ?_); conv => whnf)
    | ((with_reducible refine r_exit ?_); conv => whnf)
    | ((with_reducible refine WrapK.i64 ?_ ?_); (focus omega); conv => whnf)
    | ((with_reducible refine And.intro rfl ?_); conv => whnf)
    | ((with_reducible intro b); conv => whnf)
    | (refine CallK.pu (fun w => numOk131 hn w) ?_; conv => whnf)
    | ((with_reducible apply OpK.more); (focus refine sok); (conv => whnf); fail_if_success guard_target =ₛ False)
    | ((with_reducible refine InAt.mk (fun K' hK => ?_)); conv => whnf)
    | ((with_reducible refine AnyAt.mk (fun K' hK => ?_)); conv => whnf)
    | ((with_reducible refine hK _ ?_); clear hK K'; conv => whnf)
    | ((with_reducible refine hK _ _ ?_); clear hK K'; conv => whnf)
    | ((refine And.intro ?_ ?_); all_goals (conv => whnf))
    | (apply r_quiet; refine mixed; kernel_rfl; kernel_rfl; kernel_rfl; conv => whnf)
    | ((refine if_t ?_ ?_); (focus decide); conv => whnf)
    | ((refine if_f ?_ ?_); (focus decide); conv => whnf)
    | ((refine if_decT ?_ ?_); (focus omega); conv => whnf)
    | ((refine if_decF ?_ ?_); (focus omega); conv => whnf)
    | ((refine if_ndecT ?_ ?_); (focus omega); conv => whnf)
    | ((refine if_ndecF ?_ ?_); (focus omega); conv => whnf)
    | ((refine if_dec (fun h => ?_) (fun h => ?_)); all_goals (conv => whnf))
    | ((refine if_ndec (fun h => ?_) (fun h => ?_)); all_goals (conv => whnf))
    | ((refine if_cond (fun h => ?_) (fun h => ?_)); all_goals (conv => whnf))
    | ((with_reducible apply_assumption -symm -exfalso)))
    all_goals first | exact FinK.pu rfl | (exfalso; omega)
  · conv => whnf
    repeat' (first
    | ((with_reducible refine r_seq (fun KS hS => ?_)))
    | ((with_reducible refine r_region ?_); conv => whnf)
    | ((with_reducible refine r_cond (fun KA hA KB hB => ?_)); conv => whnf)
    | ((with_reducible refine hS _ _ ?_); clear hS KS)
    | ((with_reducible refine hA _ ?_); clear hA KA)
    | ((with_reducible refine hB _ ?_); clear hB KB)
    | ((with_reducible refine r_block ?_))
    | ((with_reducible refine r_ret ?_); conv => whnf)
    | ((with_reducible refine r_skip ?_); conv => whnf)
    | ((with_reducible refine r_exit ?_); conv => whnf)
    | ((with_reducible refine WrapK.i64 ?_ ?_); (focus omega); conv => whnf)
    | ((with_reducible refine And.intro rfl ?_); conv => whnf)
    | ((with_reducible intro b); conv => whnf)
    | (refine CallK.pu (fun w => numBad131 hn w) ?_; conv => whnf)
    | ((with_reducible apply OpK.more); (focus refine sok); (conv => whnf); fail_if_success guard_target =ₛ False)
    | ((with_reducible refine InAt.mk (fun K' hK => ?_)); conv => whnf)
    | ((with_reducible refine AnyAt.mk (fun K' hK => ?_)); conv => whnf)
    | ((with_reducible refine hK _ ?_); clear hK K'; conv => whnf)
    | ((with_reducible refine hK _ _ ?_); clear hK K'; conv => whnf)
    | ((refine And.intro ?_ ?_); all_goals (conv => whnf))
    | (apply r_quiet; refine mixed; kernel_rfl; kernel_rfl; kernel_rfl; conv => whnf)
    | ((refine if_t ?_ ?_); (focus decide); conv => whnf)
    | ((refine if_f ?_ ?_); (focus decide); conv => whnf)
    | ((refine if_decT ?_ ?_); (focus omega); conv => whnf)
    | ((refine if_decF ?_ ?_); (focus omega); conv => whnf)
    | ((refine if_ndecT ?_ ?_); (focus omega); conv => whnf)
    | ((refine if_ndecF ?_ ?_); (focus omega); conv => whnf)
    | ((refine if_dec (fun h => ?_) (fun h => ?_)); all_goals (conv => whnf))
    | ((refine if_ndec (fun h => ?_) (fun h => ?_)); all_goals (conv => whnf))
    | ((refine if_cond (fun h => ?_) (fun h => ?_)); all_goals (conv => whnf))
    | ((with_reducible apply_assumption -symm -exfalso)))
    all_goals exact FinK.pu rfl
theorem reply46 {e : Nat} {d : Int} {x : ByteArray} (he : 0 ≤ (e : Int) ∧ (e : Int) ≤ 18) (hn : NumOk d) (hx : x.size ≤ 65536) (hl : (uvar e ++ uvar (zigN d) ++ uvar x.size ++ x.data.toList).length ≤ 65536) (w : World) :
    FrZ Tryz.prog 46 #[.agg #[.int .i64 (e : Nat), .int .i64 d, .string x]] w emp (fun z : Option Addr × Nat => .tuple #[.slice z.1 (uvar e ++ uvar (zigN d) ++ uvar x.size ++ x.data.toList).length z.2, .int .i64 0]) (fun z => SlA 5 1 z.1 (uvar e ++ uvar (zigN d) ++ uvar x.size ++ x.data.toList).length z.2 (bcells (uvar e ++ uvar (zigN d) ++ uvar x.size ++ x.data.toList))) := by
  refine enter_frZ TBok (H := []) emp_foot Tryz.func46 rfl rfl Tryz.ntmps46 [.agg [.v (.int .i64 (e : Nat)), .v (.int .i64 d), .v (.string x)]] rfl rfl ?_
  intro S _ _
  have hn' := hn
  unfold NumOk at hn'
  have hz := zigN_lt (a := d) (by omega)
  have hkl := str_len x
  have hu0 := uvar_len64 (n := e) (by omega)
  have hu1 := uvar_len64 (n := zigN d) hz
  have hu2 := uvar_len64 (n := x.size) (by omega)
  conv => whnf
  repeat' (first
    | ((with_reducible refine r_seq (fun KS hS => ?_)))
    | ((with_reducible refine r_region ?_); conv => whnf)
    | ((with_reducible refine r_cond (fun KA hA KB hB => ?_)); conv => whnf)
    | ((with_reducible refine hS _ _ ?_); clear hS KS)
    | ((with_reducible refine hA _ ?_); clear hA KA)
    | ((with_reducible refine hB _ ?_); clear hB KB)
    | ((with_reducible refine r_block ?_))
    | ((with_reducible refine r_ret ?_); conv => whnf)
    | ((with_reducible refine r_skip ?_); conv => whnf)
    | ((with_reducible refine r_exit ?_); conv => whnf)
    | ((with_reducible refine WrapK.i64 ?_ ?_); (focus omega); conv => whnf)
    | ((with_reducible refine And.intro rfl ?_); conv => whnf)
    | ((with_reducible intro b); conv => whnf)
    | (apply in82; refine Tryz.ntmps82; rfl; rfl; rfl; intro A; conv => whnf)
    | (apply in84; refine Tryz.ntmps84; rfl; rfl; rfl; intro A; conv => whnf)
    | (refine CallK.pu (fun w => checkReply81 he hn hx w) ?_; conv => whnf)
    | (refine WrapK.eq (IntWalk.u64_in _ (by omega)) ?_; conv => whnf)
    | (refine CallK.frB At.head (fun w => uint83n (n := e) (by omega) w) ?_; conv => whnf)
    | (refine CallK.frE (by repeat (first | with_reducible apply At.head | apply At.tail)) (fun w => text85 (by omega) (by first | omega | (simp only [List.length_append, List.length_nil]; omega)) w) ?_; conv => whnf)
    | (refine CallK.pu (fun w => zig133 (by omega) w) ?_; conv => whnf)
    | (refine CallK.frZE (by repeat (first | with_reducible apply At.head | apply At.tail)) (fun w => limited86 hl w) ?_; conv => whnf)
    | (intro z; conv => whnf)
    | (refine CallK.frE (by repeat (first | with_reducible apply At.head | apply At.tail)) (fun w => uint83 (n := zigN d) hz (by omega) w) ?_; conv => whnf)
    | ((with_reducible apply OpK.more); (focus refine sok); (conv => whnf); fail_if_success guard_target =ₛ False)
    | ((with_reducible refine InAt.mk (fun K' hK => ?_)); conv => whnf)
    | ((with_reducible refine AnyAt.mk (fun K' hK => ?_)); conv => whnf)
    | ((with_reducible refine hK _ ?_); clear hK K'; conv => whnf)
    | ((with_reducible refine hK _ _ ?_); clear hK K'; conv => whnf)
    | ((refine And.intro ?_ ?_); all_goals (conv => whnf))
    | (apply r_quiet; refine mixed; kernel_rfl; kernel_rfl; kernel_rfl; conv => whnf)
    | ((refine if_t ?_ ?_); (focus decide); conv => whnf)
    | ((refine if_f ?_ ?_); (focus decide); conv => whnf)
    | ((refine if_decT ?_ ?_); (focus omega); conv => whnf)
    | ((refine if_decF ?_ ?_); (focus omega); conv => whnf)
    | ((refine if_ndecT ?_ ?_); (focus omega); conv => whnf)
    | ((refine if_ndecF ?_ ?_); (focus omega); conv => whnf)
    | ((refine if_dec (fun h => ?_) (fun h => ?_)); all_goals (conv => whnf))
    | ((refine if_ndec (fun h => ?_) (fun h => ?_)); all_goals (conv => whnf))
    | ((refine if_cond (fun h => ?_) (fun h => ?_)); all_goals (conv => whnf))
    | ((with_reducible apply_assumption -symm -exfalso)))
  exact FinK.frZ b rfl (HSub.pick (by repeat (first | with_reducible apply At.head | apply At.tail)))
theorem parse71 {e : Nat} {d : Int} {x : ByteArray} {a : Option Addr} {n cap : Nat} {w : World} (hr : RdS w 5 1 a n cap (bcells (uvar e ++ (uvar (zigN d) ++ (uvar x.size ++ x.data.toList ++ []))))) (he : 0 ≤ (e : Int) ∧ (e : Int) ≤ 18) (hn : NumOk d) (hx : x.size ≤ 65536) (hl : n ≤ 65536) :
    Pu Tryz.prog 71 #[.slice a n cap] w (.tuple #[.agg #[.int .i64 (e : Nat), .int .i64 d, .string x], .int .i64 0]) := by
  have hlen := hr.len
  rw [bcells_length, Nat.mul_one] at hlen
  have hs := fun n' r H => Sees.old (c := ⟨Tryz.prog, TB, n', w, noS, r, TBok⟩) (H := H) hr.old
  have hn' := hn
  unfold NumOk at hn'
  have e0 : rdS 18 (some (uvar e ++ (uvar (zigN d) ++ (uvar x.size ++ x.data.toList ++ [])))) = (e, some (uvar (zigN d) ++ (uvar x.size ++ x.data.toList ++ []))) := rdS_uvar _ (by omega) (by omega)
  have e1 : rdI (some (uvar (zigN d) ++ (uvar x.size ++ x.data.toList ++ []))) = (d, some (uvar x.size ++ x.data.toList ++ [])) := rdI_uvar _ (by omega)
  have e2 : rdT (some (uvar x.size ++ x.data.toList ++ [])) = (x, some []) := rdT_uvar _ (by omega)
  subst hlen
  have hll := hl
  simp only [List.length_append, List.length_nil] at hll
  refine enter_sound TBok Tryz.func71 rfl rfl Tryz.ntmps71 [.v (.slice a (uvar e ++ (uvar (zigN d) ++ (uvar x.size ++ x.data.toList ++ []))).length cap)] (Kn.start w noS) rfl rfl ?_
  conv => whnf
  repeat' (first
    | ((with_reducible refine r_seq (fun KS hS => ?_)))
    | ((with_reducible refine r_region ?_); conv => whnf)
    | ((with_reducible refine r_cond (fun KA hA KB hB => ?_)); conv => whnf)
    | ((with_reducible refine hS _ _ ?_); clear hS KS)
    | ((with_reducible refine hA _ ?_); clear hA KA)
    | ((with_reducible refine hB _ ?_); clear hB KB)
    | ((with_reducible refine r_block ?_))
    | ((with_reducible refine r_ret ?_); conv => whnf)
    | ((with_reducible refine r_skip ?_); conv => whnf)
    | ((with_reducible refine r_exit ?_); conv => whnf)
    | ((with_reducible refine WrapK.i64 ?_ ?_); (focus omega); conv => whnf)
    | ((with_reducible refine And.intro rfl ?_); conv => whnf)
    | ((with_reducible intro b); conv => whnf)
    | (apply in113; refine Tryz.ntmps113; rfl; rfl; rfl; intro A; conv => whnf)
    | (refine CallK.fresh (fun ms w hk => clone191 (l := uvar e ++ (uvar (zigN d) ++ (uvar x.size ++ x.data.toList ++ []))) (Sees.rd (hs _ _ _) hk) (by omega)) ?_; conv => whnf)
    | (intro z; conv => whnf)
    | (refine CallK.weak (RdA.closeT (j := 0)) (CallK.frE At.head (fun w => small114e (RB.len (by simp only [List.length_append, List.length_nil]; omega)) (by omega) e0 w) ?_); conv => whnf)
    | (refine CallK.frE (by repeat (first | with_reducible apply At.head | apply At.tail)) (fun w => int115e (RB.len (by simp only [List.length_append, List.length_nil]; omega)) e1 w) ?_; conv => whnf)
    | (refine CallK.frE (by repeat (first | with_reducible apply At.head | apply At.tail)) (fun w => text116e (RB.len (by simp only [List.length_append, List.length_nil]; omega)) e2 w) ?_; conv => whnf)
    | (refine CallK.frE (by repeat (first | with_reducible apply At.head | apply At.tail)) (fun w => end117ok w) ?_; conv => whnf)
    | (refine CallK.pu (fun w => checkReply81 he hn hx w) ?_; conv => whnf)
    | ((with_reducible apply OpK.more); (focus refine sok); (conv => whnf); fail_if_success guard_target =ₛ False)
    | ((with_reducible refine InAt.mk (fun K' hK => ?_)); conv => whnf)
    | ((with_reducible refine AnyAt.mk (fun K' hK => ?_)); conv => whnf)
    | ((with_reducible refine hK _ ?_); clear hK K'; conv => whnf)
    | ((with_reducible refine hK _ _ ?_); clear hK K'; conv => whnf)
    | ((refine And.intro ?_ ?_); all_goals (conv => whnf))
    | (apply r_quiet; refine mixed; kernel_rfl; kernel_rfl; kernel_rfl; conv => whnf)
    | ((refine if_t ?_ ?_); (focus decide); conv => whnf)
    | ((refine if_f ?_ ?_); (focus decide); conv => whnf)
    | ((refine if_decT ?_ ?_); (focus omega); conv => whnf)
    | ((refine if_decF ?_ ?_); (focus omega); conv => whnf)
    | ((refine if_ndecT ?_ ?_); (focus omega); conv => whnf)
    | ((refine if_ndecF ?_ ?_); (focus omega); conv => whnf)
    | ((refine if_dec (fun h => ?_) (fun h => ?_)); all_goals (conv => whnf))
    | ((refine if_ndec (fun h => ?_) (fun h => ?_)); all_goals (conv => whnf))
    | ((refine if_cond (fun h => ?_) (fun h => ?_)); all_goals (conv => whnf))
    | ((with_reducible apply_assumption -symm -exfalso)))
  exact FinK.pu rfl
end Go.Proofs.YtbgnoibellfojaaGreatDoor

