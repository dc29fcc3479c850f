/- Contracts and lemmas for the claim (part XN4); no condition of its own. -/
import Derived.Test.YtbgnoibellfojaaGreatDoorXN3
import Derived.Test.YtbgnoibellfojaaGreatDoorXT
import Derived.Test.YtbgnoibellfojaaGreatDoorXB
set_option linter.all false
set_option linter.unusedVariables false
set_option linter.unusedSimpArgs false
set_option linter.unnecessarySimpa false
namespace Go.X
open Go
theorem OpK.aIx {c : Cx} {o : Oper} {E : Env} {H : List Blk} {nx : K1} {t e len : Nat} {x ix : Operand} {ti j : TI} (ho : o.op = .index t x ix) {cs : List SV} {q : IntKind} {z : Int} (hx : opd E x = some (.agg cs)) (hi : opd E ix = some (.v (.int q z)))
    (hti : c.T.get t = some ti) (hd : ti.desc = .array len e) (hj : c.T.get e = some j) (h0 : 0 ≤ z) (hlt : z < len) (h : loadF c e cs (z.toNat * j.size) (fun s => nx s H)) : OpK c o E H nx := by
  have hnd : ∀ cl, o.op ≠ .defer cl := by rw [ho]; intro cl e; cases e
  obtain ⟨s, h1, h2⟩ := part_run c.ok h
  refine OpK.val hnd s (fun ms ac w ha hk => ?_) h2
  have hu := (c.ok t ti hti).1
  rw [hd] at hu
  have e1 := ha.opd hx
  have e2 := ha.opd hi
  simp only [den] at e1 e2
  simp [execOp, ho, e1, e2, Instr.index, asIntOf, run_underlying hu, r_sizeOf (c.ok e j hj) w, hlt, h0, h1 w]
end Go.X
namespace Go.Proofs.YtbgnoibellfojaaGreatDoor
open Go Go.X
set_option maxRecDepth 100000
set_option maxHeartbeats 0
theorem bytes135 {p : Nat} {l : List UInt8} (hl : l.length ≤ 1099511627776) (w : World) : FrZ Tryz.prog 135 #[pv p] w (WrA p l) (fun z : Option Addr × Nat => .slice z.1 l.length z.2) (fun z => SlA 5 1 z.1 l.length z.2 (bcells l)) := by
  refine enter_frZ TBok (H := [.ext 12 (WrA p l)]) one_foot Tryz.func135 rfl rfl Tryz.ntmps135 [.loc p 10 0] rfl rfl ?_
  intro S _ _
  refine Run.open (α := Option Addr × Nat) (A := []) (B := []) (fun z => [.blk 10 p [.v (.bool true), .v (.slice z.1 l.length z.2)] 209, .ext 11 (SlA 5 1 z.1 l.length z.2 (bcells l))]) (fun w S h => WrA.open (X := []) (Y := []) h) ?_
  rintro ⟨a, cap⟩
  dsimp only
  conv => whnf
  repeat' (first
    | ((with_reducible refine r_seq (fun KS hS => ?_)))
    | ((with_reducible refine r_region ?_); conv => whnf)
    | ((with_reducible refine r_cond (fun KA hA KB hB => ?_)); conv => whnf)
    | ((with_reducible refine hS _ _ ?_); clear hS KS)
    | ((with_reducible refine hA _ ?_); clear hA KA)
    | ((with_reducible refine hB _ ?_); clear hB KB)
    | ((with_reducible refine r_block ?_))
    | ((with_reducible refine r_ret ?_); conv => whnf)
    | ((with_reducible refine r_skip ?_); conv => whnf)
    | ((with_reducible refine r_exit ?_); conv => whnf)
    | ((with_reducible refine WrapK.i64 ?_ ?_); (focus omega); conv => whnf)
    | ((with_reducible refine And.intro rfl ?_); conv => whnf)
    | ((with_reducible intro b); conv => whnf)
    | (refine CallK.fresh (fun ms w hk => clone191 (l := l) (Sees.rd (Sees.ext (by repeat (first | with_reducible apply At.head | apply At.tail))) hk) (by omega)) ?_; conv => whnf)
    | (intro z; conv => whnf)
    | ((with_reducible apply OpK.more); (focus refine sok); (conv => whnf); fail_if_success guard_target =ₛ False)
    | ((with_reducible refine InAt.mk (fun K' hK => ?_)); conv => whnf)
    | ((with_reducible refine AnyAt.mk (fun K' hK => ?_)); conv => whnf)
    | ((with_reducible refine hK _ ?_); clear hK K'; conv => whnf)
    | ((with_reducible refine hK _ _ ?_); clear hK K'; conv => whnf)
    | ((refine And.intro ?_ ?_); all_goals (conv => whnf))
    | (apply r_quiet; refine mixed; kernel_rfl; kernel_rfl; kernel_rfl; conv => whnf)
    | ((refine if_t ?_ ?_); (focus decide); conv => whnf)
    | ((refine if_f ?_ ?_); (focus decide); conv => whnf)
    | ((refine if_decT ?_ ?_); (focus omega); conv => whnf)
    | ((refine if_decF ?_ ?_); (focus omega); conv => whnf)
    | ((refine if_ndecT ?_ ?_); (focus omega); conv => whnf)
    | ((refine if_ndecF ?_ ?_); (focus omega); conv => whnf)
    | ((refine if_dec (fun h => ?_) (fun h => ?_)); all_goals (conv => whnf))
    | ((refine if_ndec (fun h => ?_) (fun h => ?_)); all_goals (conv => whnf))
    | ((refine if_cond (fun h => ?_) (fun h => ?_)); all_goals (conv => whnf))
    | ((with_reducible apply_assumption -symm -exfalso)))
  exact FinK.frZ (i := 0) b rfl (HSub.ext (fun _ _ h => h) (HSub.drop (HSub.drop HSub.nil)))
def askC : List SV := [.v (.string ⟨#[97, 115, 107]⟩), .v (.int .i64 12), .v (.int .i64 0), .v (.int .i64 1), .v (.int .i64 2147483647)]
def ansC : List SV := [.v (.string ⟨#[97, 110, 115, 119, 101, 114]⟩), .v (.int .i64 12), .v (.int .i64 0), .v (.int .i64 1), .v (.int .i64 2147483647)]
/-- the table of the kinds of messages is as the program laid it -/
def KAt (w : World) : Prop := 0 < w.heap.size ∧ ∃ C t f, w.heap[0]? = some (.cells C t f) ∧ (∀ j v, (denL askC)[j]? = some v → C[50 + j]? = some v) ∧ ∀ j v, (denL ansC)[j]? = some v → C[55 + j]? = some v
theorem KAt.ask {w : World} {n : Nat} {r : Option Nat} {H : List Blk} {S : Nat → Prop} (h : KAt w) (hS : ¬ S 0) : PC ⟨Tryz.prog, TB, n, w, S, r, TBok⟩ H 0 (0 + (Int.toNat 10) * TI.size ti179) askC := by
  obtain ⟨hp, C, t, f, h1, h2, _⟩ := h
  exact fun ms w' hk => ⟨C, t, f, by rw [Kn0.old hk 0 hp hS]; exact h1, fun j v hj => h2 j v hj⟩
theorem KAt.ans {w : World} {n : Nat} {r : Option Nat} {H : List Blk} {S : Nat → Prop} (h : KAt w) (hS : ¬ S 0) : PC ⟨Tryz.prog, TB, n, w, S, r, TBok⟩ H 0 (0 + (Int.toNat 11) * TI.size ti179) ansC := by
  obtain ⟨hp, C, t, f, h1, _, h2⟩ := h
  exact fun ms w' hk => ⟨C, t, f, by rw [Kn0.old hk 0 hp hS]; exact h1, fun j v hj => h2 j v hj⟩
theorem KAt.now {W w : World} {S : Nat → Prop} {ms : List Nat} {H : List Blk} (h : KAt W) (hS : ¬ S 0) (hk : Kn W S ms H w) : KAt w := by
  obtain ⟨hp, C, t, f, h1, h2⟩ := h
  exact ⟨Nat.lt_of_lt_of_le hp (Kn0.size hk), C, t, f, by rw [Kn0.old hk 0 hp hS]; exact h1, h2⟩

theorem find_ask107 {w : World} (h : KAt w) : Pu Tryz.prog 107 #[.int .i64 10] w (.tuple #[.agg (denL askC).toArray, .bool true]) := by
  refine enter_sound TBok Tryz.func107 rfl rfl Tryz.ntmps107 [.v (.int .i64 10)] (Kn.start w noS) rfl rfl ?_
  conv => whnf
  repeat' (first
    | ((with_reducible refine r_seq (fun KS hS => ?_)))
    | ((with_reducible refine r_region ?_); conv => whnf)
    | ((with_reducible refine r_cond (fun KA hA KB hB => ?_)); conv => whnf)
    | ((with_reducible refine hS _ _ ?_); clear hS KS)
    | ((with_reducible refine hA _ ?_); clear hA KA)
    | ((with_reducible refine hB _ ?_); clear hB KB)
    | ((with_reducible refine r_block ?_))
    | ((with_reducible refine r_ret ?_); conv => whnf)
    | ((with_reducible refine r_skip ?_); conv => whnf)
    | ((with_reducible refine r_exit ?_); conv => whnf)
    | ((with_reducible refine WrapK.i64 ?_ ?_); (focus omega); conv => whnf)
    | ((with_reducible refine And.intro rfl ?_); conv => whnf)
    | ((with_reducible intro b); conv => whnf)
    | (refine OpK.ixP rfl rfl rfl rfl rfl rfl (by omega) (by show _ < (12 : Int); omega) ?_; conv => whnf)
    | (refine OpK.ldp rfl rfl (h.ask (fun h => h)) (List.cons_ne_nil _ _) ?_; conv => whnf)
    | ((with_reducible apply OpK.more); (focus refine sok); (conv => whnf); fail_if_success guard_target =ₛ False)
    | ((with_reducible refine InAt.mk (fun K' hK => ?_)); conv => whnf)
    | ((with_reducible refine AnyAt.mk (fun K' hK => ?_)); conv => whnf)
    | ((with_reducible refine hK _ ?_); clear hK K'; conv => whnf)
    | ((with_reducible refine hK _ _ ?_); clear hK K'; conv => whnf)
    | ((refine And.intro ?_ ?_); all_goals (conv => whnf))
    | (apply r_quiet; refine mixed; kernel_rfl; kernel_rfl; kernel_rfl; conv => whnf)
    | ((refine if_t ?_ ?_); (focus decide); conv => whnf)
    | ((refine if_f ?_ ?_); (focus decide); conv => whnf)
    | ((refine if_decT ?_ ?_); (focus omega); conv => whnf)
    | ((refine if_decF ?_ ?_); (focus omega); conv => whnf)
    | ((refine if_ndecT ?_ ?_); (focus omega); conv => whnf)
    | ((refine if_ndecF ?_ ?_); (focus omega); conv => whnf)
    | ((refine if_dec (fun h => ?_) (fun h => ?_)); all_goals (conv => whnf))
    | ((refine if_ndec (fun h => ?_) (fun h => ?_)); all_goals (conv => whnf))
    | ((refine if_cond (fun h => ?_) (fun h => ?_)); all_goals (conv => whnf))
    | ((with_reducible apply_assumption -symm -exfalso)))
  exact FinK.pu rfl
theorem check_ask28 {f t n : Nat} {v : ByteArray} {w : World} (h : KAt w) (hf : f ≤ 55) (ht : t ≤ 55) (hft : f < t ∨ t < f) (hn : 1 ≤ n ∧ n ≤ 2147483647) (hv : v.size ≤ 65536) : Pu Tryz.prog 28 #[.agg #[.int .i64 10, .int .i64 (f : Nat), .int .i64 (t : Nat), .int .i64 0, .int .i64 0, .int .i64 0, .int .i64 (n : Nat), .string v, .slice none 0 0]] w (.int .i64 0) := by
  have hvl := str_len v
  have hu0 := uvar_len64 (n := 10) (by omega)
  have hu1 := uvar_len64 (n := f) (by omega)
  have hu2 := uvar_len64 (n := t) (by omega)
  have hu3 := uvar_len64 (n := n) (by omega)
  have hu4 := uvar_len64 (n := v.size) (by omega)
  have hbl : (uvar 10 ++ uvar f ++ uvar t ++ uvar n ++ uvar v.size ++ v.data.toList).length ≤ 65600 := by simp only [List.length_append]; omega
  refine enter_sound TBok Tryz.func28 rfl rfl Tryz.ntmps28 [.agg [.v (.int .i64 10), .v (.int .i64 (f : Nat)), .v (.int .i64 (t : Nat)), .v (.int .i64 0), .v (.int .i64 0), .v (.int .i64 0), .v (.int .i64 (n : Nat)), .v (.string v), .v (.slice none 0 0)]] (Kn.start w noS) rfl rfl ?_
  conv => whnf
  repeat' (first
    | ((with_reducible refine r_seq (fun KS hS => ?_)))
    | ((with_reducible refine r_region ?_); conv => whnf)
    | ((with_reducible refine r_cond (fun KA hA KB hB => ?_)); conv => whnf)
    | ((with_reducible refine hS _ _ ?_); clear hS KS)
    | ((with_reducible refine hA _ ?_); clear hA KA)
    | ((with_reducible refine hB _ ?_); clear hB KB)
    | ((with_reducible refine r_block ?_))
    | ((with_reducible refine r_ret ?_); conv => whnf)
    | ((with_reducible refine r_skip ?_); conv => whnf)
    | ((with_reducible refine r_exit ?_); conv => whnf)
    | ((with_reducible refine WrapK.i64 ?_ ?_); (focus omega); conv => whnf)
    | ((with_reducible refine And.intro rfl ?_); conv => whnf)
    | ((with_reducible intro b); conv => whnf)
    | (apply in65; refine Tryz.ntmps65; rfl; rfl; rfl; intro A; conv => whnf)
    | (apply in108; refine Tryz.ntmps108; rfl; rfl; rfl; intro A; conv => whnf)
    | (apply in82; refine Tryz.ntmps82; rfl; rfl; rfl; intro A; conv => whnf)
    | (apply in158; refine Tryz.ntmps158; rfl; rfl; rfl; intro A; conv => whnf)
    | (apply in160; refine Tryz.ntmps160; rfl; rfl; rfl; intro A; conv => whnf)
    | (apply in168; refine Tryz.ntmps168; rfl; rfl; rfl; intro A; conv => whnf)
    | (apply in174; refine Tryz.ntmps174; rfl; rfl; rfl; intro A; conv => whnf)
    | (apply in175; refine Tryz.ntmps175; rfl; rfl; rfl; intro A; conv => whnf)
    | (apply in179; refine Tryz.ntmps179; rfl; rfl; rfl; intro A; conv => whnf)
    | (apply in180; refine Tryz.ntmps180; rfl; rfl; rfl; intro A; conv => whnf)
    | (apply in185; refine Tryz.ntmps185; rfl; rfl; rfl; intro A; conv => whnf)
    | (apply in186; refine Tryz.ntmps186; rfl; rfl; rfl; intro A; conv => whnf)
    | (apply in109; refine Tryz.ntmps109; rfl; rfl; rfl; intro A; conv => whnf)
    | (apply in190; refine Tryz.ntmps190; rfl; rfl; rfl; intro A; conv => whnf)
    | (apply in111; refine Tryz.ntmps111; rfl; rfl; rfl; intro A; conv => whnf)
    | (apply in176; refine Tryz.ntmps176; rfl; rfl; rfl; intro A; conv => whnf)
    | (apply in181; refine Tryz.ntmps181; rfl; rfl; rfl; intro A; conv => whnf)
    | (apply in167; refine Tryz.ntmps167; rfl; rfl; rfl; intro A; conv => whnf)
    | (refine OpK.aIx rfl rfl rfl rfl rfl rfl (by omega) (by show _ < (3 : Int); omega) ?_; conv => whnf)
    | (refine CallK.frZE (by repeat (first | with_reducible apply At.head | apply At.tail)) (fun w => bytes135 (l := uvar 10 ++ uvar f ++ uvar t ++ uvar n ++ uvar v.size ++ v.data.toList) (by omega) w) ?_; conv => whnf)
    | (intro z; conv => whnf)
    | (refine CallK.puW (fun ms w hk => find_ask107 (h.now (fun h => h) hk)) ?_; conv => whnf)
    | (refine BitK.eq (z := 0) (by decide +kernel) ?_; conv => whnf)
    | (refine BitK.eq (z := 4) (by decide +kernel) ?_; conv => whnf)
    | (refine BitK.eq (z := 8) (by decide +kernel) ?_; conv => whnf)
    | (refine WrapK.eq (IntWalk.u64_in _ (by omega)) ?_; conv => whnf)
    | (refine CallK.frB At.head (fun w => uint83n (n := 10) (by omega) w) ?_; conv => whnf)
    | (refine CallK.frE (by repeat (first | with_reducible apply At.head | apply At.tail)) (fun w => text85 (by omega) (by first | omega | (simp only [List.length_append, List.length_nil]; omega)) w) ?_; conv => whnf)
    | (refine CallK.frE (by repeat (first | with_reducible apply At.head | apply At.tail)) (fun w => uint83 (n := f) (by omega) (by first | omega | (simp only [List.length_append, List.length_nil]; omega)) w) ?_; conv => whnf)
    | (refine CallK.frE (by repeat (first | with_reducible apply At.head | apply At.tail)) (fun w => uint83 (n := t) (by omega) (by first | omega | (simp only [List.length_append, List.length_nil]; omega)) w) ?_; conv => whnf)
    | (refine CallK.frE (by repeat (first | with_reducible apply At.head | apply At.tail)) (fun w => uint83 (n := n) (by omega) (by first | omega | (simp only [List.length_append, List.length_nil]; omega)) w) ?_; conv => whnf)
    | ((with_reducible apply OpK.more); (focus refine sok); (conv => whnf); fail_if_success guard_target =ₛ False)
    | ((with_reducible refine Rounds.step (fun KL hL => ?_)))
    | ((with_reducible refine hL _ _ ?_); clear hL KL)
    | ((with_reducible refine r_rounds 100 ?_))
    | ((with_reducible refine InAt.mk (fun K' hK => ?_)); conv => whnf)
    | ((with_reducible refine AnyAt.mk (fun K' hK => ?_)); conv => whnf)
    | ((with_reducible refine hK _ ?_); clear hK K'; conv => whnf)
    | ((with_reducible refine hK _ _ ?_); clear hK K'; conv => whnf)
    | ((refine And.intro ?_ ?_); all_goals (conv => whnf))
    | (apply r_quiet; refine mixed; kernel_rfl; kernel_rfl; kernel_rfl; conv => whnf)
    | ((refine if_t ?_ ?_); (focus decide); conv => whnf)
    | ((refine if_f ?_ ?_); (focus decide); conv => whnf)
    | ((refine if_decT ?_ ?_); (focus omega); conv => whnf)
    | ((refine if_decF ?_ ?_); (focus omega); conv => whnf)
    | ((refine if_ndecT ?_ ?_); (focus omega); conv => whnf)
    | ((refine if_ndecF ?_ ?_); (focus omega); conv => whnf)
    | ((refine if_dec (fun h => ?_) (fun h => ?_)); all_goals (conv => whnf))
    | ((refine if_ndec (fun h => ?_) (fun h => ?_)); all_goals (conv => whnf))
    | ((refine if_cond (fun h => ?_) (fun h => ?_)); all_goals (conv => whnf))
    | ((with_reducible apply_assumption -symm -exfalso)))
  exact FinK.pu rfl

theorem find_ans107 {w : World} (h : KAt w) : Pu Tryz.prog 107 #[.int .i64 11] w (.tuple #[.agg (denL ansC).toArray, .bool true]) := by
  refine enter_sound TBok Tryz.func107 rfl rfl Tryz.ntmps107 [.v (.int .i64 11)] (Kn.start w noS) rfl rfl ?_
  conv => whnf
  repeat' (first
    | ((with_reducible refine r_seq (fun KS hS => ?_)))
    | ((with_reducible refine r_region ?_); conv => whnf)
    | ((with_reducible refine r_cond (fun KA hA KB hB => ?_)); conv => whnf)
    | ((with_reducible refine hS _ _ ?_); clear hS KS)
    | ((with_reducible refine hA _ ?_); clear hA KA)
    | ((with_reducible refine hB _ ?_); clear hB KB)
    | ((with_reducible refine r_block ?_))
    | ((with_reducible refine r_ret ?_); conv => whnf)
    | ((with_reducible refine r_skip ?_); conv => whnf)
    | ((with_reducible refine r_exit ?_); conv => whnf)
    | ((with_reducible refine WrapK.i64 ?_ ?_); (focus omega); conv => whnf)
    | ((with_reducible refine And.intro rfl ?_); conv => whnf)
    | ((with_reducible intro b); conv => whnf)
    | (refine OpK.ixP rfl rfl rfl rfl rfl rfl (by omega) (by show _ < (12 : Int); omega) ?_; conv => whnf)
    | (refine OpK.ldp rfl rfl (h.ans (fun h => h)) (List.cons_ne_nil _ _) ?_; conv => whnf)
    | ((with_reducible apply OpK.more); (focus refine sok); (conv => whnf); fail_if_success guard_target =ₛ False)
    | ((with_reducible refine InAt.mk (fun K' hK => ?_)); conv => whnf)
    | ((with_reducible refine AnyAt.mk (fun K' hK => ?_)); conv => whnf)
    | ((with_reducible refine hK _ ?_); clear hK K'; conv => whnf)
    | ((with_reducible refine hK _ _ ?_); clear hK K'; conv => whnf)
    | ((refine And.intro ?_ ?_); all_goals (conv => whnf))
    | (apply r_quiet; refine mixed; kernel_rfl; kernel_rfl; kernel_rfl; conv => whnf)
    | ((refine if_t ?_ ?_); (focus decide); conv => whnf)
    | ((refine if_f ?_ ?_); (focus decide); conv => whnf)
    | ((refine if_decT ?_ ?_); (focus omega); conv => whnf)
    | ((refine if_decF ?_ ?_); (focus omega); conv => whnf)
    | ((refine if_ndecT ?_ ?_); (focus omega); conv => whnf)
    | ((refine if_ndecF ?_ ?_); (focus omega); conv => whnf)
    | ((refine if_dec (fun h => ?_) (fun h => ?_)); all_goals (conv => whnf))
    | ((refine if_ndec (fun h => ?_) (fun h => ?_)); all_goals (conv => whnf))
    | ((refine if_cond (fun h => ?_) (fun h => ?_)); all_goals (conv => whnf))
    | ((with_reducible apply_assumption -symm -exfalso)))
  exact FinK.pu rfl
theorem check_ans28 {f t n : Nat} {v : ByteArray} {w : World} (h : KAt w) (hf : f ≤ 55) (ht : t ≤ 55) (hft : f < t ∨ t < f) (hn : 1 ≤ n ∧ n ≤ 2147483647) (hv : v.size ≤ 65536) : Pu Tryz.prog 28 #[.agg #[.int .i64 11, .int .i64 (f : Nat), .int .i64 (t : Nat), .int .i64 0, .int .i64 0, .int .i64 0, .int .i64 (n : Nat), .string v, .slice none 0 0]] w (.int .i64 0) := by
  have hvl := str_len v
  have hu0 := uvar_len64 (n := 11) (by omega)
  have hu1 := uvar_len64 (n := f) (by omega)
  have hu2 := uvar_len64 (n := t) (by omega)
  have hu3 := uvar_len64 (n := n) (by omega)
  have hu4 := uvar_len64 (n := v.size) (by omega)
  have hbl : (uvar 11 ++ uvar f ++ uvar t ++ uvar n ++ uvar v.size ++ v.data.toList).length ≤ 65600 := by simp only [List.length_append]; omega
  refine enter_sound TBok Tryz.func28 rfl rfl Tryz.ntmps28 [.agg [.v (.int .i64 11), .v (.int .i64 (f : Nat)), .v (.int .i64 (t : Nat)), .v (.int .i64 0), .v (.int .i64 0), .v (.int .i64 0), .v (.int .i64 (n : Nat)), .v (.string v), .v (.slice none 0 0)]] (Kn.start w noS) rfl rfl ?_
  conv => whnf
  repeat' (first
    | ((with_reducible refine r_seq (fun KS hS => ?_)))
    | ((with_reducible refine r_region ?_); conv => whnf)
    | ((with_reducible refine r_cond (fun KA hA KB hB => ?_)); conv => whnf)
    | ((with_reducible refine hS _ _ ?_); clear hS KS)
    | ((with_reducible refine hA _ ?_); clear hA KA)
    | ((with_reducible refine hB _ ?_); clear hB KB)
    | ((with_reducible refine r_block ?_))
    | ((with_reducible refine r_ret ?_); conv => whnf)
    | ((with_reducible refine r_skip ?_); conv => whnf)
    | ((with_reducible refine r_exit ?_); conv => whnf)
    | ((with_reducible refine WrapK.i64 ?_ ?_); (focus omega); conv => whnf)
    | ((with_reducible refine And.intro rfl ?_); conv => whnf)
    | ((with_reducible intro b); conv => whnf)
    | (apply in65; refine Tryz.ntmps65; rfl; rfl; rfl; intro A; conv => whnf)
    | (apply in108; refine Tryz.ntmps108; rfl; rfl; rfl; intro A; conv => whnf)
    | (apply in82; refine Tryz.ntmps82; rfl; rfl; rfl; intro A; conv => whnf)
    | (apply in158; refine Tryz.ntmps158; rfl; rfl; rfl; intro A; conv => whnf)
    | (apply in160; refine Tryz.ntmps160; rfl; rfl; rfl; intro A; conv => whnf)
    | (apply in168; refine Tryz.ntmps168; rfl; rfl; rfl; intro A; conv => whnf)
    | (apply in174; refine Tryz.ntmps174; rfl; rfl; rfl; intro A; conv => whnf)
    | (apply in175; refine Tryz.ntmps175; rfl; rfl; rfl; intro A; conv => whnf)
    | (apply in179; refine Tryz.ntmps179; rfl; rfl; rfl; intro A; conv => whnf)
    | (apply in180; refine Tryz.ntmps180; rfl; rfl; rfl; intro A; conv => whnf)
    | (apply in185; refine Tryz.ntmps185; rfl; rfl; rfl; intro A; conv => whnf)
    | (apply in186; refine Tryz.ntmps186; rfl; rfl; rfl; intro A; conv => whnf)
    | (apply in109; refine Tryz.ntmps109; rfl; rfl; rfl; intro A; conv => whnf)
    | (apply in190; refine Tryz.ntmps190; rfl; rfl; rfl; intro A; conv => whnf)
    | (apply in111; refine Tryz.ntmps111; rfl; rfl; rfl; intro A; conv => whnf)
    | (apply in176; refine Tryz.ntmps176; rfl; rfl; rfl; intro A; conv => whnf)
    | (apply in181; refine Tryz.ntmps181; rfl; rfl; rfl; intro A; conv => whnf)
    | (apply in167; refine Tryz.ntmps167; rfl; rfl; rfl; intro A; conv => whnf)
    | (refine OpK.aIx rfl rfl rfl rfl rfl rfl (by omega) (by show _ < (3 : Int); omega) ?_; conv => whnf)
    | (refine CallK.frZE (by repeat (first | with_reducible apply At.head | apply At.tail)) (fun w => bytes135 (l := uvar 11 ++ uvar f ++ uvar t ++ uvar n ++ uvar v.size ++ v.data.toList) (by omega) w) ?_; conv => whnf)
    | (intro z; conv => whnf)
    | (refine CallK.puW (fun ms w hk => find_ans107 (h.now (fun h => h) hk)) ?_; conv => whnf)
    | (refine BitK.eq (z := 0) (by decide +kernel) ?_; conv => whnf)
    | (refine BitK.eq (z := 4) (by decide +kernel) ?_; conv => whnf)
    | (refine BitK.eq (z := 8) (by decide +kernel) ?_; conv => whnf)
    | (refine WrapK.eq (IntWalk.u64_in _ (by omega)) ?_; conv => whnf)
    | (refine CallK.frB At.head (fun w => uint83n (n := 11) (by omega) w) ?_; conv => whnf)
    | (refine CallK.frE (by repeat (first | with_reducible apply At.head | apply At.tail)) (fun w => text85 (by omega) (by first | omega | (simp only [List.length_append, List.length_nil]; omega)) w) ?_; conv => whnf)
    | (refine CallK.frE (by repeat (first | with_reducible apply At.head | apply At.tail)) (fun w => uint83 (n := f) (by omega) (by first | omega | (simp only [List.length_append, List.length_nil]; omega)) w) ?_; conv => whnf)
    | (refine CallK.frE (by repeat (first | with_reducible apply At.head | apply At.tail)) (fun w => uint83 (n := t) (by omega) (by first | omega | (simp only [List.length_append, List.length_nil]; omega)) w) ?_; conv => whnf)
    | (refine CallK.frE (by repeat (first | with_reducible apply At.head | apply At.tail)) (fun w => uint83 (n := n) (by omega) (by first | omega | (simp only [List.length_append, List.length_nil]; omega)) w) ?_; conv => whnf)
    | ((with_reducible apply OpK.more); (focus refine sok); (conv => whnf); fail_if_success guard_target =ₛ False)
    | ((with_reducible refine Rounds.step (fun KL hL => ?_)))
    | ((with_reducible refine hL _ _ ?_); clear hL KL)
    | ((with_reducible refine r_rounds 100 ?_))
    | ((with_reducible refine InAt.mk (fun K' hK => ?_)); conv => whnf)
    | ((with_reducible refine AnyAt.mk (fun K' hK => ?_)); conv => whnf)
    | ((with_reducible refine hK _ ?_); clear hK K'; conv => whnf)
    | ((with_reducible refine hK _ _ ?_); clear hK K'; conv => whnf)
    | ((refine And.intro ?_ ?_); all_goals (conv => whnf))
    | (apply r_quiet; refine mixed; kernel_rfl; kernel_rfl; kernel_rfl; conv => whnf)
    | ((refine if_t ?_ ?_); (focus decide); conv => whnf)
    | ((refine if_f ?_ ?_); (focus decide); conv => whnf)
    | ((refine if_decT ?_ ?_); (focus omega); conv => whnf)
    | ((refine if_decF ?_ ?_); (focus omega); conv => whnf)
    | ((refine if_ndecT ?_ ?_); (focus omega); conv => whnf)
    | ((refine if_ndecF ?_ ?_); (focus omega); conv => whnf)
    | ((refine if_dec (fun h => ?_) (fun h => ?_)); all_goals (conv => whnf))
    | ((refine if_ndec (fun h => ?_) (fun h => ?_)); all_goals (conv => whnf))
    | ((refine if_cond (fun h => ?_) (fun h => ?_)); all_goals (conv => whnf))
    | ((with_reducible apply_assumption -symm -exfalso)))
  exact FinK.pu rfl

end Go.Proofs.YtbgnoibellfojaaGreatDoor

namespace Go.Proofs.YtbgnoibellfojaaGreatDoor
open Go Go.X
set_option maxRecDepth 100000
set_option maxHeartbeats 0
def DC (n gs tk : Int) (m : Nat) : List SV := [.v (.int .i64 n), .v (.int .i64 gs), .v (.int .i64 tk), .v (.map (some m))]
def DAt (w : World) (d : Nat) (n gs tk : Int) (m : Nat) : Prop := w.heap[d]? = some (.cells (denL (DC n gs tk m)).toArray 81 (0, 0))
theorem KAt.ne {w : World} {d : Nat} {n gs tk : Int} {m : Nat} (h : KAt w) (hd : DAt w d n gs tk m) : ¬ (0 : Nat) = d := by
  rintro rfl
  obtain ⟨_, C, t, f, h1, h2, _⟩ := h
  unfold DAt at hd
  rw [h1] at hd
  simp only [Option.some.injEq, Obj.cells.injEq] at hd
  have := h2 0 _ rfl
  rw [hd.1] at this
  simp [denL, DC] at this
theorem target20 {s t p m : Int} {i : Bool} {g : Int} {w : World} {d : Nat} {n gs tk tries : Int} {mp : Nat} (hd : DAt w d n gs tk mp) (h : ItemOk s t p m i g) (hn : 1 ≤ n ∧ n ≤ 7) (hg : g < gs) (ht : 0 ≤ tries ∧ tries ≤ 9223372036854775807) :
    Pu Tryz.prog 20 #[pv d, .agg #[.int .i64 s, .int .i64 t, .int .i64 p, .int .i64 m, .bool i, .int .i64 g], .int .i64 tries] w (.tuple #[.int .i64 (g * n + tries % n), .int .i64 0]) := by
  have h' := h
  obtain ⟨h1, h2, _⟩ := h'
  have hgn : 0 ≤ g * n ∧ g * n ≤ 49 := ⟨Int.mul_nonneg (by omega) (by omega), by
    have := Int.mul_le_mul h2 hn.2 (by omega) (by omega)
    omega⟩
  have hrm : 0 ≤ tries % n ∧ tries % n < n := ⟨Int.emod_nonneg _ (by omega), Int.emod_lt_of_pos _ (by omega)⟩
  refine Pu.ofFrZ (enter_ro TBok (cs := DC n gs tk mp) hd Tryz.func20 rfl rfl Tryz.ntmps20 [.loc d 10 0, .agg [.v (.int .i64 s), .v (.int .i64 t), .v (.int .i64 p), .v (.int .i64 m), .v (.bool i), .v (.int .i64 g)], .v (.int .i64 tries)] rfl rfl ?_)
  unfold DC
  conv => whnf
  repeat' (first
    | ((with_reducible refine r_seq (fun KS hS => ?_)))
    | ((with_reducible refine r_region ?_); conv => whnf)
    | ((with_reducible refine r_cond (fun KA hA KB hB => ?_)); conv => whnf)
    | ((with_reducible refine hS _ _ ?_); clear hS KS)
    | ((with_reducible refine hA _ ?_); clear hA KA)
    | ((with_reducible refine hB _ ?_); clear hB KB)
    | ((with_reducible refine r_block ?_))
    | ((with_reducible refine r_ret ?_); conv => whnf)
    | ((with_reducible refine r_skip ?_); conv => whnf)
    | ((with_reducible refine r_exit ?_); conv => whnf)
    | ((with_reducible refine WrapK.i64 ?_ ?_); (focus omega); conv => whnf)
    | ((with_reducible refine And.intro rfl ?_); conv => whnf)
    | ((with_reducible intro b); conv => whnf)
    | (apply in45; refine Tryz.ntmps45; rfl; rfl; rfl; intro A; conv => whnf)
    | (refine CallK.pu (fun w => itemOk50 h w) ?_; conv => whnf)
    | (refine CallQ.pu (fun w => itemOk50 h w) ?_; conv => whnf)
    | (refine RemK.eq (by omega) (IntWalk.rem_in _ _ (by omega)) ?_; conv => whnf)
    | ((with_reducible apply OpK.more); (focus refine sok); (conv => whnf); fail_if_success guard_target =ₛ False)
    | ((with_reducible refine InAt.mk (fun K' hK => ?_)); conv => whnf)
    | ((with_reducible refine AnyAt.mk (fun K' hK => ?_)); conv => whnf)
    | ((with_reducible refine hK _ ?_); clear hK K'; conv => whnf)
    | ((with_reducible refine hK _ _ ?_); clear hK K'; conv => whnf)
    | ((refine And.intro ?_ ?_); all_goals (conv => whnf))
    | (apply r_quiet; refine mixed; kernel_rfl; kernel_rfl; kernel_rfl; conv => whnf)
    | ((refine if_t ?_ ?_); (focus decide); conv => whnf)
    | ((refine if_f ?_ ?_); (focus decide); conv => whnf)
    | ((refine if_decT ?_ ?_); (focus omega); conv => whnf)
    | ((refine if_decF ?_ ?_); (focus omega); conv => whnf)
    | ((refine if_ndecT ?_ ?_); (focus omega); conv => whnf)
    | ((refine if_ndecF ?_ ?_); (focus omega); conv => whnf)
    | ((refine if_dec (fun h => ?_) (fun h => ?_)); all_goals (conv => whnf))
    | ((refine if_ndec (fun h => ?_) (fun h => ?_)); all_goals (conv => whnf))
    | ((refine if_cond (fun h => ?_) (fun h => ?_)); all_goals (conv => whnf))
    | ((with_reducible apply_assumption -symm -exfalso)))
  all_goals exact FinK.ro0 rfl (HSub.pick (by repeat (first | with_reducible apply At.head | apply At.tail)))

theorem okEff {s t p g : Nat} {k : ByteArray} {dl : Int} (h : EffOk s t p) (hg : 1 ≤ g ∧ g ≤ 7) (hk : nameOk k = true) (hks : k.size ≤ 16) (hdl : dl ≠ 0) (hn : NumOk dl) : ItemOk s t p 0 false g := ⟨by omega, by omega, .inl ⟨rfl, rfl, h⟩⟩
theorem fitsEff61 {s t p g : Nat} {k : ByteArray} {dl : Int} (h : EffOk s t p) (hg : 1 ≤ g ∧ g ≤ 7) (hk : nameOk k = true) (hks : k.size ≤ 16) (hdl : dl ≠ 0) (hn : NumOk dl) (w : World) : Pu Tryz.prog 61 #[.agg #[.int .i64 1, .int .i64 0, .int .i64 0, .int .i64 (s : Nat), .int .i64 (t : Nat), .int .i64 (p : Nat), .string k, .int .i64 dl, .int .i64 0, .string ⟨#[]⟩, .string ⟨#[]⟩, .int .i64 0, .string ⟨#[]⟩, .int .i64 0, .int .i64 0, .slice none 0 0, .int .i64 0, .int .i64 0, .int .i64 0, .int .i64 0, .bool false, .int .i64 0, .int .i64 0, .string ⟨#[]⟩], .agg #[.int .i64 (s : Nat), .int .i64 (t : Nat), .int .i64 (p : Nat), .int .i64 0, .bool false, .int .i64 (g : Nat)]] w (.bool true) := by
  have h0 := h
  unfold EffOk at h0
  refine enter_sound TBok Tryz.func61 rfl rfl Tryz.ntmps61 [.agg [.v (.int .i64 1), .v (.int .i64 0), .v (.int .i64 0), .v (.int .i64 (s : Nat)), .v (.int .i64 (t : Nat)), .v (.int .i64 (p : Nat)), .v (.string k), .v (.int .i64 dl), .v (.int .i64 0), .v (.string ⟨#[]⟩), .v (.string ⟨#[]⟩), .v (.int .i64 0), .v (.string ⟨#[]⟩), .v (.int .i64 0), .v (.int .i64 0), .v (.slice none 0 0), .v (.int .i64 0), .v (.int .i64 0), .v (.int .i64 0), .v (.int .i64 0), .v (.bool false), .v (.int .i64 0), .v (.int .i64 0), .v (.string ⟨#[]⟩)], .agg [.v (.int .i64 (s : Nat)), .v (.int .i64 (t : Nat)), .v (.int .i64 (p : Nat)), .v (.int .i64 0), .v (.bool false), .v (.int .i64 (g : Nat))]] (Kn.start w noS) rfl rfl ?_
  conv => whnf
  repeat' (first
    | ((with_reducible refine r_seq (fun KS hS => ?_)))
    | ((with_reducible refine r_region ?_); conv => whnf)
    | ((with_reducible refine r_cond (fun KA hA KB hB => ?_)); conv => whnf)
    | ((with_reducible refine hS _ _ ?_); clear hS KS)
    | ((with_reducible refine hA _ ?_); clear hA KA)
    | ((with_reducible refine hB _ ?_); clear hB KB)
    | ((with_reducible refine r_block ?_))
    | ((with_reducible refine r_ret ?_); conv => whnf)
    | ((with_reducible refine r_skip ?_); conv => whnf)
    | ((with_reducible refine r_exit ?_); conv => whnf)
    | ((with_reducible refine WrapK.i64 ?_ ?_); (focus omega); conv => whnf)
    | ((with_reducible refine And.intro rfl ?_); conv => whnf)
    | ((with_reducible intro b); conv => whnf)
    | (refine CallK.pu (fun w => checkEff102 h hk (by omega) hdl hn w) ?_; conv => whnf)
    | (refine if_t (by first | (simp; done) | (simp; omega)) ?_; conv => whnf)
    | ((with_reducible apply OpK.more); (focus refine sok); (conv => whnf); fail_if_success guard_target =ₛ False)
    | ((with_reducible refine InAt.mk (fun K' hK => ?_)); conv => whnf)
    | ((with_reducible refine AnyAt.mk (fun K' hK => ?_)); conv => whnf)
    | ((with_reducible refine hK _ ?_); clear hK K'; conv => whnf)
    | ((with_reducible refine hK _ _ ?_); clear hK K'; conv => whnf)
    | ((refine And.intro ?_ ?_); all_goals (conv => whnf))
    | (apply r_quiet; refine mixed; kernel_rfl; kernel_rfl; kernel_rfl; conv => whnf)
    | ((refine if_t ?_ ?_); (focus decide); conv => whnf)
    | ((refine if_f ?_ ?_); (focus decide); conv => whnf)
    | ((refine if_decT ?_ ?_); (focus omega); conv => whnf)
    | ((refine if_decF ?_ ?_); (focus omega); conv => whnf)
    | ((refine if_ndecT ?_ ?_); (focus omega); conv => whnf)
    | ((refine if_ndecF ?_ ?_); (focus omega); conv => whnf)
    | ((refine if_dec (fun h => ?_) (fun h => ?_)); all_goals (conv => whnf))
    | ((refine if_ndec (fun h => ?_) (fun h => ?_)); all_goals (conv => whnf))
    | ((refine if_cond (fun h => ?_) (fun h => ?_)); all_goals (conv => whnf))
    | ((with_reducible apply_assumption -symm -exfalso)))
  all_goals (refine FinK.pu ?_; first | (simp [den]; done) | (simp [den]; omega))
theorem fromIEff75 {s t p g : Nat} {k : ByteArray} {dl : Int} (h : EffOk s t p) (hg : 1 ≤ g ∧ g ≤ 7) (hk : nameOk k = true) (hks : k.size ≤ 16) (hdl : dl ≠ 0) (hn : NumOk dl) {num : Nat} (hnum : (num : Int) = ((((s : Int) - 1) * 8 + t) * 3 + p - 1) * 7 + g) (w : World) : Pu Tryz.prog 75 #[.int .i64 (num : Nat)] w (.tuple #[.agg #[.int .i64 (s : Nat), .int .i64 (t : Nat), .int .i64 (p : Nat), .int .i64 0, .bool false, .int .i64 (g : Nat)], .int .i64 0]) := by
  have h0 := h
  unfold EffOk at h0
  refine Pu.congr (fromEff75 (n := num) (by omega) w) ?_
  congr 2
  simp only [List.cons.injEq, Value.agg.injEq, Value.int.injEq, Value.bool.injEq, Array.mk.injEq, true_and, and_true, decide_eq_true_eq, decide_eq_false_iff_not]
  omega
theorem questionEff41 {s t p g : Nat} {k : ByteArray} {dl : Int} (h : EffOk s t p) (hg : 1 ≤ g ∧ g ≤ 7) (hk : nameOk k = true) (hks : k.size ≤ 16) (hdl : dl ≠ 0) (hn : NumOk dl) {w : World} {d f to num : Nat} {n gs tk : Int} {mp : Nat} {v : ByteArray} (hd : DAt w d n gs tk mp) (hka : KAt w) (hn7 : 1 ≤ n ∧ n ≤ 7) (hgs : g < gs) (hf : f < n) (hto : (to : Int) / n = g) (hto2 : to ≤ 55) (hft : f < to ∨ to < f) (hnum : (num : Int) = ((((s : Int) - 1) * 8 + t) * 3 + p - 1) * 7 + g) (hv : v.data.toList = uvar 1 ++ (uvar s ++ (uvar t ++ (uvar p ++ (uvar k.size ++ k.data.toList ++ (uvar (zigN dl) ++ [])))))) (hvs : v.size ≤ 65536) : Pu Tryz.prog 41 #[pv d, .agg #[.int .i64 10, .int .i64 (f : Nat), .int .i64 (to : Nat), .int .i64 0, .int .i64 0, .int .i64 0, .int .i64 (num : Nat), .string v, .slice none 0 0]] w (.tuple #[.agg #[.int .i64 (s : Nat), .int .i64 (t : Nat), .int .i64 (p : Nat), .int .i64 0, .bool false, .int .i64 (g : Nat)], .agg #[.int .i64 1, .int .i64 0, .int .i64 0, .int .i64 (s : Nat), .int .i64 (t : Nat), .int .i64 (p : Nat), .string k, .int .i64 dl, .int .i64 0, .string ⟨#[]⟩, .string ⟨#[]⟩, .int .i64 0, .string ⟨#[]⟩, .int .i64 0, .int .i64 0, .slice none 0 0, .int .i64 0, .int .i64 0, .int .i64 0, .int .i64 0, .bool false, .int .i64 0, .int .i64 0, .string ⟨#[]⟩], .bool true]) := by
  have h0 := h
  unfold EffOk at h0
  have hne := hka.ne hd
  refine Pu.ofFrZ (enter_ro TBok (cs := DC n gs tk mp) hd Tryz.func41 rfl rfl Tryz.ntmps41 [.loc d 10 0, .agg [.v (.int .i64 10), .v (.int .i64 (f : Nat)), .v (.int .i64 (to : Nat)), .v (.int .i64 0), .v (.int .i64 0), .v (.int .i64 0), .v (.int .i64 (num : Nat)), .v (.string v), .v (.slice none 0 0)]] rfl rfl ?_)
  unfold DC
  have hq : IntKind.i64.wrap ((to : Int).tdiv n) = (g : Int) := by rw [IntWalk.i64_quo _ _ (by omega), hto]
  conv => whnf
  repeat' (first
    | ((with_reducible refine r_seq (fun KS hS => ?_)))
    | ((with_reducible refine r_region ?_); conv => whnf)
    | ((with_reducible refine r_cond (fun KA hA KB hB => ?_)); conv => whnf)
    | ((with_reducible refine hS _ _ ?_); clear hS KS)
    | ((with_reducible refine hA _ ?_); clear hA KA)
    | ((with_reducible refine hB _ ?_); clear hB KB)
    | ((with_reducible refine r_block ?_))
    | ((with_reducible refine r_ret ?_); conv => whnf)
    | ((with_reducible refine r_skip ?_); conv => whnf)
    | ((with_reducible refine r_exit ?_); conv => whnf)
    | ((with_reducible refine WrapK.i64 ?_ ?_); (focus omega); conv => whnf)
    | ((with_reducible refine And.intro rfl ?_); conv => whnf)
    | ((with_reducible intro b); conv => whnf)
    | (apply in45; refine Tryz.ntmps45; rfl; rfl; rfl; intro A; conv => whnf)
    | (refine CallK.pu (fun w => fromIEff75 h hg hk hks hdl hn hnum w) ?_; conv => whnf)
    | (refine CallK.puW (fun ms w hk => check_ask28 (hka.now hne hk) (by omega) (by omega) hft (by omega) hvs) ?_; conv => whnf)
    | (refine QuoK.eq (by omega) hq ?_; conv => whnf)
    | (refine OpK.cvSB rfl rfl rfl rfl rfl rfl rfl rfl ?_; rw [hv]; conv => whnf)
    | (intro a' cap'; conv => whnf)
    | (refine CallK.puW (fun ms w hkn => decEff76 (k := k) (d := dl) (Sees.rd (Sees.ext (by repeat (first | with_reducible apply At.head | apply At.tail))) hkn) h hk hks hdl hn hvs) ?_; conv => whnf)
    | (refine CallK.pu (fun w => fitsEff61 h hg hk hks hdl hn w) ?_; conv => whnf)
    | (apply r_any (id := 7); refine mixed; kernel_rfl; kernel_rfl; conv => whnf)
    | ((with_reducible apply OpK.more); (focus refine sok); (conv => whnf); fail_if_success guard_target =ₛ False)
    | ((with_reducible refine InAt.mk (fun K' hK => ?_)); conv => whnf)
    | ((with_reducible refine AnyAt.mk (fun K' hK => ?_)); conv => whnf)
    | ((with_reducible refine hK _ ?_); clear hK K'; conv => whnf)
    | ((with_reducible refine hK _ _ ?_); clear hK K'; conv => whnf)
    | ((refine And.intro ?_ ?_); all_goals (conv => whnf))
    | (apply r_quiet; refine mixed; kernel_rfl; kernel_rfl; kernel_rfl; conv => whnf)
    | ((refine if_t ?_ ?_); (focus decide); conv => whnf)
    | ((refine if_f ?_ ?_); (focus decide); conv => whnf)
    | ((refine if_decT ?_ ?_); (focus omega); conv => whnf)
    | ((refine if_decF ?_ ?_); (focus omega); conv => whnf)
    | ((refine if_ndecT ?_ ?_); (focus omega); conv => whnf)
    | ((refine if_ndecF ?_ ?_); (focus omega); conv => whnf)
    | ((refine if_dec (fun h => ?_) (fun h => ?_)); all_goals (conv => whnf))
    | ((refine if_ndec (fun h => ?_) (fun h => ?_)); all_goals (conv => whnf))
    | ((refine if_cond (fun h => ?_) (fun h => ?_)); all_goals (conv => whnf))
    | ((with_reducible apply_assumption -symm -exfalso)))
  all_goals exact FinK.ro0 rfl (HSub.pick (by repeat (first | with_reducible apply At.head | apply At.tail)))

theorem okOut {m g : Nat} {f1 : ByteArray} (h : 1 ≤ (m : Int) ∧ (m : Int) ≤ 64) (hg : 1 ≤ g ∧ g ≤ 7) (hf1 : nameOk f1 = true) (hs : f1.size ≤ 16) : ItemOk 0 0 0 m false g := ⟨by omega, by omega, .inr ⟨by omega, by omega, rfl, rfl, rfl⟩⟩
theorem fitsOut61 {m g : Nat} {f1 : ByteArray} (h : 1 ≤ (m : Int) ∧ (m : Int) ≤ 64) (hg : 1 ≤ g ∧ g ≤ 7) (hf1 : nameOk f1 = true) (hs : f1.size ≤ 16) (w : World) : Pu Tryz.prog 61 #[.agg #[.int .i64 3, .int .i64 0, .int .i64 0, .int .i64 0, .int .i64 0, .int .i64 0, .string ⟨#[]⟩, .int .i64 0, .int .i64 (m : Nat), .string f1, .string ⟨#[]⟩, .int .i64 0, .string ⟨#[]⟩, .int .i64 0, .int .i64 0, .slice none 0 0, .int .i64 0, .int .i64 0, .int .i64 0, .int .i64 0, .bool false, .int .i64 0, .int .i64 0, .string ⟨#[]⟩], .agg #[.int .i64 0, .int .i64 0, .int .i64 0, .int .i64 (m : Nat), .bool false, .int .i64 (g : Nat)]] w (.bool true) := by
  refine enter_sound TBok Tryz.func61 rfl rfl Tryz.ntmps61 [.agg [.v (.int .i64 3), .v (.int .i64 0), .v (.int .i64 0), .v (.int .i64 0), .v (.int .i64 0), .v (.int .i64 0), .v (.string ⟨#[]⟩), .v (.int .i64 0), .v (.int .i64 (m : Nat)), .v (.string f1), .v (.string ⟨#[]⟩), .v (.int .i64 0), .v (.string ⟨#[]⟩), .v (.int .i64 0), .v (.int .i64 0), .v (.slice none 0 0), .v (.int .i64 0), .v (.int .i64 0), .v (.int .i64 0), .v (.int .i64 0), .v (.bool false), .v (.int .i64 0), .v (.int .i64 0), .v (.string ⟨#[]⟩)], .agg [.v (.int .i64 0), .v (.int .i64 0), .v (.int .i64 0), .v (.int .i64 (m : Nat)), .v (.bool false), .v (.int .i64 (g : Nat))]] (Kn.start w noS) rfl rfl ?_
  conv => whnf
  repeat' (first
    | ((with_reducible refine r_seq (fun KS hS => ?_)))
    | ((with_reducible refine r_region ?_); conv => whnf)
    | ((with_reducible refine r_cond (fun KA hA KB hB => ?_)); conv => whnf)
    | ((with_reducible refine hS _ _ ?_); clear hS KS)
    | ((with_reducible refine hA _ ?_); clear hA KA)
    | ((with_reducible refine hB _ ?_); clear hB KB)
    | ((with_reducible refine r_block ?_))
    | ((with_reducible refine r_ret ?_); conv => whnf)
    | ((with_reducible refine r_skip ?_); conv => whnf)
    | ((with_reducible refine r_exit ?_); conv => whnf)
    | ((with_reducible refine WrapK.i64 ?_ ?_); (focus omega); conv => whnf)
    | ((with_reducible refine And.intro rfl ?_); conv => whnf)
    | ((with_reducible intro b); conv => whnf)
    | (refine CallK.pu (fun w => checkOut102 h hf1 (by omega) w) ?_; conv => whnf)
    | (refine if_t (by first | (simp; done) | (simp; omega)) ?_; conv => whnf)
    | ((with_reducible apply OpK.more); (focus refine sok); (conv => whnf); fail_if_success guard_target =ₛ False)
    | ((with_reducible refine InAt.mk (fun K' hK => ?_)); conv => whnf)
    | ((with_reducible refine AnyAt.mk (fun K' hK => ?_)); conv => whnf)
    | ((with_reducible refine hK _ ?_); clear hK K'; conv => whnf)
    | ((with_reducible refine hK _ _ ?_); clear hK K'; conv => whnf)
    | ((refine And.intro ?_ ?_); all_goals (conv => whnf))
    | (apply r_quiet; refine mixed; kernel_rfl; kernel_rfl; kernel_rfl; conv => whnf)
    | ((refine if_t ?_ ?_); (focus decide); conv => whnf)
    | ((refine if_f ?_ ?_); (focus decide); conv => whnf)
    | ((refine if_decT ?_ ?_); (focus omega); conv => whnf)
    | ((refine if_decF ?_ ?_); (focus omega); conv => whnf)
    | ((refine if_ndecT ?_ ?_); (focus omega); conv => whnf)
    | ((refine if_ndecF ?_ ?_); (focus omega); conv => whnf)
    | ((refine if_dec (fun h => ?_) (fun h => ?_)); all_goals (conv => whnf))
    | ((refine if_ndec (fun h => ?_) (fun h => ?_)); all_goals (conv => whnf))
    | ((refine if_cond (fun h => ?_) (fun h => ?_)); all_goals (conv => whnf))
    | ((with_reducible apply_assumption -symm -exfalso)))
  all_goals (refine FinK.pu ?_; first | (simp [den]; done) | (simp [den]; omega))
theorem fromIOut75 {m g : Nat} {f1 : ByteArray} (h : 1 ≤ (m : Int) ∧ (m : Int) ≤ 64) (hg : 1 ≤ g ∧ g ≤ 7) (hf1 : nameOk f1 = true) (hs : f1.size ≤ 16) {num : Nat} (hnum : (num : Int) = (239976 + 2 * (m : Int) - 2) * 7 + g) (w : World) : Pu Tryz.prog 75 #[.int .i64 (num : Nat)] w (.tuple #[.agg #[.int .i64 0, .int .i64 0, .int .i64 0, .int .i64 (m : Nat), .bool false, .int .i64 (g : Nat)], .int .i64 0]) := by
  refine Pu.congr (fromMove75 (n := num) (by omega) w) ?_
  congr 2
  simp only [List.cons.injEq, Value.agg.injEq, Value.int.injEq, Value.bool.injEq, Array.mk.injEq, true_and, and_true, decide_eq_true_eq, decide_eq_false_iff_not]
  omega
theorem questionOut41 {m g : Nat} {f1 : ByteArray} (h : 1 ≤ (m : Int) ∧ (m : Int) ≤ 64) (hg : 1 ≤ g ∧ g ≤ 7) (hf1 : nameOk f1 = true) (hs : f1.size ≤ 16) {w : World} {d f to num : Nat} {n gs tk : Int} {mp : Nat} {v : ByteArray} (hd : DAt w d n gs tk mp) (hka : KAt w) (hn7 : 1 ≤ n ∧ n ≤ 7) (hgs : g < gs) (hf : f < n) (hto : (to : Int) / n = g) (hto2 : to ≤ 55) (hft : f < to ∨ to < f) (hnum : (num : Int) = (239976 + 2 * (m : Int) - 2) * 7 + g) (hv : v.data.toList = uvar 3 ++ (uvar m ++ (uvar f1.size ++ f1.data.toList ++ (uvar (ByteArray.mk #[]).size ++ (ByteArray.mk #[]).data.toList ++ [])))) (hvs : v.size ≤ 65536) : Pu Tryz.prog 41 #[pv d, .agg #[.int .i64 10, .int .i64 (f : Nat), .int .i64 (to : Nat), .int .i64 0, .int .i64 0, .int .i64 0, .int .i64 (num : Nat), .string v, .slice none 0 0]] w (.tuple #[.agg #[.int .i64 0, .int .i64 0, .int .i64 0, .int .i64 (m : Nat), .bool false, .int .i64 (g : Nat)], .agg #[.int .i64 3, .int .i64 0, .int .i64 0, .int .i64 0, .int .i64 0, .int .i64 0, .string ⟨#[]⟩, .int .i64 0, .int .i64 (m : Nat), .string f1, .string ⟨#[]⟩, .int .i64 0, .string ⟨#[]⟩, .int .i64 0, .int .i64 0, .slice none 0 0, .int .i64 0, .int .i64 0, .int .i64 0, .int .i64 0, .bool false, .int .i64 0, .int .i64 0, .string ⟨#[]⟩], .bool true]) := by
  have hne := hka.ne hd
  refine Pu.ofFrZ (enter_ro TBok (cs := DC n gs tk mp) hd Tryz.func41 rfl rfl Tryz.ntmps41 [.loc d 10 0, .agg [.v (.int .i64 10), .v (.int .i64 (f : Nat)), .v (.int .i64 (to : Nat)), .v (.int .i64 0), .v (.int .i64 0), .v (.int .i64 0), .v (.int .i64 (num : Nat)), .v (.string v), .v (.slice none 0 0)]] rfl rfl ?_)
  unfold DC
  have hq : IntKind.i64.wrap ((to : Int).tdiv n) = (g : Int) := by rw [IntWalk.i64_quo _ _ (by omega), hto]
  conv => whnf
  repeat' (first
    | ((with_reducible refine r_seq (fun KS hS => ?_)))
    | ((with_reducible refine r_region ?_); conv => whnf)
    | ((with_reducible refine r_cond (fun KA hA KB hB => ?_)); conv => whnf)
    | ((with_reducible refine hS _ _ ?_); clear hS KS)
    | ((with_reducible refine hA _ ?_); clear hA KA)
    | ((with_reducible refine hB _ ?_); clear hB KB)
    | ((with_reducible refine r_block ?_))
    | ((with_reducible refine r_ret ?_); conv => whnf)
    | ((with_reducible refine r_skip ?_); conv => whnf)
    | ((with_reducible refine r_exit ?_); conv => whnf)
    | ((with_reducible refine WrapK.i64 ?_ ?_); (focus omega); conv => whnf)
    | ((with_reducible refine And.intro rfl ?_); conv => whnf)
    | ((with_reducible intro b); conv => whnf)
    | (apply in45; refine Tryz.ntmps45; rfl; rfl; rfl; intro A; conv => whnf)
    | (refine CallK.pu (fun w => fromIOut75 h hg hf1 hs hnum w) ?_; conv => whnf)
    | (refine CallK.puW (fun ms w hk => check_ask28 (hka.now hne hk) (by omega) (by omega) hft (by omega) hvs) ?_; conv => whnf)
    | (refine QuoK.eq (by omega) hq ?_; conv => whnf)
    | (refine OpK.cvSB rfl rfl rfl rfl rfl rfl rfl rfl ?_; rw [hv]; conv => whnf)
    | (intro a' cap'; conv => whnf)
    | (refine CallK.puW (fun ms w hkn => decOut76 (f := f1) (Sees.rd (Sees.ext (by repeat (first | with_reducible apply At.head | apply At.tail))) hkn) h hf1 hs hvs) ?_; conv => whnf)
    | (refine CallK.pu (fun w => fitsOut61 h hg hf1 hs w) ?_; conv => whnf)
    | (apply r_any (id := 7); refine mixed; kernel_rfl; kernel_rfl; conv => whnf)
    | ((with_reducible apply OpK.more); (focus refine sok); (conv => whnf); fail_if_success guard_target =ₛ False)
    | ((with_reducible refine InAt.mk (fun K' hK => ?_)); conv => whnf)
    | ((with_reducible refine AnyAt.mk (fun K' hK => ?_)); conv => whnf)
    | ((with_reducible refine hK _ ?_); clear hK K'; conv => whnf)
    | ((with_reducible refine hK _ _ ?_); clear hK K'; conv => whnf)
    | ((refine And.intro ?_ ?_); all_goals (conv => whnf))
    | (apply r_quiet; refine mixed; kernel_rfl; kernel_rfl; kernel_rfl; conv => whnf)
    | ((refine if_t ?_ ?_); (focus decide); conv => whnf)
    | ((refine if_f ?_ ?_); (focus decide); conv => whnf)
    | ((refine if_decT ?_ ?_); (focus omega); conv => whnf)
    | ((refine if_decF ?_ ?_); (focus omega); conv => whnf)
    | ((refine if_ndecT ?_ ?_); (focus omega); conv => whnf)
    | ((refine if_ndecF ?_ ?_); (focus omega); conv => whnf)
    | ((refine if_dec (fun h => ?_) (fun h => ?_)); all_goals (conv => whnf))
    | ((refine if_ndec (fun h => ?_) (fun h => ?_)); all_goals (conv => whnf))
    | ((refine if_cond (fun h => ?_) (fun h => ?_)); all_goals (conv => whnf))
    | ((with_reducible apply_assumption -symm -exfalso)))
  all_goals exact FinK.ro0 rfl (HSub.pick (by repeat (first | with_reducible apply At.head | apply At.tail)))

theorem okIn {m g : Nat} {f1 x : ByteArray} (h : 1 ≤ (m : Int) ∧ (m : Int) ≤ 64) (hg : 1 ≤ g ∧ g ≤ 7) (hf1 : nameOk f1 = true) (hs : f1.size ≤ 16) (hx : x.size ≤ 65536) : ItemOk 0 0 0 m true g := ⟨by omega, by omega, .inr ⟨by omega, by omega, rfl, rfl, rfl⟩⟩
theorem fitsIn61 {m g : Nat} {f1 x : ByteArray} (h : 1 ≤ (m : Int) ∧ (m : Int) ≤ 64) (hg : 1 ≤ g ∧ g ≤ 7) (hf1 : nameOk f1 = true) (hs : f1.size ≤ 16) (hx : x.size ≤ 65536) (w : World) : Pu Tryz.prog 61 #[.agg #[.int .i64 4, .int .i64 0, .int .i64 0, .int .i64 0, .int .i64 0, .int .i64 0, .string ⟨#[]⟩, .int .i64 0, .int .i64 (m : Nat), .string f1, .string ⟨#[]⟩, .int .i64 0, .string ⟨#[]⟩, .int .i64 0, .int .i64 0, .slice none 0 0, .int .i64 0, .int .i64 0, .int .i64 0, .int .i64 0, .bool false, .int .i64 0, .int .i64 0, .string x], .agg #[.int .i64 0, .int .i64 0, .int .i64 0, .int .i64 (m : Nat), .bool true, .int .i64 (g : Nat)]] w (.bool true) := by
  refine enter_sound TBok Tryz.func61 rfl rfl Tryz.ntmps61 [.agg [.v (.int .i64 4), .v (.int .i64 0), .v (.int .i64 0), .v (.int .i64 0), .v (.int .i64 0), .v (.int .i64 0), .v (.string ⟨#[]⟩), .v (.int .i64 0), .v (.int .i64 (m : Nat)), .v (.string f1), .v (.string ⟨#[]⟩), .v (.int .i64 0), .v (.string ⟨#[]⟩), .v (.int .i64 0), .v (.int .i64 0), .v (.slice none 0 0), .v (.int .i64 0), .v (.int .i64 0), .v (.int .i64 0), .v (.int .i64 0), .v (.bool false), .v (.int .i64 0), .v (.int .i64 0), .v (.string x)], .agg [.v (.int .i64 0), .v (.int .i64 0), .v (.int .i64 0), .v (.int .i64 (m : Nat)), .v (.bool true), .v (.int .i64 (g : Nat))]] (Kn.start w noS) rfl rfl ?_
  conv => whnf
  repeat' (first
    | ((with_reducible refine r_seq (fun KS hS => ?_)))
    | ((with_reducible refine r_region ?_); conv => whnf)
    | ((with_reducible refine r_cond (fun KA hA KB hB => ?_)); conv => whnf)
    | ((with_reducible refine hS _ _ ?_); clear hS KS)
    | ((with_reducible refine hA _ ?_); clear hA KA)
    | ((with_reducible refine hB _ ?_); clear hB KB)
    | ((with_reducible refine r_block ?_))
    | ((with_reducible refine r_ret ?_); conv => whnf)
    | ((with_reducible refine r_skip ?_); conv => whnf)
    | ((with_reducible refine r_exit ?_); conv => whnf)
    | ((with_reducible refine WrapK.i64 ?_ ?_); (focus omega); conv => whnf)
    | ((with_reducible refine And.intro rfl ?_); conv => whnf)
    | ((with_reducible intro b); conv => whnf)
    | (refine CallK.pu (fun w => checkIn102 h hf1 (by omega) hx w) ?_; conv => whnf)
    | (refine if_t (by first | (simp; done) | (simp; omega)) ?_; conv => whnf)
    | ((with_reducible apply OpK.more); (focus refine sok); (conv => whnf); fail_if_success guard_target =ₛ False)
    | ((with_reducible refine InAt.mk (fun K' hK => ?_)); conv => whnf)
    | ((with_reducible refine AnyAt.mk (fun K' hK => ?_)); conv => whnf)
    | ((with_reducible refine hK _ ?_); clear hK K'; conv => whnf)
    | ((with_reducible refine hK _ _ ?_); clear hK K'; conv => whnf)
    | ((refine And.intro ?_ ?_); all_goals (conv => whnf))
    | (apply r_quiet; refine mixed; kernel_rfl; kernel_rfl; kernel_rfl; conv => whnf)
    | ((refine if_t ?_ ?_); (focus decide); conv => whnf)
    | ((refine if_f ?_ ?_); (focus decide); conv => whnf)
    | ((refine if_decT ?_ ?_); (focus omega); conv => whnf)
    | ((refine if_decF ?_ ?_); (focus omega); conv => whnf)
    | ((refine if_ndecT ?_ ?_); (focus omega); conv => whnf)
    | ((refine if_ndecF ?_ ?_); (focus omega); conv => whnf)
    | ((refine if_dec (fun h => ?_) (fun h => ?_)); all_goals (conv => whnf))
    | ((refine if_ndec (fun h => ?_) (fun h => ?_)); all_goals (conv => whnf))
    | ((refine if_cond (fun h => ?_) (fun h => ?_)); all_goals (conv => whnf))
    | ((with_reducible apply_assumption -symm -exfalso)))
  all_goals (refine FinK.pu ?_; first | (simp [den]; done) | (simp [den]; omega))
theorem fromIIn75 {m g : Nat} {f1 x : ByteArray} (h : 1 ≤ (m : Int) ∧ (m : Int) ≤ 64) (hg : 1 ≤ g ∧ g ≤ 7) (hf1 : nameOk f1 = true) (hs : f1.size ≤ 16) (hx : x.size ≤ 65536) {num : Nat} (hnum : (num : Int) = (239976 + 2 * (m : Int) - 1) * 7 + g) (w : World) : Pu Tryz.prog 75 #[.int .i64 (num : Nat)] w (.tuple #[.agg #[.int .i64 0, .int .i64 0, .int .i64 0, .int .i64 (m : Nat), .bool true, .int .i64 (g : Nat)], .int .i64 0]) := by
  refine Pu.congr (fromMove75 (n := num) (by omega) w) ?_
  congr 2
  simp only [List.cons.injEq, Value.agg.injEq, Value.int.injEq, Value.bool.injEq, Array.mk.injEq, true_and, and_true, decide_eq_true_eq, decide_eq_false_iff_not]
  omega
theorem questionIn41 {m g : Nat} {f1 x : ByteArray} (h : 1 ≤ (m : Int) ∧ (m : Int) ≤ 64) (hg : 1 ≤ g ∧ g ≤ 7) (hf1 : nameOk f1 = true) (hs : f1.size ≤ 16) (hx : x.size ≤ 65536) {w : World} {d f to num : Nat} {n gs tk : Int} {mp : Nat} {v : ByteArray} (hd : DAt w d n gs tk mp) (hka : KAt w) (hn7 : 1 ≤ n ∧ n ≤ 7) (hgs : g < gs) (hf : f < n) (hto : (to : Int) / n = g) (hto2 : to ≤ 55) (hft : f < to ∨ to < f) (hnum : (num : Int) = (239976 + 2 * (m : Int) - 1) * 7 + g) (hv : v.data.toList = uvar 4 ++ (uvar m ++ (uvar f1.size ++ f1.data.toList ++ (uvar (ByteArray.mk #[]).size ++ (ByteArray.mk #[]).data.toList ++ (uvar x.size ++ x.data.toList ++ []))))) (hvs : v.size ≤ 65536) : Pu Tryz.prog 41 #[pv d, .agg #[.int .i64 10, .int .i64 (f : Nat), .int .i64 (to : Nat), .int .i64 0, .int .i64 0, .int .i64 0, .int .i64 (num : Nat), .string v, .slice none 0 0]] w (.tuple #[.agg #[.int .i64 0, .int .i64 0, .int .i64 0, .int .i64 (m : Nat), .bool true, .int .i64 (g : Nat)], .agg #[.int .i64 4, .int .i64 0, .int .i64 0, .int .i64 0, .int .i64 0, .int .i64 0, .string ⟨#[]⟩, .int .i64 0, .int .i64 (m : Nat), .string f1, .string ⟨#[]⟩, .int .i64 0, .string ⟨#[]⟩, .int .i64 0, .int .i64 0, .slice none 0 0, .int .i64 0, .int .i64 0, .int .i64 0, .int .i64 0, .bool false, .int .i64 0, .int .i64 0, .string x], .bool true]) := by
  have hne := hka.ne hd
  refine Pu.ofFrZ (enter_ro TBok (cs := DC n gs tk mp) hd Tryz.func41 rfl rfl Tryz.ntmps41 [.loc d 10 0, .agg [.v (.int .i64 10), .v (.int .i64 (f : Nat)), .v (.int .i64 (to : Nat)), .v (.int .i64 0), .v (.int .i64 0), .v (.int .i64 0), .v (.int .i64 (num : Nat)), .v (.string v), .v (.slice none 0 0)]] rfl rfl ?_)
  unfold DC
  have hq : IntKind.i64.wrap ((to : Int).tdiv n) = (g : Int) := by rw [IntWalk.i64_quo _ _ (by omega), hto]
  conv => whnf
  repeat' (first
    | ((with_reducible refine r_seq (fun KS hS => ?_)))
    | ((with_reducible refine r_region ?_); conv => whnf)
    | ((with_reducible refine r_cond (fun KA hA KB hB => ?_)); conv => whnf)
    | ((with_reducible refine hS _ _ ?_); clear hS KS)
    | ((with_reducible refine hA _ ?_); clear hA KA)
    | ((with_reducible refine hB _ ?_); clear hB KB)
    | ((with_reducible refine r_block ?_))
    | ((with_reducible refine r_ret ?_); conv => whnf)
    | ((with_reducible refine r_skip ?_); conv => whnf)
    | ((with_reducible refine r_exit ?_); conv => whnf)
    | ((with_reducible refine WrapK.i64 ?_ ?_); (focus omega); conv => whnf)
    | ((with_reducible refine And.intro rfl ?_); conv => whnf)
    | ((with_reducible intro b); conv => whnf)
    | (apply in45; refine Tryz.ntmps45; rfl; rfl; rfl; intro A; conv => whnf)
    | (refine CallK.pu (fun w => fromIIn75 h hg hf1 hs hx hnum w) ?_; conv => whnf)
    | (refine CallK.puW (fun ms w hk => check_ask28 (hka.now hne hk) (by omega) (by omega) hft (by omega) hvs) ?_; conv => whnf)
    | (refine QuoK.eq (by omega) hq ?_; conv => whnf)
    | (refine OpK.cvSB rfl rfl rfl rfl rfl rfl rfl rfl ?_; rw [hv]; conv => whnf)
    | (intro a' cap'; conv => whnf)
    | (refine CallK.puW (fun ms w hkn => decIn76 (f := f1) (x := x) (Sees.rd (Sees.ext (by repeat (first | with_reducible apply At.head | apply At.tail))) hkn) h hf1 hs hx hvs) ?_; conv => whnf)
    | (refine CallK.pu (fun w => fitsIn61 h hg hf1 hs hx w) ?_; conv => whnf)
    | (apply r_any (id := 7); refine mixed; kernel_rfl; kernel_rfl; conv => whnf)
    | ((with_reducible apply OpK.more); (focus refine sok); (conv => whnf); fail_if_success guard_target =ₛ False)
    | ((with_reducible refine InAt.mk (fun K' hK => ?_)); conv => whnf)
    | ((with_reducible refine AnyAt.mk (fun K' hK => ?_)); conv => whnf)
    | ((with_reducible refine hK _ ?_); clear hK K'; conv => whnf)
    | ((with_reducible refine hK _ _ ?_); clear hK K'; conv => whnf)
    | ((refine And.intro ?_ ?_); all_goals (conv => whnf))
    | (apply r_quiet; refine mixed; kernel_rfl; kernel_rfl; kernel_rfl; conv => whnf)
    | ((refine if_t ?_ ?_); (focus decide); conv => whnf)
    | ((refine if_f ?_ ?_); (focus decide); conv => whnf)
    | ((refine if_decT ?_ ?_); (focus omega); conv => whnf)
    | ((refine if_decF ?_ ?_); (focus omega); conv => whnf)
    | ((refine if_ndecT ?_ ?_); (focus omega); conv => whnf)
    | ((refine if_ndecF ?_ ?_); (focus omega); conv => whnf)
    | ((refine if_dec (fun h => ?_) (fun h => ?_)); all_goals (conv => whnf))
    | ((refine if_ndec (fun h => ?_) (fun h => ?_)); all_goals (conv => whnf))
    | ((refine if_cond (fun h => ?_) (fun h => ?_)); all_goals (conv => whnf))
    | ((with_reducible apply_assumption -symm -exfalso)))
  all_goals exact FinK.ro0 rfl (HSub.pick (by repeat (first | with_reducible apply At.head | apply At.tail)))

end Go.Proofs.YtbgnoibellfojaaGreatDoor
