/- Contracts and lemmas for the claim (part XN5); no condition of its own. -/
import Derived.Test.YtbgnoibellfojaaGreatDoorXN4
import Derived.Test.YtbgnoibellfojaaGreatDoorXT
import Derived.Test.YtbgnoibellfojaaGreatDoorXB
set_option linter.all false
set_option linter.unusedVariables false
set_option linter.unusedSimpArgs false
set_option linter.unnecessarySimpa false
namespace Go.Proofs.YtbgnoibellfojaaGreatDoor
open Go Go.X
set_option maxRecDepth 100000
set_option maxHeartbeats 0
/-- a variable that holds a slice -/
def BxA (ty e k p : Nat) (n : Nat) (cs : List Value) : Ass :=
  ⟨fun w S => ∃ a cap, Holds w [.blk 2 p [.v (.slice a n cap)] ty, .ext 3 (SlA e k a n cap cs)] S, fun _ _ _ h ⟨a, cap, hx⟩ => ⟨a, cap, hx.loc h⟩⟩
theorem BxA.open {w : World} {S : Nat → Prop} {X Y : List Blk} {ty e k p n j : Nat} {cs : List Value} (h : Holds w (X ++ .ext j (BxA ty e k p n cs) :: Y) S) :
    ∃ (z : Option Addr × Nat) (S' : Nat → Prop), Holds w (X ++ .blk 2 p [.v (.slice z.1 n z.2)] ty :: .ext 3 (SlA e k z.1 n z.2 cs) :: Y) S' ∧ ∀ k, S' k → S k := by
  obtain ⟨TX, TY, h1, h2, h3, h4⟩ := h.split _ _
  cases h2 with
  | @cons _ _ Sx T hx hb hY hd =>
    obtain ⟨a, cap, hz⟩ := hx
    obtain ⟨T', q1, q2⟩ := Holds.glue _ _ hz hY hd
    obtain ⟨T'', q3, q4⟩ := Holds.glue _ _ h1 q1 (fun k hk hk' => h3 k hk ((q2 k).1 hk'))
    exact ⟨(a, cap), T'', q3, fun k hk => (h4 k).2 (((q4 k).1 hk).imp id (q2 k).1)⟩
theorem BxA.close {ty e k p n j : Nat} {a cap} {cs : List Value} {i1 i2 : Nat} : HSub [.ext j (BxA ty e k p n cs)] [.blk i1 p [.v (.slice a n cap)] ty, .ext i2 (SlA e k a n cap cs)] :=
  HSub.close fun w S h => by
    cases h with
    | @cons _ _ S1 T1 hx hb hH hd =>
      cases hH with
      | @cons _ _ S2 T2 hx2 hb2 hH2 hd2 =>
        cases hH2
        exact ⟨a, cap, .cons (x := .blk 2 p _ ty) hx hb (.cons (x := .ext 3 _) hx2 hb2 .nil hd2) hd⟩
theorem BxA.nil {ty e k p j : Nat} {i1 : Nat} : HSub [.ext j (BxA ty e k p 0 [])] [.blk i1 p [.v (.slice none 0 0)] ty] :=
  fun w S h => by
    cases h with
    | @cons _ _ S1 T1 hx hb hH hd =>
      cases hH
      have h2 : Holds w [.ext 3 (SlA e k none 0 0 [])] (fun _ => False ∨ False) := .cons (S := fun _ => False) (x := .ext 3 (SlA e k none 0 0 [])) (.inl ⟨rfl, rfl, rfl, rfl⟩) (fun _ h => h.elim) .nil (fun _ h _ => h)
      have h3 : Holds w [.blk 2 p [.v (.slice none 0 0)] ty, .ext 3 (SlA e k none 0 0 [])] (fun k => S1 k ∨ (False ∨ False)) := .cons (x := .blk 2 p [.v (.slice none 0 0)] ty) hx hb h2 (fun _ _ h => h.elim id id)
      exact ⟨_, .cons (x := .ext j (BxA ty e k p 0 [])) ⟨none, 0, h3⟩ (fun k hk => hk.elim (hb k) (fun h => h.elim False.elim False.elim)) .nil (fun _ _ h => h), fun k hk => hk.elim (fun h => h.elim .inl (fun h => h.elim False.elim False.elim)) False.elim⟩
/-- the keys of a map of one entry, handed out: maps.Keys over map[int]api.Item -/
def En (k : Int) (v : Value) (b : Nat) : MapEntry := ⟨.int .i64 k, v, b⟩

theorem keys142 {bx m clk b : Nat} {k : Int} {v : Value} (hb : b < clk) : ItS Tryz.prog 142 (denL [.loc bx 1 0]) [.blk 1 bx [.v (.map (some m))] 116, .ext 2 (MpA m [En k v b] clk)] [.blk 1 bx [.v (.map (some m))] 116, .ext 2 (MpA m [En k v b] clk)] [denL [.v (.int .i64 k)]] := by
  intro J yv hyv w
  have hy := hyv 0 _ rfl
  refine enter_fr TBok (H := .ext 0 (J 0) :: [.blk 1 bx [.v (.map (some m))] 116, .ext 2 (MpA m [En k v b] clk)]) all_foot Tryz.func142 rfl rfl Tryz.ntmps142 [.v yv, .loc bx 1 0] rfl rfl ?_
  intro S
  unfold En
  conv => whnf
  repeat' (first
    | ((with_reducible refine r_seq (fun KS hS => ?_)))
    | ((with_reducible refine r_region ?_); conv => whnf)
    | ((with_reducible refine r_cond (fun KA hA KB hB => ?_)); conv => whnf)
    | ((with_reducible refine hS _ _ ?_); clear hS KS)
    | ((with_reducible refine hA _ ?_); clear hA KA)
    | ((with_reducible refine hB _ ?_); clear hB KB)
    | ((with_reducible refine r_block ?_))
    | ((with_reducible refine r_ret ?_); conv => whnf)
    | ((with_reducible refine r_skip ?_); conv => whnf)
    | ((with_reducible refine r_exit ?_); conv => whnf)
    | ((with_reducible refine WrapK.i64 ?_ ?_); (focus omega); conv => whnf)
    | ((with_reducible refine And.intro rfl ?_); conv => whnf)
    | ((with_reducible intro b); conv => whnf)
    | (refine OpK.rngM rfl rfl rfl rfl (by repeat (first | with_reducible apply At.head | apply At.tail)) ?_; conv => whnf)
    | (intro r; conv => whnf)
    | (refine OpK.nx1 rfl rfl (by repeat (first | with_reducible apply At.head | apply At.tail)) (by repeat (first | with_reducible apply At.head | apply At.tail)) hb ?_; conv => whnf)
    | (refine OpK.nxD rfl rfl (by repeat (first | with_reducible apply At.head | apply At.tail)) (by repeat (first | with_reducible apply At.head | apply At.tail)) hb ?_; conv => whnf)
    | (refine OpK.ent1 rfl rfl (by repeat (first | with_reducible apply At.head | apply At.tail)) (by repeat (first | with_reducible apply At.head | apply At.tail)) ?_; conv => whnf)
    | (refine CallV.fr (.tail .head) (v := .bool true) (y := .ext 0 (J 1)) (fun w S h1 h2 => hy w S h1 h2) ?_; conv => whnf)
    | ((with_reducible apply OpK.more); (focus refine sok); (conv => whnf); fail_if_success guard_target =ₛ False)
    | ((with_reducible refine Rounds.step (fun KL hL => ?_)))
    | ((with_reducible refine hL _ _ ?_); clear hL KL)
    | ((with_reducible refine r_rounds 100 ?_))
    | ((with_reducible refine InAt.mk (fun K' hK => ?_)); conv => whnf)
    | ((with_reducible refine AnyAt.mk (fun K' hK => ?_)); conv => whnf)
    | ((with_reducible refine hK _ ?_); clear hK K'; conv => whnf)
    | ((with_reducible refine hK _ _ ?_); clear hK K'; conv => whnf)
    | ((refine And.intro ?_ ?_); all_goals (conv => whnf))
    | (apply r_quiet; refine mixed; kernel_rfl; kernel_rfl; kernel_rfl; conv => whnf)
    | ((refine if_t ?_ ?_); (focus decide); conv => whnf)
    | ((refine if_f ?_ ?_); (focus decide); conv => whnf)
    | ((refine if_decT ?_ ?_); (focus omega); conv => whnf)
    | ((refine if_decF ?_ ?_); (focus omega); conv => whnf)
    | ((refine if_ndecT ?_ ?_); (focus omega); conv => whnf)
    | ((refine if_ndecF ?_ ?_); (focus omega); conv => whnf)
    | ((refine if_dec (fun h => ?_) (fun h => ?_)); all_goals (conv => whnf))
    | ((refine if_ndec (fun h => ?_) (fun h => ?_)); all_goals (conv => whnf))
    | ((refine if_cond (fun h => ?_) (fun h => ?_)); all_goals (conv => whnf))
    | ((with_reducible apply_assumption -symm -exfalso)))
  exact FinK.frL rfl (HSub.drop (HSub.refl _))

theorem keys106 {bx m clk b : Nat} {k : Int} {v : Value} (hb : b < clk) : ItS Tryz.prog 106 (denL [.loc bx 1 0]) [.blk 1 bx [.v (.map (some m))] 79, .ext 2 (MpA m [En k v b] clk)] [.blk 1 bx [.v (.map (some m))] 79, .ext 2 (MpA m [En k v b] clk)] [denL [.v (.int .i64 k)]] := by
  intro J yv hyv w
  have hy := hyv 0 _ rfl
  refine enter_fr TBok (H := .ext 0 (J 0) :: [.blk 1 bx [.v (.map (some m))] 79, .ext 2 (MpA m [En k v b] clk)]) all_foot Tryz.func106 rfl rfl Tryz.ntmps106 [.v yv, .loc bx 1 0] rfl rfl ?_
  intro S
  unfold En
  conv => whnf
  repeat' (first
    | ((with_reducible refine r_seq (fun KS hS => ?_)))
    | ((with_reducible refine r_region ?_); conv => whnf)
    | ((with_reducible refine r_cond (fun KA hA KB hB => ?_)); conv => whnf)
    | ((with_reducible refine hS _ _ ?_); clear hS KS)
    | ((with_reducible refine hA _ ?_); clear hA KA)
    | ((with_reducible refine hB _ ?_); clear hB KB)
    | ((with_reducible refine r_block ?_))
    | ((with_reducible refine r_ret ?_); conv => whnf)
    | ((with_reducible refine r_skip ?_); conv => whnf)
    | ((with_reducible refine r_exit ?_); conv => whnf)
    | ((with_reducible refine WrapK.i64 ?_ ?_); (focus omega); conv => whnf)
    | ((with_reducible refine And.intro rfl ?_); conv => whnf)
    | ((with_reducible intro b); conv => whnf)
    | (refine OpK.rngM rfl rfl rfl rfl (by repeat (first | with_reducible apply At.head | apply At.tail)) ?_; conv => whnf)
    | (intro r; conv => whnf)
    | (refine OpK.nx1 rfl rfl (by repeat (first | with_reducible apply At.head | apply At.tail)) (by repeat (first | with_reducible apply At.head | apply At.tail)) hb ?_; conv => whnf)
    | (refine OpK.nxD rfl rfl (by repeat (first | with_reducible apply At.head | apply At.tail)) (by repeat (first | with_reducible apply At.head | apply At.tail)) hb ?_; conv => whnf)
    | (refine OpK.ent1 rfl rfl (by repeat (first | with_reducible apply At.head | apply At.tail)) (by repeat (first | with_reducible apply At.head | apply At.tail)) ?_; conv => whnf)
    | (refine CallV.fr (.tail .head) (v := .bool true) (y := .ext 0 (J 1)) (fun w S h1 h2 => hy w S h1 h2) ?_; conv => whnf)
    | ((with_reducible apply OpK.more); (focus refine sok); (conv => whnf); fail_if_success guard_target =ₛ False)
    | ((with_reducible refine Rounds.step (fun KL hL => ?_)))
    | ((with_reducible refine hL _ _ ?_); clear hL KL)
    | ((with_reducible refine r_rounds 100 ?_))
    | ((with_reducible refine InAt.mk (fun K' hK => ?_)); conv => whnf)
    | ((with_reducible refine AnyAt.mk (fun K' hK => ?_)); conv => whnf)
    | ((with_reducible refine hK _ ?_); clear hK K'; conv => whnf)
    | ((with_reducible refine hK _ _ ?_); clear hK K'; conv => whnf)
    | ((refine And.intro ?_ ?_); all_goals (conv => whnf))
    | (apply r_quiet; refine mixed; kernel_rfl; kernel_rfl; kernel_rfl; conv => whnf)
    | ((refine if_t ?_ ?_); (focus decide); conv => whnf)
    | ((refine if_f ?_ ?_); (focus decide); conv => whnf)
    | ((refine if_decT ?_ ?_); (focus omega); conv => whnf)
    | ((refine if_decF ?_ ?_); (focus omega); conv => whnf)
    | ((refine if_ndecT ?_ ?_); (focus omega); conv => whnf)
    | ((refine if_ndecF ?_ ?_); (focus omega); conv => whnf)
    | ((refine if_dec (fun h => ?_) (fun h => ?_)); all_goals (conv => whnf))
    | ((refine if_ndec (fun h => ?_) (fun h => ?_)); all_goals (conv => whnf))
    | ((refine if_cond (fun h => ?_) (fun h => ?_)); all_goals (conv => whnf))
    | ((with_reducible apply_assumption -symm -exfalso)))
  exact FinK.frL rfl (HSub.drop (HSub.refl _))

theorem len157 (w : World) : Pu Tryz.prog 157 #[.int .u64 1] w (.int .i64 1) := by
  refine enter_sound TBok Tryz.func157 rfl rfl Tryz.ntmps157 [.v (.int .u64 1)] (Kn.start w noS) rfl rfl ?_
  conv => whnf
  repeat' (first
    | ((with_reducible refine r_seq (fun KS hS => ?_)))
    | ((with_reducible refine r_region ?_); conv => whnf)
    | ((with_reducible refine r_cond (fun KA hA KB hB => ?_)); conv => whnf)
    | ((with_reducible refine hS _ _ ?_); clear hS KS)
    | ((with_reducible refine hA _ ?_); clear hA KA)
    | ((with_reducible refine hB _ ?_); clear hB KB)
    | ((with_reducible refine r_block ?_))
    | ((with_reducible refine r_ret ?_); conv => whnf)
    | ((with_reducible refine r_skip ?_); conv => whnf)
    | ((with_reducible refine r_exit ?_); conv => whnf)
    | ((with_reducible refine WrapK.i64 ?_ ?_); (focus omega); conv => whnf)
    | ((with_reducible refine And.intro rfl ?_); conv => whnf)
    | ((with_reducible intro b); conv => whnf)
    | (apply in271; refine Tryz.ntmps271; rfl; rfl; rfl; intro A; conv => whnf)
    | (refine OpK.sIx (b := 1) rfl rfl rfl rfl rfl (by omega) rfl ?_; conv => whnf)
    | (refine WrapK.eq (IntWalk.u8_in _ (by omega)) ?_; conv => whnf)
    | (refine WrapK.eq (z' := 1) (by decide +kernel) ?_; conv => whnf)
    | ((with_reducible apply OpK.more); (focus refine sok); (conv => whnf); fail_if_success guard_target =ₛ False)
    | ((with_reducible refine Rounds.step (fun KL hL => ?_)))
    | ((with_reducible refine hL _ _ ?_); clear hL KL)
    | ((with_reducible refine r_rounds 100 ?_))
    | ((with_reducible refine InAt.mk (fun K' hK => ?_)); conv => whnf)
    | ((with_reducible refine AnyAt.mk (fun K' hK => ?_)); conv => whnf)
    | ((with_reducible refine hK _ ?_); clear hK K'; conv => whnf)
    | ((with_reducible refine hK _ _ ?_); clear hK K'; conv => whnf)
    | ((refine And.intro ?_ ?_); all_goals (conv => whnf))
    | (apply r_quiet; refine mixed; kernel_rfl; kernel_rfl; kernel_rfl; conv => whnf)
    | ((refine if_t ?_ ?_); (focus decide); conv => whnf)
    | ((refine if_f ?_ ?_); (focus decide); conv => whnf)
    | ((refine if_decT ?_ ?_); (focus omega); conv => whnf)
    | ((refine if_decF ?_ ?_); (focus omega); conv => whnf)
    | ((refine if_ndecT ?_ ?_); (focus omega); conv => whnf)
    | ((refine if_ndecF ?_ ?_); (focus omega); conv => whnf)
    | ((refine if_dec (fun h => ?_) (fun h => ?_)); all_goals (conv => whnf))
    | ((refine if_ndec (fun h => ?_) (fun h => ?_)); all_goals (conv => whnf))
    | ((refine if_cond (fun h => ?_) (fun h => ?_)); all_goals (conv => whnf))
    | ((with_reducible apply_assumption -symm -exfalso)))
  exact FinK.pu rfl
theorem sort105 {a : Option Addr} {cap : Nat} (w : World) : Pu Tryz.prog 105 #[.slice a 1 cap] w (.tuple #[]) := by
  refine enter_sound TBok Tryz.func105 rfl rfl Tryz.ntmps105 [.v (.slice a 1 cap)] (Kn.start w noS) rfl rfl ?_
  conv => whnf
  repeat' (first
    | ((with_reducible refine r_seq (fun KS hS => ?_)))
    | ((with_reducible refine r_region ?_); conv => whnf)
    | ((with_reducible refine r_cond (fun KA hA KB hB => ?_)); conv => whnf)
    | ((with_reducible refine hS _ _ ?_); clear hS KS)
    | ((with_reducible refine hA _ ?_); clear hA KA)
    | ((with_reducible refine hB _ ?_); clear hB KB)
    | ((with_reducible refine r_block ?_))
    | ((with_reducible refine r_ret ?_); conv => whnf)
    | ((with_reducible refine r_skip ?_); conv => whnf)
    | ((with_reducible refine r_exit ?_); conv => whnf)
    | ((with_reducible refine WrapK.i64 ?_ ?_); (focus omega); conv => whnf)
    | ((with_reducible refine And.intro rfl ?_); conv => whnf)
    | ((with_reducible intro b); conv => whnf)
    | (apply in156; refine Tryz.ntmps156; rfl; rfl; rfl; intro A; conv => whnf)
    | (apply in261; refine Tryz.ntmps261; rfl; rfl; rfl; intro A; conv => whnf)
    | (refine CallK.pu (fun w => len157 w) ?_; conv => whnf)
    | (refine WrapK.eq (IntWalk.u64_in _ (by omega)) ?_; conv => whnf)
    | ((with_reducible apply OpK.more); (focus refine sok); (conv => whnf); fail_if_success guard_target =ₛ False)
    | ((with_reducible refine Rounds.step (fun KL hL => ?_)))
    | ((with_reducible refine hL _ _ ?_); clear hL KL)
    | ((with_reducible refine r_rounds 100 ?_))
    | ((with_reducible refine InAt.mk (fun K' hK => ?_)); conv => whnf)
    | ((with_reducible refine AnyAt.mk (fun K' hK => ?_)); conv => whnf)
    | ((with_reducible refine hK _ ?_); clear hK K'; conv => whnf)
    | ((with_reducible refine hK _ _ ?_); clear hK K'; conv => whnf)
    | ((refine And.intro ?_ ?_); all_goals (conv => whnf))
    | (apply r_quiet; refine mixed; kernel_rfl; kernel_rfl; kernel_rfl; conv => whnf)
    | ((refine if_t ?_ ?_); (focus decide); conv => whnf)
    | ((refine if_f ?_ ?_); (focus decide); conv => whnf)
    | ((refine if_decT ?_ ?_); (focus omega); conv => whnf)
    | ((refine if_decF ?_ ?_); (focus omega); conv => whnf)
    | ((refine if_ndecT ?_ ?_); (focus omega); conv => whnf)
    | ((refine if_ndecF ?_ ?_); (focus omega); conv => whnf)
    | ((refine if_dec (fun h => ?_) (fun h => ?_)); all_goals (conv => whnf))
    | ((refine if_ndec (fun h => ?_) (fun h => ?_)); all_goals (conv => whnf))
    | ((refine if_cond (fun h => ?_) (fun h => ?_)); all_goals (conv => whnf))
    | ((with_reducible apply_assumption -symm -exfalso)))
  exact FinK.pu rfl
theorem sorted142 {bx m clk b0 : Nat} {k : Int} {v : Value} (hb : b0 < clk) (w : World) : FrZ Tryz.prog 63 #[.func (.func 142) #[] #[pv bx]] w (AssL [.blk 1 bx [.v (.map (some m))] 116, .ext 2 (MpA m [En k v b0] clk)]) (fun z : Option Addr × Nat => .slice z.1 1 z.2) (fun z => AssL [.ext 3 (SlA 3 1 z.1 1 z.2 [.int .i64 k]), .blk 1 bx [.v (.map (some m))] 116, .ext 2 (MpA m [En k v b0] clk)]) := by
  refine enter_frZ TBok (H := [.blk 1 bx [.v (.map (some m))] 116, .ext 2 (MpA m [En k v b0] clk)]) all_foot Tryz.func63 rfl rfl Tryz.ntmps63 [.fn 142 [.loc bx 1 0]] rfl rfl ?_
  intro S _ _
  conv => whnf
  repeat' (first
    | ((with_reducible refine r_seq (fun KS hS => ?_)))
    | ((with_reducible refine r_region ?_); conv => whnf)
    | ((with_reducible refine r_cond (fun KA hA KB hB => ?_)); conv => whnf)
    | ((with_reducible refine hS _ _ ?_); clear hS KS)
    | ((with_reducible refine hA _ ?_); clear hA KA)
    | ((with_reducible refine hB _ ?_); clear hB KB)
    | ((with_reducible refine r_block ?_))
    | ((with_reducible refine r_ret ?_); conv => whnf)
    | ((with_reducible refine r_skip ?_); conv => whnf)
    | ((with_reducible refine r_exit ?_); conv => whnf)
    | ((with_reducible refine WrapK.i64 ?_ ?_); (focus omega); conv => whnf)
    | ((with_reducible refine And.intro rfl ?_); conv => whnf)
    | ((with_reducible intro b); conv => whnf)
    | (apply in104; refine Tryz.ntmps104; rfl; rfl; rfl; intro A; conv => whnf)
    | (apply in155; refine Tryz.ntmps155; rfl; rfl; rfl; intro A; conv => whnf)
    | ((with_reducible apply OpK.more); (focus refine sok); (conv => whnf); fail_if_success guard_target =ₛ False)
    | ((with_reducible refine InAt.mk (fun K' hK => ?_)); conv => whnf)
    | ((with_reducible refine AnyAt.mk (fun K' hK => ?_)); conv => whnf)
    | ((with_reducible refine hK _ ?_); clear hK K'; conv => whnf)
    | ((with_reducible refine hK _ _ ?_); clear hK K'; conv => whnf)
    | ((refine And.intro ?_ ?_); all_goals (conv => whnf))
    | (apply r_quiet; refine mixed; kernel_rfl; kernel_rfl; kernel_rfl; conv => whnf)
    | ((refine if_t ?_ ?_); (focus decide); conv => whnf)
    | ((refine if_f ?_ ?_); (focus decide); conv => whnf)
    | ((refine if_decT ?_ ?_); (focus omega); conv => whnf)
    | ((refine if_decF ?_ ?_); (focus omega); conv => whnf)
    | ((refine if_ndecT ?_ ?_); (focus omega); conv => whnf)
    | ((refine if_ndecF ?_ ?_); (focus omega); conv => whnf)
    | ((refine if_dec (fun h => ?_) (fun h => ?_)); all_goals (conv => whnf))
    | ((refine if_ndec (fun h => ?_) (fun h => ?_)); all_goals (conv => whnf))
    | ((refine if_cond (fun h => ?_) (fun h => ?_)); all_goals (conv => whnf))
    | ((with_reducible apply_assumption -symm -exfalso)))
  rename_i A1 _ _
  refine r_rangeFunc (fun i => [.ext 5 (BxA 69 3 1 b i ([Value.int .i64 k].take i)), .ext 0 A1, .ext 0 A]) [[.v (.int .i64 k)]] 14 rfl ?_ (keys142 (bx := bx) (m := m) (v := v) hb) (by simp) (by decide) ?_ ?_
  · exact HSub.trans (HSub.perm ((List.perm_append_comm (l₁ := [_]) (l₂ := [_, _])).append_right [_, _])) (HSub.app2 BxA.nil (HSub.refl _))
  · intro i x hx lp rc W' S'
    obtain ⟨rfl, rfl⟩ : i = 0 ∧ [SV.v (.int .i64 k)] = x := by
      cases i with
      | zero => simpa using hx
      | succ i => simp at hx
    conv => whnf
    repeat' (first
    | ((with_reducible refine r_seq (fun KS hS => ?_)))
    | ((with_reducible refine r_region ?_); conv => whnf)
    | ((with_reducible refine r_cond (fun KA hA KB hB => ?_)); conv => whnf)
    | ((with_reducible refine hS _ _ ?_); clear hS KS)
    | ((with_reducible refine hA _ ?_); clear hA KA)
    | ((with_reducible refine hB _ ?_); clear hB KB)
    | ((with_reducible refine r_block ?_))
    | ((with_reducible refine r_ret ?_); conv => whnf)
    | ((with_reducible refine r_skip ?_); conv => whnf)
    | ((with_reducible refine r_exit ?_); conv => whnf)
    | ((with_reducible refine WrapK.i64 ?_ ?_); (focus omega); conv => whnf)
    | ((with_reducible refine And.intro rfl ?_); conv => whnf)
    | ((with_reducible intro b); conv => whnf)
    | ((with_reducible apply OpK.more); (focus refine sok); (conv => whnf); fail_if_success guard_target =ₛ False)
    | ((with_reducible refine InAt.mk (fun K' hK => ?_)); conv => whnf)
    | ((with_reducible refine AnyAt.mk (fun K' hK => ?_)); conv => whnf)
    | ((with_reducible refine hK _ ?_); clear hK K'; conv => whnf)
    | ((with_reducible refine hK _ _ ?_); clear hK K'; conv => whnf)
    | ((refine And.intro ?_ ?_); all_goals (conv => whnf))
    | (apply r_quiet; refine mixed; kernel_rfl; kernel_rfl; kernel_rfl; conv => whnf)
    | ((refine if_t ?_ ?_); (focus decide); conv => whnf)
    | ((refine if_f ?_ ?_); (focus decide); conv => whnf)
    | ((refine if_decT ?_ ?_); (focus omega); conv => whnf)
    | ((refine if_decF ?_ ?_); (focus omega); conv => whnf)
    | ((refine if_ndecT ?_ ?_); (focus omega); conv => whnf)
    | ((refine if_ndecF ?_ ?_); (focus omega); conv => whnf)
    | ((refine if_dec (fun h => ?_) (fun h => ?_)); all_goals (conv => whnf))
    | ((refine if_ndec (fun h => ?_) (fun h => ?_)); all_goals (conv => whnf))
    | ((refine if_cond (fun h => ?_) (fun h => ?_)); all_goals (conv => whnf))
    | ((with_reducible apply_assumption -symm -exfalso)))
    refine ⟨_, rfl, ?_⟩
    refine r_block ?_
    refine Run.open (α := Option Addr × Nat) (A := []) (B := []) (fun z => [.ext 14 (lrA lp { rc with state := .busy }), .blk 2 b [.v (.slice z.1 0 z.2)] 69, .ext 3 (SlA 3 1 z.1 0 z.2 []), .ext 0 A1, .ext 0 A]) (fun w S h => BxA.open (X := [_]) (Y := [_, _]) h) ?_
    rintro ⟨a, cap⟩
    dsimp only
    repeat' (first
    | ((with_reducible refine r_seq (fun KS hS => ?_)))
    | ((with_reducible refine r_region ?_); conv => whnf)
    | ((with_reducible refine r_cond (fun KA hA KB hB => ?_)); conv => whnf)
    | ((with_reducible refine hS _ _ ?_); clear hS KS)
    | ((with_reducible refine hA _ ?_); clear hA KA)
    | ((with_reducible refine hB _ ?_); clear hB KB)
    | ((with_reducible refine r_block ?_))
    | ((with_reducible refine r_ret ?_); conv => whnf)
    | ((with_reducible refine r_skip ?_); conv => whnf)
    | ((with_reducible refine r_exit ?_); conv => whnf)
    | ((with_reducible refine WrapK.i64 ?_ ?_); (focus omega); conv => whnf)
    | ((with_reducible refine And.intro rfl ?_); conv => whnf)
    | ((with_reducible intro b); conv => whnf)
    | (refine OpK.app (k := 1) rfl rfl rfl rfl rfl rfl rfl rfl (by repeat (first | with_reducible apply At.head | apply At.tail)) (SrcK.slc rfl rfl (by repeat (first | constructor | apply List.Mem.tail)) (Nat.le_refl _) rfl) (by show (0 + 1) * (8 + 1) ≤ 140737488355328; omega) (fun a' cap' => ?_); conv => whnf)
    | ((with_reducible apply OpK.more); (focus refine sok); (conv => whnf); fail_if_success guard_target =ₛ False)
    | ((with_reducible refine InAt.mk (fun K' hK => ?_)); conv => whnf)
    | ((with_reducible refine AnyAt.mk (fun K' hK => ?_)); conv => whnf)
    | ((with_reducible refine hK _ ?_); clear hK K'; conv => whnf)
    | ((with_reducible refine hK _ _ ?_); clear hK K'; conv => whnf)
    | ((refine And.intro ?_ ?_); all_goals (conv => whnf))
    | (apply r_quiet; refine mixed; kernel_rfl; kernel_rfl; kernel_rfl; conv => whnf)
    | ((refine if_t ?_ ?_); (focus decide); conv => whnf)
    | ((refine if_f ?_ ?_); (focus decide); conv => whnf)
    | ((refine if_decT ?_ ?_); (focus omega); conv => whnf)
    | ((refine if_decF ?_ ?_); (focus omega); conv => whnf)
    | ((refine if_ndecT ?_ ?_); (focus omega); conv => whnf)
    | ((refine if_ndecF ?_ ?_); (focus omega); conv => whnf)
    | ((refine if_dec (fun h => ?_) (fun h => ?_)); all_goals (conv => whnf))
    | ((refine if_ndec (fun h => ?_) (fun h => ?_)); all_goals (conv => whnf))
    | ((refine if_cond (fun h => ?_) (fun h => ?_)); all_goals (conv => whnf))
    | ((with_reducible apply_assumption -symm -exfalso)))
    refine ⟨HSub.drop (HSub.ext (fun _ _ h => h) (HSub.app2 (A' := [_]) (A := [_, _]) BxA.close (HSub.refl _)))⟩
  · refine hS _ _ ?_
    clear hS KS
    refine Run.open (α := Option Addr × Nat) (A := []) (B := []) (fun z => [.blk 1 bx [.v (.map (some m))] 116, .ext 2 (MpA m [En k v b0] clk), .blk 2 b [.v (.slice z.1 1 z.2)] 69, .ext 3 (SlA 3 1 z.1 1 z.2 [.int .i64 k]), .ext 0 A1, .ext 0 A]) (fun w S h => BxA.open (X := [_, _]) (Y := [_, _]) h) ?_
    rintro ⟨a, cap⟩
    dsimp only
    repeat' (first
    | ((with_reducible refine r_seq (fun KS hS => ?_)))
    | ((with_reducible refine r_region ?_); conv => whnf)
    | ((with_reducible refine r_cond (fun KA hA KB hB => ?_)); conv => whnf)
    | ((with_reducible refine hS _ _ ?_); clear hS KS)
    | ((with_reducible refine hA _ ?_); clear hA KA)
    | ((with_reducible refine hB _ ?_); clear hB KB)
    | ((with_reducible refine r_block ?_))
    | ((with_reducible refine r_ret ?_); conv => whnf)
    | ((with_reducible refine r_skip ?_); conv => whnf)
    | ((with_reducible refine r_exit ?_); conv => whnf)
    | ((with_reducible refine WrapK.i64 ?_ ?_); (focus omega); conv => whnf)
    | ((with_reducible refine And.intro rfl ?_); conv => whnf)
    | ((with_reducible intro b); conv => whnf)
    | (refine CallK.pu (fun w => sort105 w) ?_; conv => whnf)
    | ((with_reducible apply OpK.more); (focus refine sok); (conv => whnf); fail_if_success guard_target =ₛ False)
    | ((with_reducible refine InAt.mk (fun K' hK => ?_)); conv => whnf)
    | ((with_reducible refine AnyAt.mk (fun K' hK => ?_)); conv => whnf)
    | ((with_reducible refine hK _ ?_); clear hK K'; conv => whnf)
    | ((with_reducible refine hK _ _ ?_); clear hK K'; conv => whnf)
    | ((refine And.intro ?_ ?_); all_goals (conv => whnf))
    | (apply r_quiet; refine mixed; kernel_rfl; kernel_rfl; kernel_rfl; conv => whnf)
    | ((refine if_t ?_ ?_); (focus decide); conv => whnf)
    | ((refine if_f ?_ ?_); (focus decide); conv => whnf)
    | ((refine if_decT ?_ ?_); (focus omega); conv => whnf)
    | ((refine if_decF ?_ ?_); (focus omega); conv => whnf)
    | ((refine if_ndecT ?_ ?_); (focus omega); conv => whnf)
    | ((refine if_ndecF ?_ ?_); (focus omega); conv => whnf)
    | ((refine if_dec (fun h => ?_) (fun h => ?_)); all_goals (conv => whnf))
    | ((refine if_ndec (fun h => ?_) (fun h => ?_)); all_goals (conv => whnf))
    | ((refine if_cond (fun h => ?_) (fun h => ?_)); all_goals (conv => whnf))
    | ((with_reducible apply_assumption -symm -exfalso)))
    exact FinK.frZL (a, cap) rfl (by dsimp only; refine SelI.spec ?_; repeat (first | apply SelI.nil | refine SelI.blk (by repeat (first | with_reducible apply Rm.head | apply Rm.tail)) ?_ | refine SelI.ext (by repeat (first | with_reducible apply Rm.head | apply Rm.tail)) ?_))
theorem sorted106 {bx m clk b0 : Nat} {k : Int} {v : Value} (hb : b0 < clk) (w : World) : FrZ Tryz.prog 63 #[.func (.func 106) #[] #[pv bx]] w (AssL [.blk 1 bx [.v (.map (some m))] 79, .ext 2 (MpA m [En k v b0] clk)]) (fun z : Option Addr × Nat => .slice z.1 1 z.2) (fun z => AssL [.ext 3 (SlA 3 1 z.1 1 z.2 [.int .i64 k]), .blk 1 bx [.v (.map (some m))] 79, .ext 2 (MpA m [En k v b0] clk)]) := by
  refine enter_frZ TBok (H := [.blk 1 bx [.v (.map (some m))] 79, .ext 2 (MpA m [En k v b0] clk)]) all_foot Tryz.func63 rfl rfl Tryz.ntmps63 [.fn 106 [.loc bx 1 0]] rfl rfl ?_
  intro S _ _
  conv => whnf
  repeat' (first
    | ((with_reducible refine r_seq (fun KS hS => ?_)))
    | ((with_reducible refine r_region ?_); conv => whnf)
    | ((with_reducible refine r_cond (fun KA hA KB hB => ?_)); conv => whnf)
    | ((with_reducible refine hS _ _ ?_); clear hS KS)
    | ((with_reducible refine hA _ ?_); clear hA KA)
    | ((with_reducible refine hB _ ?_); clear hB KB)
    | ((with_reducible refine r_block ?_))
    | ((with_reducible refine r_ret ?_); conv => whnf)
    | ((with_reducible refine r_skip ?_); conv => whnf)
    | ((with_reducible refine r_exit ?_); conv => whnf)
    | ((with_reducible refine WrapK.i64 ?_ ?_); (focus omega); conv => whnf)
    | ((with_reducible refine And.intro rfl ?_); conv => whnf)
    | ((with_reducible intro b); conv => whnf)
    | (apply in104; refine Tryz.ntmps104; rfl; rfl; rfl; intro A; conv => whnf)
    | (apply in155; refine Tryz.ntmps155; rfl; rfl; rfl; intro A; conv => whnf)
    | ((with_reducible apply OpK.more); (focus refine sok); (conv => whnf); fail_if_success guard_target =ₛ False)
    | ((with_reducible refine InAt.mk (fun K' hK => ?_)); conv => whnf)
    | ((with_reducible refine AnyAt.mk (fun K' hK => ?_)); conv => whnf)
    | ((with_reducible refine hK _ ?_); clear hK K'; conv => whnf)
    | ((with_reducible refine hK _ _ ?_); clear hK K'; conv => whnf)
    | ((refine And.intro ?_ ?_); all_goals (conv => whnf))
    | (apply r_quiet; refine mixed; kernel_rfl; kernel_rfl; kernel_rfl; conv => whnf)
    | ((refine if_t ?_ ?_); (focus decide); conv => whnf)
    | ((refine if_f ?_ ?_); (focus decide); conv => whnf)
    | ((refine if_decT ?_ ?_); (focus omega); conv => whnf)
    | ((refine if_decF ?_ ?_); (focus omega); conv => whnf)
    | ((refine if_ndecT ?_ ?_); (focus omega); conv => whnf)
    | ((refine if_ndecF ?_ ?_); (focus omega); conv => whnf)
    | ((refine if_dec (fun h => ?_) (fun h => ?_)); all_goals (conv => whnf))
    | ((refine if_ndec (fun h => ?_) (fun h => ?_)); all_goals (conv => whnf))
    | ((refine if_cond (fun h => ?_) (fun h => ?_)); all_goals (conv => whnf))
    | ((with_reducible apply_assumption -symm -exfalso)))
  rename_i A1 _ _
  refine r_rangeFunc (fun i => [.ext 5 (BxA 69 3 1 b i ([Value.int .i64 k].take i)), .ext 0 A1, .ext 0 A]) [[.v (.int .i64 k)]] 14 rfl ?_ (keys106 (bx := bx) (m := m) (v := v) hb) (by simp) (by decide) ?_ ?_
  · exact HSub.trans (HSub.perm ((List.perm_append_comm (l₁ := [_]) (l₂ := [_, _])).append_right [_, _])) (HSub.app2 BxA.nil (HSub.refl _))
  · intro i x hx lp rc W' S'
    obtain ⟨rfl, rfl⟩ : i = 0 ∧ [SV.v (.int .i64 k)] = x := by
      cases i with
      | zero => simpa using hx
      | succ i => simp at hx
    conv => whnf
    repeat' (first
    | ((with_reducible refine r_seq (fun KS hS => ?_)))
    | ((with_reducible refine r_region ?_); conv => whnf)
    | ((with_reducible refine r_cond (fun KA hA KB hB => ?_)); conv => whnf)
    | ((with_reducible refine hS _ _ ?_); clear hS KS)
    | ((with_reducible refine hA _ ?_); clear hA KA)
    | ((with_reducible refine hB _ ?_); clear hB KB)
    | ((with_reducible refine r_block ?_))
    | ((with_reducible refine r_ret ?_); conv => whnf)
    | ((with_reducible refine r_skip ?_); conv => whnf)
    | ((with_reducible refine r_exit ?_); conv => whnf)
    | ((with_reducible refine WrapK.i64 ?_ ?_); (focus omega); conv => whnf)
    | ((with_reducible refine And.intro rfl ?_); conv => whnf)
    | ((with_reducible intro b); conv => whnf)
    | ((with_reducible apply OpK.more); (focus refine sok); (conv => whnf); fail_if_success guard_target =ₛ False)
    | ((with_reducible refine InAt.mk (fun K' hK => ?_)); conv => whnf)
    | ((with_reducible refine AnyAt.mk (fun K' hK => ?_)); conv => whnf)
    | ((with_reducible refine hK _ ?_); clear hK K'; conv => whnf)
    | ((with_reducible refine hK _ _ ?_); clear hK K'; conv => whnf)
    | ((refine And.intro ?_ ?_); all_goals (conv => whnf))
    | (apply r_quiet; refine mixed; kernel_rfl; kernel_rfl; kernel_rfl; conv => whnf)
    | ((refine if_t ?_ ?_); (focus decide); conv => whnf)
    | ((refine if_f ?_ ?_); (focus decide); conv => whnf)
    | ((refine if_decT ?_ ?_); (focus omega); conv => whnf)
    | ((refine if_decF ?_ ?_); (focus omega); conv => whnf)
    | ((refine if_ndecT ?_ ?_); (focus omega); conv => whnf)
    | ((refine if_ndecF ?_ ?_); (focus omega); conv => whnf)
    | ((refine if_dec (fun h => ?_) (fun h => ?_)); all_goals (conv => whnf))
    | ((refine if_ndec (fun h => ?_) (fun h => ?_)); all_goals (conv => whnf))
    | ((refine if_cond (fun h => ?_) (fun h => ?_)); all_goals (conv => whnf))
    | ((with_reducible apply_assumption -symm -exfalso)))
    refine ⟨_, rfl, ?_⟩
    refine r_block ?_
    refine Run.open (α := Option Addr × Nat) (A := []) (B := []) (fun z => [.ext 14 (lrA lp { rc with state := .busy }), .blk 2 b [.v (.slice z.1 0 z.2)] 69, .ext 3 (SlA 3 1 z.1 0 z.2 []), .ext 0 A1, .ext 0 A]) (fun w S h => BxA.open (X := [_]) (Y := [_, _]) h) ?_
    rintro ⟨a, cap⟩
    dsimp only
    repeat' (first
    | ((with_reducible refine r_seq (fun KS hS => ?_)))
    | ((with_reducible refine r_region ?_); conv => whnf)
    | ((with_reducible refine r_cond (fun KA hA KB hB => ?_)); conv => whnf)
    | ((with_reducible refine hS _ _ ?_); clear hS KS)
    | ((with_reducible refine hA _ ?_); clear hA KA)
    | ((with_reducible refine hB _ ?_); clear hB KB)
    | ((with_reducible refine r_block ?_))
    | ((with_reducible refine r_ret ?_); conv => whnf)
    | ((with_reducible refine r_skip ?_); conv => whnf)
    | ((with_reducible refine r_exit ?_); conv => whnf)
    | ((with_reducible refine WrapK.i64 ?_ ?_); (focus omega); conv => whnf)
    | ((with_reducible refine And.intro rfl ?_); conv => whnf)
    | ((with_reducible intro b); conv => whnf)
    | (refine OpK.app (k := 1) rfl rfl rfl rfl rfl rfl rfl rfl (by repeat (first | with_reducible apply At.head | apply At.tail)) (SrcK.slc rfl rfl (by repeat (first | constructor | apply List.Mem.tail)) (Nat.le_refl _) rfl) (by show (0 + 1) * (8 + 1) ≤ 140737488355328; omega) (fun a' cap' => ?_); conv => whnf)
    | ((with_reducible apply OpK.more); (focus refine sok); (conv => whnf); fail_if_success guard_target =ₛ False)
    | ((with_reducible refine InAt.mk (fun K' hK => ?_)); conv => whnf)
    | ((with_reducible refine AnyAt.mk (fun K' hK => ?_)); conv => whnf)
    | ((with_reducible refine hK _ ?_); clear hK K'; conv => whnf)
    | ((with_reducible refine hK _ _ ?_); clear hK K'; conv => whnf)
    | ((refine And.intro ?_ ?_); all_goals (conv => whnf))
    | (apply r_quiet; refine mixed; kernel_rfl; kernel_rfl; kernel_rfl; conv => whnf)
    | ((refine if_t ?_ ?_); (focus decide); conv => whnf)
    | ((refine if_f ?_ ?_); (focus decide); conv => whnf)
    | ((refine if_decT ?_ ?_); (focus omega); conv => whnf)
    | ((refine if_decF ?_ ?_); (focus omega); conv => whnf)
    | ((refine if_ndecT ?_ ?_); (focus omega); conv => whnf)
    | ((refine if_ndecF ?_ ?_); (focus omega); conv => whnf)
    | ((refine if_dec (fun h => ?_) (fun h => ?_)); all_goals (conv => whnf))
    | ((refine if_ndec (fun h => ?_) (fun h => ?_)); all_goals (conv => whnf))
    | ((refine if_cond (fun h => ?_) (fun h => ?_)); all_goals (conv => whnf))
    | ((with_reducible apply_assumption -symm -exfalso)))
    refine ⟨HSub.drop (HSub.ext (fun _ _ h => h) (HSub.app2 (A' := [_]) (A := [_, _]) BxA.close (HSub.refl _)))⟩
  · refine hS _ _ ?_
    clear hS KS
    refine Run.open (α := Option Addr × Nat) (A := []) (B := []) (fun z => [.blk 1 bx [.v (.map (some m))] 79, .ext 2 (MpA m [En k v b0] clk), .blk 2 b [.v (.slice z.1 1 z.2)] 69, .ext 3 (SlA 3 1 z.1 1 z.2 [.int .i64 k]), .ext 0 A1, .ext 0 A]) (fun w S h => BxA.open (X := [_, _]) (Y := [_, _]) h) ?_
    rintro ⟨a, cap⟩
    dsimp only
    repeat' (first
    | ((with_reducible refine r_seq (fun KS hS => ?_)))
    | ((with_reducible refine r_region ?_); conv => whnf)
    | ((with_reducible refine r_cond (fun KA hA KB hB => ?_)); conv => whnf)
    | ((with_reducible refine hS _ _ ?_); clear hS KS)
    | ((with_reducible refine hA _ ?_); clear hA KA)
    | ((with_reducible refine hB _ ?_); clear hB KB)
    | ((with_reducible refine r_block ?_))
    | ((with_reducible refine r_ret ?_); conv => whnf)
    | ((with_reducible refine r_skip ?_); conv => whnf)
    | ((with_reducible refine r_exit ?_); conv => whnf)
    | ((with_reducible refine WrapK.i64 ?_ ?_); (focus omega); conv => whnf)
    | ((with_reducible refine And.intro rfl ?_); conv => whnf)
    | ((with_reducible intro b); conv => whnf)
    | (refine CallK.pu (fun w => sort105 w) ?_; conv => whnf)
    | ((with_reducible apply OpK.more); (focus refine sok); (conv => whnf); fail_if_success guard_target =ₛ False)
    | ((with_reducible refine InAt.mk (fun K' hK => ?_)); conv => whnf)
    | ((with_reducible refine AnyAt.mk (fun K' hK => ?_)); conv => whnf)
    | ((with_reducible refine hK _ ?_); clear hK K'; conv => whnf)
    | ((with_reducible refine hK _ _ ?_); clear hK K'; conv => whnf)
    | ((refine And.intro ?_ ?_); all_goals (conv => whnf))
    | (apply r_quiet; refine mixed; kernel_rfl; kernel_rfl; kernel_rfl; conv => whnf)
    | ((refine if_t ?_ ?_); (focus decide); conv => whnf)
    | ((refine if_f ?_ ?_); (focus decide); conv => whnf)
    | ((refine if_decT ?_ ?_); (focus omega); conv => whnf)
    | ((refine if_decF ?_ ?_); (focus omega); conv => whnf)
    | ((refine if_ndecT ?_ ?_); (focus omega); conv => whnf)
    | ((refine if_ndecF ?_ ?_); (focus omega); conv => whnf)
    | ((refine if_dec (fun h => ?_) (fun h => ?_)); all_goals (conv => whnf))
    | ((refine if_ndec (fun h => ?_) (fun h => ?_)); all_goals (conv => whnf))
    | ((refine if_cond (fun h => ?_) (fun h => ?_)); all_goals (conv => whnf))
    | ((with_reducible apply_assumption -symm -exfalso)))
    exact FinK.frZL (a, cap) rfl (by dsimp only; refine SelI.spec ?_; repeat (first | apply SelI.nil | refine SelI.blk (by repeat (first | with_reducible apply Rm.head | apply Rm.tail)) ?_ | refine SelI.ext (by repeat (first | with_reducible apply Rm.head | apply Rm.tail)) ?_))


end Go.Proofs.YtbgnoibellfojaaGreatDoor

namespace Go.Proofs.YtbgnoibellfojaaGreatDoor
open Go Go.X
set_option maxRecDepth 100000
set_option maxHeartbeats 0

theorem sortedCall142 {nn : Nat} {W : World} {S : Nat → Prop} {r : Option Nat} {H R : List Blk} {nx : K1} {bx m clk b0 i i' j : Nat} {k : Int} {v : Value} (hb : b0 < clk)
    (hs : Sel H [.blk i bx [.v (.map (some m))] 116, .ext j (MpA m [⟨.int .i64 k, v, b0⟩] clk)] R)
    (hn : ∀ z : Option Addr × Nat, nx (.v (.slice z.1 1 z.2)) (.ext 60 (SlA 3 1 z.1 1 z.2 [.int .i64 k]) :: .blk i bx [.v (.map (some m))] 116 :: .ext j (MpA m [⟨.int .i64 k, v, b0⟩] clk) :: R)) : CallK ⟨Tryz.prog, TB, nn, W, S, r, TBok⟩ 63 [.fn 142 [.loc bx i' 0]] H nx :=
  CallK.frL (v := fun z : Option Addr × Nat => .slice z.1 1 z.2) (L0 := [.blk 1 bx [.v (.map (some m))] 116, .ext 2 (MpA m [En k v b0] clk)]) hs (HSub.keep rfl (HSub.ext (fun _ _ h => h) HSub.nil)) (fun _ w _ => sorted142 hb w)
    (M' := fun z => [.ext 60 (SlA 3 1 z.1 1 z.2 [.int .i64 k]), .blk i bx [.v (.map (some m))] 116, .ext j (MpA m [⟨.int .i64 k, v, b0⟩] clk)]) (fun z => HSub.ext (fun _ _ h => h) (HSub.keep rfl (HSub.ext (fun _ _ h => h) HSub.nil))) hn

theorem sortedCall106 {nn : Nat} {W : World} {S : Nat → Prop} {r : Option Nat} {H R : List Blk} {nx : K1} {bx m clk b0 i i' j : Nat} {k : Int} {v : Value} (hb : b0 < clk)
    (hs : Sel H [.blk i bx [.v (.map (some m))] 79, .ext j (MpA m [⟨.int .i64 k, v, b0⟩] clk)] R)
    (hn : ∀ z : Option Addr × Nat, nx (.v (.slice z.1 1 z.2)) (.ext 60 (SlA 3 1 z.1 1 z.2 [.int .i64 k]) :: .blk i bx [.v (.map (some m))] 79 :: .ext j (MpA m [⟨.int .i64 k, v, b0⟩] clk) :: R)) : CallK ⟨Tryz.prog, TB, nn, W, S, r, TBok⟩ 63 [.fn 106 [.loc bx i' 0]] H nx :=
  CallK.frL (v := fun z : Option Addr × Nat => .slice z.1 1 z.2) (L0 := [.blk 1 bx [.v (.map (some m))] 79, .ext 2 (MpA m [En k v b0] clk)]) hs (HSub.keep rfl (HSub.ext (fun _ _ h => h) HSub.nil)) (fun _ w _ => sorted106 hb w)
    (M' := fun z => [.ext 60 (SlA 3 1 z.1 1 z.2 [.int .i64 k]), .blk i bx [.v (.map (some m))] 79, .ext j (MpA m [⟨.int .i64 k, v, b0⟩] clk)]) (fun z => HSub.ext (fun _ _ h => h) (HSub.keep rfl (HSub.ext (fun _ _ h => h) HSub.nil))) hn

def wv (a l : Int) : Value := .agg #[.int .i64 a, .int .i64 l]
theorem i1 (k : Int) : (List.drop ((0 : Int).toNat * 1) [Value.int .i64 k]).take 1 = denL [.v (.int .i64 k)] := rfl

theorem dueFirst100 {num n gs tk : Int} {iv : Value} {d mp th bth bd clk b0 : Nat} {al ll : Int}  (X : Nat → Ass) (HH : Nat → List Blk) (h0 : HH 0 = [.blk 3 d (DC n gs tk mp) 81, .ext 4 (MpA mp [] clk), .ext 5 (MpA th [⟨.int .i64 num, iv, 0⟩] 1), .ext 9 (X 0)]) (A0 : Ass) (yv : Value) (hy : YS Tryz.prog yv [.int .i64 num, wv 0 0] (AssL (.ext 100 A0 :: HH 0)) (AssL (.ext 100 A0 :: HH 1))) (w : World) :
    Fr Tryz.prog 100 (yv :: denL [.loc bth 1 0, .loc bd 2 0]).toArray w (AssL (.ext 0 (AssL (.ext 100 A0 :: HH 0)) :: [.blk 1 bth [.v (.map (some th))] 116, .blk 2 bd [.loc d 3 0] 32])) (.tuple #[]) (AssL (.ext 0 (AssL (.ext 100 A0 :: HH 1)) :: [.blk 1 bth [.v (.map (some th))] 116, .blk 2 bd [.loc d 3 0] 32])) := by
  rw [h0] at hy ⊢
  show Fr Tryz.prog 100 (denL [.v yv, .loc bth 1 0, .loc bd 2 0]).toArray w _ _ _
  refine enter_fr TBok (H := .ext 0 (AssL (.ext 100 A0 :: [.blk 3 d (DC n gs tk mp) 81, .ext 4 (MpA mp [] clk), .ext 5 (MpA th [⟨.int .i64 num, iv, 0⟩] 1), .ext 9 (X 0)])) :: [.blk 1 bth [.v (.map (some th))] 116, .blk 2 bd [.loc d 3 0] 32]) all_foot Tryz.func100 rfl rfl Tryz.ntmps100 [.v yv, .loc bth 1 0, .loc bd 2 0] rfl rfl ?_
  intro S
  refine Run.unj ?_
  unfold DC
  conv => whnf
  repeat' (first
    | ((with_reducible refine r_seq (fun KS hS => ?_)))
    | ((with_reducible refine r_region ?_); conv => whnf)
    | ((with_reducible refine r_cond (fun KA hA KB hB => ?_)); conv => whnf)
    | ((with_reducible refine hS _ _ ?_); clear hS KS)
    | ((with_reducible refine hA _ ?_); clear hA KA)
    | ((with_reducible refine hB _ ?_); clear hB KB)
    | ((with_reducible refine r_block ?_))
    | ((with_reducible refine r_ret ?_); conv => whnf)
    | ((with_reducible refine r_skip ?_); conv => whnf)
    | ((with_reducible refine r_exit ?_); conv => whnf)
    | ((with_reducible refine WrapK.i64 ?_ ?_); (focus omega); conv => whnf)
    | ((with_reducible refine And.intro rfl ?_); conv => whnf)
    | ((with_reducible intro b); conv => whnf)
    | (apply in101; refine Tryz.ntmps101; rfl; rfl; rfl; intro A; conv => whnf)
    | (refine sortedCall142 (show (0 : Nat) < 1 from Nat.zero_lt_one) (Sel.cons (by repeat (first | with_reducible apply Rm.head | apply Rm.tail)) (Sel.cons (by repeat (first | with_reducible apply Rm.head | apply Rm.tail)) Sel.nil)) (fun z => ?_); conv => whnf)
    | (refine OpK.idx (k := 1) rfl rfl rfl rfl rfl rfl rfl (Sees.ext (by repeat (first | with_reducible apply At.head | apply At.tail))) (by omega) (by omega) (i1 _) (fun b off hp => ?_); conv => whnf)
    | (refine OpK.ldp rfl rfl hp (List.cons_ne_nil _ _) ?_; conv => whnf)
    | (refine OpK.lkE rfl rfl rfl rfl rfl rfl rfl rfl (by repeat (first | with_reducible apply At.head | apply At.tail)) ?_; conv => whnf)
    | (refine CallV.weak (H' := .ext 0 (AssL (.ext 100 A0 :: [.blk 3 d [.v (.int .i64 n), .v (.int .i64 gs), .v (.int .i64 tk), .v (.map (some mp))] 81, .ext 4 (MpA mp [] clk), .ext 5 (MpA th [⟨.int .i64 num, iv, 0⟩] 1), .ext 9 (X 0)])) :: [.blk 1 bth [.v (.map (some th))] 116, .blk 2 bd [.loc d 3 0] 32]) (HSub.trans ((HSub.join (i := 0)).app2 (A := [_, _, _, _, _]) (HSub.refl _)) (by (try dsimp only [List.cons_append, List.nil_append]); refine SelI.spec ?_; repeat (first | apply SelI.nil | refine SelI.blk (by repeat (first | with_reducible apply Rm.head | apply Rm.tail)) ?_ | refine SelI.ext (by repeat (first | with_reducible apply Rm.head | apply Rm.tail)) ?_))) ?_; refine CallV.fr .head (v := .bool true) (y := .ext 0 (AssL (.ext 100 A0 :: HH 1))) (fun w S h1 h2 => hy w S h1 h2) ?_; conv => whnf)
    | ((with_reducible apply OpK.more); (focus refine sok); (conv => whnf); fail_if_success guard_target =ₛ False)
    | ((with_reducible refine Rounds.step (fun KL hL => ?_)))
    | ((with_reducible refine hL _ _ ?_); clear hL KL)
    | ((with_reducible refine r_rounds 100 ?_))
    | ((with_reducible refine InAt.mk (fun K' hK => ?_)); conv => whnf)
    | ((with_reducible refine AnyAt.mk (fun K' hK => ?_)); conv => whnf)
    | ((with_reducible refine hK _ ?_); clear hK K'; conv => whnf)
    | ((with_reducible refine hK _ _ ?_); clear hK K'; conv => whnf)
    | ((refine And.intro ?_ ?_); all_goals (conv => whnf))
    | (apply r_quiet; refine mixed; kernel_rfl; kernel_rfl; kernel_rfl; conv => whnf)
    | ((refine if_t ?_ ?_); (focus decide); conv => whnf)
    | ((refine if_f ?_ ?_); (focus decide); conv => whnf)
    | ((refine if_decT ?_ ?_); (focus omega); conv => whnf)
    | ((refine if_decF ?_ ?_); (focus omega); conv => whnf)
    | ((refine if_ndecT ?_ ?_); (focus omega); conv => whnf)
    | ((refine if_ndecF ?_ ?_); (focus omega); conv => whnf)
    | ((refine if_dec (fun h => ?_) (fun h => ?_)); all_goals (conv => whnf))
    | ((refine if_ndec (fun h => ?_) (fun h => ?_)); all_goals (conv => whnf))
    | ((refine if_cond (fun h => ?_) (fun h => ?_)); all_goals (conv => whnf))
    | ((with_reducible apply_assumption -symm -exfalso)))
  exact FinK.frL rfl (by (try dsimp only [List.cons_append, List.nil_append]); refine SelI.spec ?_; repeat (first | apply SelI.nil | refine SelI.blk (by repeat (first | with_reducible apply Rm.head | apply Rm.tail)) ?_ | refine SelI.ext (by repeat (first | with_reducible apply Rm.head | apply Rm.tail)) ?_))

theorem dueNot100 {num n gs tk : Int} {iv : Value} {d mp th bth bd clk b0 : Nat} {al ll : Int} (hw : tk - ll < 4) (hr : -1000 ≤ tk - ll) (htk : 0 ≤ tk ∧ tk ≤ 1000000) (X : Nat → Ass) (HH : Nat → List Blk) (h0 : HH 0 = [.blk 3 d (DC n gs tk mp) 81, .ext 4 (MpA mp [⟨.int .i64 num, .agg #[.int .i64 al, .int .i64 ll], b0⟩] clk), .ext 5 (MpA th [⟨.int .i64 num, iv, 0⟩] 1), .ext 9 (X 0)]) (A0 : Ass) (yv : Value)  (w : World) :
    Fr Tryz.prog 100 (yv :: denL [.loc bth 1 0, .loc bd 2 0]).toArray w (AssL (.ext 0 (AssL (.ext 100 A0 :: HH 0)) :: [.blk 1 bth [.v (.map (some th))] 116, .blk 2 bd [.loc d 3 0] 32])) (.tuple #[]) (AssL (.ext 0 (AssL (.ext 100 A0 :: HH 0)) :: [.blk 1 bth [.v (.map (some th))] 116, .blk 2 bd [.loc d 3 0] 32])) := by
  rw [h0]
  show Fr Tryz.prog 100 (denL [.v yv, .loc bth 1 0, .loc bd 2 0]).toArray w _ _ _
  refine enter_fr TBok (H := .ext 0 (AssL (.ext 100 A0 :: [.blk 3 d (DC n gs tk mp) 81, .ext 4 (MpA mp [⟨.int .i64 num, .agg #[.int .i64 al, .int .i64 ll], b0⟩] clk), .ext 5 (MpA th [⟨.int .i64 num, iv, 0⟩] 1), .ext 9 (X 0)])) :: [.blk 1 bth [.v (.map (some th))] 116, .blk 2 bd [.loc d 3 0] 32]) all_foot Tryz.func100 rfl rfl Tryz.ntmps100 [.v yv, .loc bth 1 0, .loc bd 2 0] rfl rfl ?_
  intro S
  refine Run.unj ?_
  unfold DC
  conv => whnf
  repeat' (first
    | ((with_reducible refine r_seq (fun KS hS => ?_)))
    | ((with_reducible refine r_region ?_); conv => whnf)
    | ((with_reducible refine r_cond (fun KA hA KB hB => ?_)); conv => whnf)
    | ((with_reducible refine hS _ _ ?_); clear hS KS)
    | ((with_reducible refine hA _ ?_); clear hA KA)
    | ((with_reducible refine hB _ ?_); clear hB KB)
    | ((with_reducible refine r_block ?_))
    | ((with_reducible refine r_ret ?_); conv => whnf)
    | ((with_reducible refine r_skip ?_); conv => whnf)
    | ((with_reducible refine r_exit ?_); conv => whnf)
    | ((with_reducible refine WrapK.i64 ?_ ?_); (focus omega); conv => whnf)
    | ((with_reducible refine And.intro rfl ?_); conv => whnf)
    | ((with_reducible intro b); conv => whnf)
    | (apply in101; refine Tryz.ntmps101; rfl; rfl; rfl; intro A; conv => whnf)
    | (refine sortedCall142 (show (0 : Nat) < 1 from Nat.zero_lt_one) (Sel.cons (by repeat (first | with_reducible apply Rm.head | apply Rm.tail)) (Sel.cons (by repeat (first | with_reducible apply Rm.head | apply Rm.tail)) Sel.nil)) (fun z => ?_); conv => whnf)
    | (refine OpK.idx (k := 1) rfl rfl rfl rfl rfl rfl rfl (Sees.ext (by repeat (first | with_reducible apply At.head | apply At.tail))) (by omega) (by omega) (i1 _) (fun b off hp => ?_); conv => whnf)
    | (refine OpK.ldp rfl rfl hp (List.cons_ne_nil _ _) ?_; conv => whnf)
    | (refine OpK.lk1 rfl rfl rfl rfl rfl rfl rfl (by repeat (first | with_reducible apply At.head | apply At.tail)) ?_; conv => whnf)
    | ((with_reducible apply OpK.more); (focus refine sok); (conv => whnf); fail_if_success guard_target =ₛ False)
    | ((with_reducible refine Rounds.step (fun KL hL => ?_)))
    | ((with_reducible refine hL _ _ ?_); clear hL KL)
    | ((with_reducible refine r_rounds 100 ?_))
    | ((with_reducible refine InAt.mk (fun K' hK => ?_)); conv => whnf)
    | ((with_reducible refine AnyAt.mk (fun K' hK => ?_)); conv => whnf)
    | ((with_reducible refine hK _ ?_); clear hK K'; conv => whnf)
    | ((with_reducible refine hK _ _ ?_); clear hK K'; conv => whnf)
    | ((refine And.intro ?_ ?_); all_goals (conv => whnf))
    | (apply r_quiet; refine mixed; kernel_rfl; kernel_rfl; kernel_rfl; conv => whnf)
    | ((refine if_t ?_ ?_); (focus decide); conv => whnf)
    | ((refine if_f ?_ ?_); (focus decide); conv => whnf)
    | ((refine if_decT ?_ ?_); (focus omega); conv => whnf)
    | ((refine if_decF ?_ ?_); (focus omega); conv => whnf)
    | ((refine if_ndecT ?_ ?_); (focus omega); conv => whnf)
    | ((refine if_ndecF ?_ ?_); (focus omega); conv => whnf)
    | ((refine if_dec (fun h => ?_) (fun h => ?_)); all_goals (conv => whnf))
    | ((refine if_ndec (fun h => ?_) (fun h => ?_)); all_goals (conv => whnf))
    | ((refine if_cond (fun h => ?_) (fun h => ?_)); all_goals (conv => whnf))
    | ((with_reducible apply_assumption -symm -exfalso)))
  exact FinK.frL rfl (HSub.trans ((HSub.join (i := 0)).app2 (A := [.ext 100 A0, .blk 3 d [.v (.int .i64 n), .v (.int .i64 gs), .v (.int .i64 tk), .v (.map (some mp))] 81, .ext 4 (MpA mp [⟨.int .i64 num, .agg #[.int .i64 al, .int .i64 ll], b0⟩] clk), .ext 5 (MpA th [⟨.int .i64 num, iv, 0⟩] 1), .ext 9 (X 0)]) (HSub.refl _)) (by (try dsimp only [List.cons_append, List.nil_append]); refine SelI.spec ?_; repeat (first | apply SelI.nil | refine SelI.blk (by repeat (first | with_reducible apply Rm.head | apply Rm.tail)) ?_ | refine SelI.ext (by repeat (first | with_reducible apply Rm.head | apply Rm.tail)) ?_)))

theorem dueAgain100 {num n gs tk : Int} {iv : Value} {d mp th bth bd clk b0 : Nat} {al ll : Int} (hw : 4 ≤ tk - ll) (hr : -1000 ≤ ll) (htk : 0 ≤ tk ∧ tk ≤ 1000000) (X : Nat → Ass) (HH : Nat → List Blk) (h0 : HH 0 = [.blk 3 d (DC n gs tk mp) 81, .ext 4 (MpA mp [⟨.int .i64 num, .agg #[.int .i64 al, .int .i64 ll], b0⟩] clk), .ext 5 (MpA th [⟨.int .i64 num, iv, 0⟩] 1), .ext 9 (X 0)]) (A0 : Ass) (yv : Value) (hy : YS Tryz.prog yv [.int .i64 num, .agg #[.int .i64 al, .int .i64 ll]] (AssL (.ext 100 A0 :: HH 0)) (AssL (.ext 100 A0 :: HH 1))) (w : World) :
    Fr Tryz.prog 100 (yv :: denL [.loc bth 1 0, .loc bd 2 0]).toArray w (AssL (.ext 0 (AssL (.ext 100 A0 :: HH 0)) :: [.blk 1 bth [.v (.map (some th))] 116, .blk 2 bd [.loc d 3 0] 32])) (.tuple #[]) (AssL (.ext 0 (AssL (.ext 100 A0 :: HH 1)) :: [.blk 1 bth [.v (.map (some th))] 116, .blk 2 bd [.loc d 3 0] 32])) := by
  rw [h0] at hy ⊢
  show Fr Tryz.prog 100 (denL [.v yv, .loc bth 1 0, .loc bd 2 0]).toArray w _ _ _
  refine enter_fr TBok (H := .ext 0 (AssL (.ext 100 A0 :: [.blk 3 d (DC n gs tk mp) 81, .ext 4 (MpA mp [⟨.int .i64 num, .agg #[.int .i64 al, .int .i64 ll], b0⟩] clk), .ext 5 (MpA th [⟨.int .i64 num, iv, 0⟩] 1), .ext 9 (X 0)])) :: [.blk 1 bth [.v (.map (some th))] 116, .blk 2 bd [.loc d 3 0] 32]) all_foot Tryz.func100 rfl rfl Tryz.ntmps100 [.v yv, .loc bth 1 0, .loc bd 2 0] rfl rfl ?_
  intro S
  refine Run.unj ?_
  unfold DC
  conv => whnf
  repeat' (first
    | ((with_reducible refine r_seq (fun KS hS => ?_)))
    | ((with_reducible refine r_region ?_); conv => whnf)
    | ((with_reducible refine r_cond (fun KA hA KB hB => ?_)); conv => whnf)
    | ((with_reducible refine hS _ _ ?_); clear hS KS)
    | ((with_reducible refine hA _ ?_); clear hA KA)
    | ((with_reducible refine hB _ ?_); clear hB KB)
    | ((with_reducible refine r_block ?_))
    | ((with_reducible refine r_ret ?_); conv => whnf)
    | ((with_reducible refine r_skip ?_); conv => whnf)
    | ((with_reducible refine r_exit ?_); conv => whnf)
    | ((with_reducible refine WrapK.i64 ?_ ?_); (focus omega); conv => whnf)
    | ((with_reducible refine And.intro rfl ?_); conv => whnf)
    | ((with_reducible intro b); conv => whnf)
    | (apply in101; refine Tryz.ntmps101; rfl; rfl; rfl; intro A; conv => whnf)
    | (refine sortedCall142 (show (0 : Nat) < 1 from Nat.zero_lt_one) (Sel.cons (by repeat (first | with_reducible apply Rm.head | apply Rm.tail)) (Sel.cons (by repeat (first | with_reducible apply Rm.head | apply Rm.tail)) Sel.nil)) (fun z => ?_); conv => whnf)
    | (refine OpK.idx (k := 1) rfl rfl rfl rfl rfl rfl rfl (Sees.ext (by repeat (first | with_reducible apply At.head | apply At.tail))) (by omega) (by omega) (i1 _) (fun b off hp => ?_); conv => whnf)
    | (refine OpK.ldp rfl rfl hp (List.cons_ne_nil _ _) ?_; conv => whnf)
    | (refine OpK.lk1 rfl rfl rfl rfl rfl rfl rfl (by repeat (first | with_reducible apply At.head | apply At.tail)) ?_; conv => whnf)
    | (refine CallV.weak (H' := .ext 0 (AssL (.ext 100 A0 :: [.blk 3 d [.v (.int .i64 n), .v (.int .i64 gs), .v (.int .i64 tk), .v (.map (some mp))] 81, .ext 4 (MpA mp [⟨.int .i64 num, .agg #[.int .i64 al, .int .i64 ll], b0⟩] clk), .ext 5 (MpA th [⟨.int .i64 num, iv, 0⟩] 1), .ext 9 (X 0)])) :: [.blk 1 bth [.v (.map (some th))] 116, .blk 2 bd [.loc d 3 0] 32]) (HSub.trans ((HSub.join (i := 0)).app2 (A := [_, _, _, _, _]) (HSub.refl _)) (by (try dsimp only [List.cons_append, List.nil_append]); refine SelI.spec ?_; repeat (first | apply SelI.nil | refine SelI.blk (by repeat (first | with_reducible apply Rm.head | apply Rm.tail)) ?_ | refine SelI.ext (by repeat (first | with_reducible apply Rm.head | apply Rm.tail)) ?_))) ?_; refine CallV.fr .head (v := .bool true) (y := .ext 0 (AssL (.ext 100 A0 :: HH 1))) (fun w S h1 h2 => hy w S h1 h2) ?_; conv => whnf)
    | ((with_reducible apply OpK.more); (focus refine sok); (conv => whnf); fail_if_success guard_target =ₛ False)
    | ((with_reducible refine Rounds.step (fun KL hL => ?_)))
    | ((with_reducible refine hL _ _ ?_); clear hL KL)
    | ((with_reducible refine r_rounds 100 ?_))
    | ((with_reducible refine InAt.mk (fun K' hK => ?_)); conv => whnf)
    | ((with_reducible refine AnyAt.mk (fun K' hK => ?_)); conv => whnf)
    | ((with_reducible refine hK _ ?_); clear hK K'; conv => whnf)
    | ((with_reducible refine hK _ _ ?_); clear hK K'; conv => whnf)
    | ((refine And.intro ?_ ?_); all_goals (conv => whnf))
    | (apply r_quiet; refine mixed; kernel_rfl; kernel_rfl; kernel_rfl; conv => whnf)
    | ((refine if_t ?_ ?_); (focus decide); conv => whnf)
    | ((refine if_f ?_ ?_); (focus decide); conv => whnf)
    | ((refine if_decT ?_ ?_); (focus omega); conv => whnf)
    | ((refine if_decF ?_ ?_); (focus omega); conv => whnf)
    | ((refine if_ndecT ?_ ?_); (focus omega); conv => whnf)
    | ((refine if_ndecF ?_ ?_); (focus omega); conv => whnf)
    | ((refine if_dec (fun h => ?_) (fun h => ?_)); all_goals (conv => whnf))
    | ((refine if_ndec (fun h => ?_) (fun h => ?_)); all_goals (conv => whnf))
    | ((refine if_cond (fun h => ?_) (fun h => ?_)); all_goals (conv => whnf))
    | ((with_reducible apply_assumption -symm -exfalso)))
  exact FinK.frL rfl (by (try dsimp only [List.cons_append, List.nil_append]); refine SelI.spec ?_; repeat (first | apply SelI.nil | refine SelI.blk (by repeat (first | with_reducible apply Rm.head | apply Rm.tail)) ?_ | refine SelI.ext (by repeat (first | with_reducible apply Rm.head | apply Rm.tail)) ?_))

end Go.Proofs.YtbgnoibellfojaaGreatDoor

namespace Go.Proofs.YtbgnoibellfojaaGreatDoor
open Go Go.X
set_option maxRecDepth 100000
set_option maxHeartbeats 0
theorem effOk119 {s t p : Int} (h : EffOk s t p) (w : World) : Pu Tryz.prog 119 #[.agg #[.int .i64 s, .int .i64 t, .int .i64 p]] w (.int .i64 0) := by
  obtain ⟨h1, h2, h3, h4, h5, h6⟩ := h
  refine enter_sound TBok Tryz.func119 rfl rfl Tryz.ntmps119 [.agg [.v (.int .i64 s), .v (.int .i64 t), .v (.int .i64 p)]] (Kn.start w noS) rfl rfl ?_
  conv => whnf
  repeat' (first
    | ((with_reducible refine r_seq (fun KS hS => ?_)))
    | ((with_reducible refine r_region ?_); conv => whnf)
    | ((with_reducible refine r_cond (fun KA hA KB hB => ?_)); conv => whnf)
    | ((with_reducible refine hS _ _ ?_); clear hS KS)
    | ((with_reducible refine hA _ ?_); clear hA KA)
    | ((with_reducible refine hB _ ?_); clear hB KB)
    | ((with_reducible refine r_block ?_))
    | ((with_reducible refine r_ret ?_); conv => whnf)
    | ((with_reducible refine r_skip ?_); conv => whnf)
    | ((with_reducible refine r_exit ?_); conv => whnf)
    | ((with_reducible refine WrapK.i64 ?_ ?_); (focus omega); conv => whnf)
    | ((with_reducible refine And.intro rfl ?_); conv => whnf)
    | ((with_reducible intro b); conv => whnf)
    | ((with_reducible apply OpK.more); (focus refine sok); (conv => whnf); fail_if_success guard_target =ₛ False)
    | ((with_reducible refine InAt.mk (fun K' hK => ?_)); conv => whnf)
    | ((with_reducible refine AnyAt.mk (fun K' hK => ?_)); conv => whnf)
    | ((with_reducible refine hK _ ?_); clear hK K'; conv => whnf)
    | ((with_reducible refine hK _ _ ?_); clear hK K'; conv => whnf)
    | ((refine And.intro ?_ ?_); all_goals (conv => whnf))
    | (apply r_quiet; refine mixed; kernel_rfl; kernel_rfl; kernel_rfl; conv => whnf)
    | ((refine if_t ?_ ?_); (focus decide); conv => whnf)
    | ((refine if_f ?_ ?_); (focus decide); conv => whnf)
    | ((refine if_decT ?_ ?_); (focus omega); conv => whnf)
    | ((refine if_decF ?_ ?_); (focus omega); conv => whnf)
    | ((refine if_ndecT ?_ ?_); (focus omega); conv => whnf)
    | ((refine if_ndecF ?_ ?_); (focus omega); conv => whnf)
    | ((refine if_dec (fun h => ?_) (fun h => ?_)); all_goals (conv => whnf))
    | ((refine if_ndec (fun h => ?_) (fun h => ?_)); all_goals (conv => whnf))
    | ((refine if_cond (fun h => ?_) (fun h => ?_)); all_goals (conv => whnf))
    | ((with_reducible apply_assumption -symm -exfalso)))
  exact FinK.pu rfl
theorem itemOk74 {s t p m : Int} {i : Bool} {g : Int} (h : ItemOk s t p m i g) (w : World) : Pu Tryz.prog 74 #[.agg #[.int .i64 s, .int .i64 t, .int .i64 p, .int .i64 m, .bool i, .int .i64 g]] w (.int .i64 0) := by
  obtain ⟨h1, h2, h3⟩ := h
  refine enter_sound TBok Tryz.func74 rfl rfl Tryz.ntmps74 [.agg [.v (.int .i64 s), .v (.int .i64 t), .v (.int .i64 p), .v (.int .i64 m), .v (.bool i), .v (.int .i64 g)]] (Kn.start w noS) rfl rfl ?_
  rcases h3 with ⟨rfl, rfl, h3⟩ | ⟨h3, h4, rfl, rfl, rfl⟩
  · conv => whnf
    repeat' (first
    | ((with_reducible refine r_seq (fun KS hS => ?_)))
    | ((with_reducible refine r_region ?_); conv => whnf)
    | ((with_reducible refine r_cond (fun KA hA KB hB => ?_)); conv => whnf)
    | ((with_reducible refine hS _ _ ?_); clear hS KS)
    | ((with_reducible refine hA _ ?_); clear hA KA)
    | ((with_reducible refine hB _ ?_); clear hB KB)
    | ((with_reducible refine r_block ?_))
    | ((with_reducible refine r_ret ?_); conv => whnf)
    | ((with_reducible refine r_skip ?_); conv => whnf)
    | ((with_reducible refine r_exit ?_); conv => whnf)
    | ((with_reducible refine WrapK.i64 ?_ ?_); (focus omega); conv => whnf)
    | ((with_reducible refine And.intro rfl ?_); conv => whnf)
    | ((with_reducible intro b); conv => whnf)
    | (refine CallK.pu (fun w => effOk119 h3 w) ?_; conv => whnf)
    | ((with_reducible apply OpK.more); (focus refine sok); (conv => whnf); fail_if_success guard_target =ₛ False)
    | ((with_reducible refine InAt.mk (fun K' hK => ?_)); conv => whnf)
    | ((with_reducible refine AnyAt.mk (fun K' hK => ?_)); conv => whnf)
    | ((with_reducible refine hK _ ?_); clear hK K'; conv => whnf)
    | ((with_reducible refine hK _ _ ?_); clear hK K'; conv => whnf)
    | ((refine And.intro ?_ ?_); all_goals (conv => whnf))
    | (apply r_quiet; refine mixed; kernel_rfl; kernel_rfl; kernel_rfl; conv => whnf)
    | ((refine if_t ?_ ?_); (focus decide); conv => whnf)
    | ((refine if_f ?_ ?_); (focus decide); conv => whnf)
    | ((refine if_decT ?_ ?_); (focus omega); conv => whnf)
    | ((refine if_decF ?_ ?_); (focus omega); conv => whnf)
    | ((refine if_ndecT ?_ ?_); (focus omega); conv => whnf)
    | ((refine if_ndecF ?_ ?_); (focus omega); conv => whnf)
    | ((refine if_dec (fun h => ?_) (fun h => ?_)); all_goals (conv => whnf))
    | ((refine if_ndec (fun h => ?_) (fun h => ?_)); all_goals (conv => whnf))
    | ((refine if_cond (fun h => ?_) (fun h => ?_)); all_goals (conv => whnf))
    | ((with_reducible apply_assumption -symm -exfalso)))
    exact FinK.pu rfl
  · conv => whnf
    repeat' (first
    | ((with_reducible refine r_seq (fun KS hS => ?_)))
    | ((with_reducible refine r_region ?_); conv => whnf)
    | ((with_reducible refine r_cond (fun KA hA KB hB => ?_)); conv => whnf)
    | ((with_reducible refine hS _ _ ?_); clear hS KS)
    | ((with_reducible refine hA _ ?_); clear hA KA)
    | ((with_reducible refine hB _ ?_); clear hB KB)
    | ((with_reducible refine r_block ?_))
    | ((with_reducible refine r_ret ?_); conv => whnf)
    | ((with_reducible refine r_skip ?_); conv => whnf)
    | ((with_reducible refine r_exit ?_); conv => whnf)
    | ((with_reducible refine WrapK.i64 ?_ ?_); (focus omega); conv => whnf)
    | ((with_reducible refine And.intro rfl ?_); conv => whnf)
    | ((with_reducible intro b); conv => whnf)
    | ((with_reducible apply OpK.more); (focus refine sok); (conv => whnf); fail_if_success guard_target =ₛ False)
    | ((with_reducible refine InAt.mk (fun K' hK => ?_)); conv => whnf)
    | ((with_reducible refine AnyAt.mk (fun K' hK => ?_)); conv => whnf)
    | ((with_reducible refine hK _ ?_); clear hK K'; conv => whnf)
    | ((with_reducible refine hK _ _ ?_); clear hK K'; conv => whnf)
    | ((refine And.intro ?_ ?_); all_goals (conv => whnf))
    | (apply r_quiet; refine mixed; kernel_rfl; kernel_rfl; kernel_rfl; conv => whnf)
    | ((refine if_t ?_ ?_); (focus decide); conv => whnf)
    | ((refine if_f ?_ ?_); (focus decide); conv => whnf)
    | ((refine if_decT ?_ ?_); (focus omega); conv => whnf)
    | ((refine if_decF ?_ ?_); (focus omega); conv => whnf)
    | ((refine if_ndecT ?_ ?_); (focus omega); conv => whnf)
    | ((refine if_ndecF ?_ ?_); (focus omega); conv => whnf)
    | ((refine if_dec (fun h => ?_) (fun h => ?_)); all_goals (conv => whnf))
    | ((refine if_ndec (fun h => ?_) (fun h => ?_)); all_goals (conv => whnf))
    | ((refine if_cond (fun h => ?_) (fun h => ?_)); all_goals (conv => whnf))
    | ((with_reducible apply_assumption -symm -exfalso)))
    exact FinK.pu rfl
theorem numOk38 {s t p m : Int} {i : Bool} {g : Int} (h : ItemOk s t p m i g) (w : World) : Pu Tryz.prog 38 #[.agg #[.int .i64 s, .int .i64 t, .int .i64 p, .int .i64 m, .bool i, .int .i64 g]] w (.tuple #[.int .i64 (itemNum s t p m i g), .int .i64 0]) := by
  have h' := h
  obtain ⟨h1, h2, h3⟩ := h
  refine enter_sound TBok Tryz.func38 rfl rfl Tryz.ntmps38 [.agg [.v (.int .i64 s), .v (.int .i64 t), .v (.int .i64 p), .v (.int .i64 m), .v (.bool i), .v (.int .i64 g)]] (Kn.start w noS) rfl rfl ?_
  rcases h3 with ⟨rfl, rfl, h3⟩ | ⟨h3, h4, rfl, rfl, rfl⟩
  · unfold EffOk at h3
    conv => whnf
    repeat' (first
    | ((with_reducible refine r_seq (fun KS hS => ?_)))
    | ((with_reducible refine r_region ?_); conv => whnf)
    | ((with_reducible refine r_cond (fun KA hA KB hB => ?_)); conv => whnf)
    | ((with_reducible refine hS _ _ ?_); clear hS KS)
    | ((with_reducible refine hA _ ?_); clear hA KA)
    | ((with_reducible refine hB _ ?_); clear hB KB)
    | ((with_reducible refine r_block ?_))
    | ((with_reducible refine r_ret ?_); conv => whnf)
    | ((with_reducible refine r_skip ?_); conv => whnf)
    | ((with_reducible refine r_exit ?_); conv => whnf)
    | ((with_reducible refine WrapK.i64 ?_ ?_); (focus omega); conv => whnf)
    | ((with_reducible refine And.intro rfl ?_); conv => whnf)
    | ((with_reducible intro b); conv => whnf)
    | (refine CallK.pu (fun w => itemOk74 h' w) ?_; conv => whnf)
    | ((with_reducible apply OpK.more); (focus refine sok); (conv => whnf); fail_if_success guard_target =ₛ False)
    | ((with_reducible refine InAt.mk (fun K' hK => ?_)); conv => whnf)
    | ((with_reducible refine AnyAt.mk (fun K' hK => ?_)); conv => whnf)
    | ((with_reducible refine hK _ ?_); clear hK K'; conv => whnf)
    | ((with_reducible refine hK _ _ ?_); clear hK K'; conv => whnf)
    | ((refine And.intro ?_ ?_); all_goals (conv => whnf))
    | (apply r_quiet; refine mixed; kernel_rfl; kernel_rfl; kernel_rfl; conv => whnf)
    | ((refine if_t ?_ ?_); (focus decide); conv => whnf)
    | ((refine if_f ?_ ?_); (focus decide); conv => whnf)
    | ((refine if_decT ?_ ?_); (focus omega); conv => whnf)
    | ((refine if_decF ?_ ?_); (focus omega); conv => whnf)
    | ((refine if_ndecT ?_ ?_); (focus omega); conv => whnf)
    | ((refine if_ndecF ?_ ?_); (focus omega); conv => whnf)
    | ((refine if_dec (fun h => ?_) (fun h => ?_)); all_goals (conv => whnf))
    | ((refine if_ndec (fun h => ?_) (fun h => ?_)); all_goals (conv => whnf))
    | ((refine if_cond (fun h => ?_) (fun h => ?_)); all_goals (conv => whnf))
    | ((with_reducible apply_assumption -symm -exfalso)))
    refine FinK.pu ?_
    simp only [den, denL, itemNum, if_pos]
    congr 4
    omega
  · have hm : ¬ m = 0 := by omega
    cases i with
    | false =>
      conv => whnf
      repeat' (first
    | ((with_reducible refine r_seq (fun KS hS => ?_)))
    | ((with_reducible refine r_region ?_); conv => whnf)
    | ((with_reducible refine r_cond (fun KA hA KB hB => ?_)); conv => whnf)
    | ((with_reducible refine hS _ _ ?_); clear hS KS)
    | ((with_reducible refine hA _ ?_); clear hA KA)
    | ((with_reducible refine hB _ ?_); clear hB KB)
    | ((with_reducible refine r_block ?_))
    | ((with_reducible refine r_ret ?_); conv => whnf)
    | ((with_reducible refine r_skip ?_); conv => whnf)
    | ((with_reducible refine r_exit ?_); conv => whnf)
    | ((with_reducible refine WrapK.i64 ?_ ?_); (focus omega); conv => whnf)
    | ((with_reducible refine And.intro rfl ?_); conv => whnf)
    | ((with_reducible intro b); conv => whnf)
    | (refine CallK.pu (fun w => itemOk74 h' w) ?_; conv => whnf)
    | ((with_reducible apply OpK.more); (focus refine sok); (conv => whnf); fail_if_success guard_target =ₛ False)
    | ((with_reducible refine InAt.mk (fun K' hK => ?_)); conv => whnf)
    | ((with_reducible refine AnyAt.mk (fun K' hK => ?_)); conv => whnf)
    | ((with_reducible refine hK _ ?_); clear hK K'; conv => whnf)
    | ((with_reducible refine hK _ _ ?_); clear hK K'; conv => whnf)
    | ((refine And.intro ?_ ?_); all_goals (conv => whnf))
    | (apply r_quiet; refine mixed; kernel_rfl; kernel_rfl; kernel_rfl; conv => whnf)
    | ((refine if_t ?_ ?_); (focus decide); conv => whnf)
    | ((refine if_f ?_ ?_); (focus decide); conv => whnf)
    | ((refine if_decT ?_ ?_); (focus omega); conv => whnf)
    | ((refine if_decF ?_ ?_); (focus omega); conv => whnf)
    | ((refine if_ndecT ?_ ?_); (focus omega); conv => whnf)
    | ((refine if_ndecF ?_ ?_); (focus omega); conv => whnf)
    | ((refine if_dec (fun h => ?_) (fun h => ?_)); all_goals (conv => whnf))
    | ((refine if_ndec (fun h => ?_) (fun h => ?_)); all_goals (conv => whnf))
    | ((refine if_cond (fun h => ?_) (fun h => ?_)); all_goals (conv => whnf))
    | ((with_reducible apply_assumption -symm -exfalso)))
      refine FinK.pu ?_
      simp only [den, denL, itemNum, if_neg hm]
      congr 3
      simp
      try omega
    | true =>
      conv => whnf
      repeat' (first
    | ((with_reducible refine r_seq (fun KS hS => ?_)))
    | ((with_reducible refine r_region ?_); conv => whnf)
    | ((with_reducible refine r_cond (fun KA hA KB hB => ?_)); conv => whnf)
    | ((with_reducible refine hS _ _ ?_); clear hS KS)
    | ((with_reducible refine hA _ ?_); clear hA KA)
    | ((with_reducible refine hB _ ?_); clear hB KB)
    | ((with_reducible refine r_block ?_))
    | ((with_reducible refine r_ret ?_); conv => whnf)
    | ((with_reducible refine r_skip ?_); conv => whnf)
    | ((with_reducible refine r_exit ?_); conv => whnf)
    | ((with_reducible refine WrapK.i64 ?_ ?_); (focus omega); conv => whnf)
    | ((with_reducible refine And.intro rfl ?_); conv => whnf)
    | ((with_reducible intro b); conv => whnf)
    | (refine CallK.pu (fun w => itemOk74 h' w) ?_; conv => whnf)
    | ((with_reducible apply OpK.more); (focus refine sok); (conv => whnf); fail_if_success guard_target =ₛ False)
    | ((with_reducible refine InAt.mk (fun K' hK => ?_)); conv => whnf)
    | ((with_reducible refine AnyAt.mk (fun K' hK => ?_)); conv => whnf)
    | ((with_reducible refine hK _ ?_); clear hK K'; conv => whnf)
    | ((with_reducible refine hK _ _ ?_); clear hK K'; conv => whnf)
    | ((refine And.intro ?_ ?_); all_goals (conv => whnf))
    | (apply r_quiet; refine mixed; kernel_rfl; kernel_rfl; kernel_rfl; conv => whnf)
    | ((refine if_t ?_ ?_); (focus decide); conv => whnf)
    | ((refine if_f ?_ ?_); (focus decide); conv => whnf)
    | ((refine if_decT ?_ ?_); (focus omega); conv => whnf)
    | ((refine if_decF ?_ ?_); (focus omega); conv => whnf)
    | ((refine if_ndecT ?_ ?_); (focus omega); conv => whnf)
    | ((refine if_ndecF ?_ ?_); (focus omega); conv => whnf)
    | ((refine if_dec (fun h => ?_) (fun h => ?_)); all_goals (conv => whnf))
    | ((refine if_ndec (fun h => ?_) (fun h => ?_)); all_goals (conv => whnf))
    | ((refine if_cond (fun h => ?_) (fun h => ?_)); all_goals (conv => whnf))
    | ((with_reducible apply_assumption -symm -exfalso)))
      refine FinK.pu ?_
      simp only [den, denL, itemNum, if_neg hm]
      congr 3
      simp
      try omega
def CAt (w : World) (b : Nat) : Prop := w.heap[b]? = some (.cells (denL [.v (.int .u8 9)]).toArray 5 (0, 0))

theorem cmdEff72 {s t p g : Int} {w : World} {b : Nat} (hb : CAt w b) (h : EffOk s t p) (hg : 1 ≤ g ∧ g ≤ 7) : Pu Tryz.prog 72 #[.agg #[.int .i64 s, .int .i64 t, .int .i64 p, .int .i64 0, .bool false, .int .i64 g], pv b] w (.tuple #[.agg #[.int .i64 1, .int .i64 0, .int .i64 0, .int .i64 s, .int .i64 t, .int .i64 p, .string ⟨#[107]⟩, .int .i64 (1 + t), .int .i64 0, .string ⟨#[]⟩, .string ⟨#[]⟩, .int .i64 0, .string ⟨#[]⟩, .int .i64 0, .int .i64 0, .slice none 0 0, .int .i64 0, .int .i64 0, .int .i64 0, .int .i64 0, .bool false, .int .i64 0, .int .i64 0, .string ⟨#[]⟩], .bool true]) := by
  have h2 := h
  unfold EffOk at h2
  have hok : ItemOk s t p 0 false g := ⟨hg.1, hg.2, .inl ⟨rfl, rfl, h⟩⟩
  have hnum : 0 ≤ itemNum s t p 0 false g := by unfold itemNum; simp only [if_true]; omega
  have h7 : itemNum s t p 0 false g % 7 < 7 := Int.emod_lt_of_pos _ (by omega)
  have h70 : 0 ≤ itemNum s t p 0 false g % 7 := Int.emod_nonneg _ (by omega)
  refine Pu.ofFrZ (enter_ro TBok (cs := [.v (.int .u8 9)]) hb Tryz.func72 rfl rfl Tryz.ntmps72 [.agg [.v (.int .i64 s), .v (.int .i64 t), .v (.int .i64 p), .v (.int .i64 0), .v (.bool false), .v (.int .i64 g)], .loc b 10 0] rfl rfl ?_)
  conv => whnf
  repeat' (first
    | ((with_reducible refine r_seq (fun KS hS => ?_)))
    | ((with_reducible refine r_region ?_); conv => whnf)
    | ((with_reducible refine r_cond (fun KA hA KB hB => ?_)); conv => whnf)
    | ((with_reducible refine hS _ _ ?_); clear hS KS)
    | ((with_reducible refine hA _ ?_); clear hA KA)
    | ((with_reducible refine hB _ ?_); clear hB KB)
    | ((with_reducible refine r_block ?_))
    | ((with_reducible refine r_ret ?_); conv => whnf)
    | ((with_reducible refine r_skip ?_); conv => whnf)
    | ((with_reducible refine r_exit ?_); conv => whnf)
    | ((with_reducible refine WrapK.i64 ?_ ?_); (focus omega); conv => whnf)
    | ((with_reducible refine And.intro rfl ?_); conv => whnf)
    | ((with_reducible intro b); conv => whnf)
    | (refine CallK.pu (fun w => numOk38 hok w) ?_; conv => whnf)
    | (refine RemK.eq (by omega) (IntWalk.rem_in _ _ hnum) ?_; conv => whnf)
    | ((with_reducible apply OpK.more); (focus refine sok); (conv => whnf); fail_if_success guard_target =ₛ False)
    | ((with_reducible refine InAt.mk (fun K' hK => ?_)); conv => whnf)
    | ((with_reducible refine AnyAt.mk (fun K' hK => ?_)); conv => whnf)
    | ((with_reducible refine hK _ ?_); clear hK K'; conv => whnf)
    | ((with_reducible refine hK _ _ ?_); clear hK K'; conv => whnf)
    | ((refine And.intro ?_ ?_); all_goals (conv => whnf))
    | (apply r_quiet; refine mixed; kernel_rfl; kernel_rfl; kernel_rfl; conv => whnf)
    | ((refine if_t ?_ ?_); (focus decide); conv => whnf)
    | ((refine if_f ?_ ?_); (focus decide); conv => whnf)
    | ((refine if_decT ?_ ?_); (focus omega); conv => whnf)
    | ((refine if_decF ?_ ?_); (focus omega); conv => whnf)
    | ((refine if_ndecT ?_ ?_); (focus omega); conv => whnf)
    | ((refine if_ndecF ?_ ?_); (focus omega); conv => whnf)
    | ((refine if_dec (fun h => ?_) (fun h => ?_)); all_goals (conv => whnf))
    | ((refine if_ndec (fun h => ?_) (fun h => ?_)); all_goals (conv => whnf))
    | ((refine if_cond (fun h => ?_) (fun h => ?_)); all_goals (conv => whnf))
    | ((with_reducible apply_assumption -symm -exfalso)))
  all_goals exact FinK.ro0 rfl (HSub.pick (by repeat (first | with_reducible apply At.head | apply At.tail)))

theorem cmdOut72 {m g : Int} {w : World} {b : Nat} (hb : CAt w b) (h : 1 ≤ m ∧ m ≤ 64) (hg : 1 ≤ g ∧ g ≤ 7) : Pu Tryz.prog 72 #[.agg #[.int .i64 0, .int .i64 0, .int .i64 0, .int .i64 m, .bool false, .int .i64 g], pv b] w (.tuple #[.agg #[.int .i64 3, .int .i64 0, .int .i64 0, .int .i64 0, .int .i64 0, .int .i64 0, .string ⟨#[]⟩, .int .i64 0, .int .i64 m, .string ⟨#[97]⟩, .string ⟨#[]⟩, .int .i64 0, .string ⟨#[]⟩, .int .i64 0, .int .i64 0, .slice none 0 0, .int .i64 0, .int .i64 0, .int .i64 0, .int .i64 0, .bool false, .int .i64 0, .int .i64 0, .string ⟨#[]⟩], .bool true]) := by
  have hok : ItemOk 0 0 0 m false g := ⟨hg.1, hg.2, .inr ⟨h.1, h.2, rfl, rfl, rfl⟩⟩
  have hnum : 0 ≤ itemNum 0 0 0 m false g := by unfold itemNum; rw [if_neg (by omega)]; simp; omega
  have h7 : itemNum 0 0 0 m false g % 7 < 7 := Int.emod_lt_of_pos _ (by omega)
  have h70 : 0 ≤ itemNum 0 0 0 m false g % 7 := Int.emod_nonneg _ (by omega)
  refine Pu.ofFrZ (enter_ro TBok (cs := [.v (.int .u8 9)]) hb Tryz.func72 rfl rfl Tryz.ntmps72 [.agg [.v (.int .i64 0), .v (.int .i64 0), .v (.int .i64 0), .v (.int .i64 m), .v (.bool false), .v (.int .i64 g)], .loc b 10 0] rfl rfl ?_)
  conv => whnf
  repeat' (first
    | ((with_reducible refine r_seq (fun KS hS => ?_)))
    | ((with_reducible refine r_region ?_); conv => whnf)
    | ((with_reducible refine r_cond (fun KA hA KB hB => ?_)); conv => whnf)
    | ((with_reducible refine hS _ _ ?_); clear hS KS)
    | ((with_reducible refine hA _ ?_); clear hA KA)
    | ((with_reducible refine hB _ ?_); clear hB KB)
    | ((with_reducible refine r_block ?_))
    | ((with_reducible refine r_ret ?_); conv => whnf)
    | ((with_reducible refine r_skip ?_); conv => whnf)
    | ((with_reducible refine r_exit ?_); conv => whnf)
    | ((with_reducible refine WrapK.i64 ?_ ?_); (focus omega); conv => whnf)
    | ((with_reducible refine And.intro rfl ?_); conv => whnf)
    | ((with_reducible intro b); conv => whnf)
    | (refine CallK.pu (fun w => numOk38 hok w) ?_; conv => whnf)
    | (refine RemK.eq (by omega) (IntWalk.rem_in _ _ hnum) ?_; conv => whnf)
    | ((with_reducible apply OpK.more); (focus refine sok); (conv => whnf); fail_if_success guard_target =ₛ False)
    | ((with_reducible refine InAt.mk (fun K' hK => ?_)); conv => whnf)
    | ((with_reducible refine AnyAt.mk (fun K' hK => ?_)); conv => whnf)
    | ((with_reducible refine hK _ ?_); clear hK K'; conv => whnf)
    | ((with_reducible refine hK _ _ ?_); clear hK K'; conv => whnf)
    | ((refine And.intro ?_ ?_); all_goals (conv => whnf))
    | (apply r_quiet; refine mixed; kernel_rfl; kernel_rfl; kernel_rfl; conv => whnf)
    | ((refine if_t ?_ ?_); (focus decide); conv => whnf)
    | ((refine if_f ?_ ?_); (focus decide); conv => whnf)
    | ((refine if_decT ?_ ?_); (focus omega); conv => whnf)
    | ((refine if_decF ?_ ?_); (focus omega); conv => whnf)
    | ((refine if_ndecT ?_ ?_); (focus omega); conv => whnf)
    | ((refine if_ndecF ?_ ?_); (focus omega); conv => whnf)
    | ((refine if_dec (fun h => ?_) (fun h => ?_)); all_goals (conv => whnf))
    | ((refine if_ndec (fun h => ?_) (fun h => ?_)); all_goals (conv => whnf))
    | ((refine if_cond (fun h => ?_) (fun h => ?_)); all_goals (conv => whnf))
    | ((with_reducible apply_assumption -symm -exfalso)))
  all_goals exact FinK.ro0 rfl (HSub.pick (by repeat (first | with_reducible apply At.head | apply At.tail)))

theorem cmdIn72 {m g : Int} {w : World} {b : Nat} (hb : CAt w b) (h : 1 ≤ m ∧ m ≤ 64) (hg : 1 ≤ g ∧ g ≤ 7) : Pu Tryz.prog 72 #[.agg #[.int .i64 0, .int .i64 0, .int .i64 0, .int .i64 m, .bool true, .int .i64 g], pv b] w (.tuple #[.agg #[.int .i64 4, .int .i64 0, .int .i64 0, .int .i64 0, .int .i64 0, .int .i64 0, .string ⟨#[]⟩, .int .i64 0, .int .i64 m, .string ⟨#[97]⟩, .string ⟨#[]⟩, .int .i64 0, .string ⟨#[]⟩, .int .i64 0, .int .i64 0, .slice none 0 0, .int .i64 0, .int .i64 0, .int .i64 0, .int .i64 0, .bool false, .int .i64 0, .int .i64 0, .string ⟨#[100, 97, 116, 97]⟩], .bool true]) := by
  have hok : ItemOk 0 0 0 m true g := ⟨hg.1, hg.2, .inr ⟨h.1, h.2, rfl, rfl, rfl⟩⟩
  have hnum : 0 ≤ itemNum 0 0 0 m true g := by unfold itemNum; rw [if_neg (by omega)]; simp; omega
  have h7 : itemNum 0 0 0 m true g % 7 < 7 := Int.emod_lt_of_pos _ (by omega)
  have h70 : 0 ≤ itemNum 0 0 0 m true g % 7 := Int.emod_nonneg _ (by omega)
  refine Pu.ofFrZ (enter_ro TBok (cs := [.v (.int .u8 9)]) hb Tryz.func72 rfl rfl Tryz.ntmps72 [.agg [.v (.int .i64 0), .v (.int .i64 0), .v (.int .i64 0), .v (.int .i64 m), .v (.bool true), .v (.int .i64 g)], .loc b 10 0] rfl rfl ?_)
  conv => whnf
  repeat' (first
    | ((with_reducible refine r_seq (fun KS hS => ?_)))
    | ((with_reducible refine r_region ?_); conv => whnf)
    | ((with_reducible refine r_cond (fun KA hA KB hB => ?_)); conv => whnf)
    | ((with_reducible refine hS _ _ ?_); clear hS KS)
    | ((with_reducible refine hA _ ?_); clear hA KA)
    | ((with_reducible refine hB _ ?_); clear hB KB)
    | ((with_reducible refine r_block ?_))
    | ((with_reducible refine r_ret ?_); conv => whnf)
    | ((with_reducible refine r_skip ?_); conv => whnf)
    | ((with_reducible refine r_exit ?_); conv => whnf)
    | ((with_reducible refine WrapK.i64 ?_ ?_); (focus omega); conv => whnf)
    | ((with_reducible refine And.intro rfl ?_); conv => whnf)
    | ((with_reducible intro b); conv => whnf)
    | (refine CallK.pu (fun w => numOk38 hok w) ?_; conv => whnf)
    | (refine RemK.eq (by omega) (IntWalk.rem_in _ _ hnum) ?_; conv => whnf)
    | ((with_reducible apply OpK.more); (focus refine sok); (conv => whnf); fail_if_success guard_target =ₛ False)
    | ((with_reducible refine InAt.mk (fun K' hK => ?_)); conv => whnf)
    | ((with_reducible refine AnyAt.mk (fun K' hK => ?_)); conv => whnf)
    | ((with_reducible refine hK _ ?_); clear hK K'; conv => whnf)
    | ((with_reducible refine hK _ _ ?_); clear hK K'; conv => whnf)
    | ((refine And.intro ?_ ?_); all_goals (conv => whnf))
    | (apply r_quiet; refine mixed; kernel_rfl; kernel_rfl; kernel_rfl; conv => whnf)
    | ((refine if_t ?_ ?_); (focus decide); conv => whnf)
    | ((refine if_f ?_ ?_); (focus decide); conv => whnf)
    | ((refine if_decT ?_ ?_); (focus omega); conv => whnf)
    | ((refine if_decF ?_ ?_); (focus omega); conv => whnf)
    | ((refine if_ndecT ?_ ?_); (focus omega); conv => whnf)
    | ((refine if_ndecF ?_ ?_); (focus omega); conv => whnf)
    | ((refine if_dec (fun h => ?_) (fun h => ?_)); all_goals (conv => whnf))
    | ((refine if_ndec (fun h => ?_) (fun h => ?_)); all_goals (conv => whnf))
    | ((refine if_cond (fun h => ?_) (fun h => ?_)); all_goals (conv => whnf))
    | ((with_reducible apply_assumption -symm -exfalso)))
  all_goals exact FinK.ro0 rfl (HSub.pick (by repeat (first | with_reducible apply At.head | apply At.tail)))

end Go.Proofs.YtbgnoibellfojaaGreatDoor
