/- Contracts and lemmas for the claim (part 7); no condition of its own. -/
import Derived.Test.YthmjkaljkgjicaaGreatDoorYDC1206
import Derived.Test.YthmjkaljkgjicaaGreatDoorYDC1202
set_option linter.all false
set_option linter.unusedVariables false
set_option linter.unusedSimpArgs false
set_option linter.unnecessarySimpa false
namespace Go.Proofs.YthmjkaljkgjicaaGreatDoor
open Go Go.X
set_option maxRecDepth 100000
set_option maxHeartbeats 0
/-- a variable that holds a slice -/
def BxA (ty e k p : Nat) (n : Nat) (cs : List Value) : Ass :=
  ⟨fun w S => ∃ a cap, Holds w [.blk 2 p [.v (.slice a n cap)] ty, .ext 3 (SlA e k a n cap cs)] S, fun _ _ _ h ⟨a, cap, hx⟩ => ⟨a, cap, hx.loc h⟩⟩
theorem BxA.open {w : World} {S : Nat → Prop} {X Y : List Blk} {ty e k p n j : Nat} {cs : List Value} (h : Holds w (X ++ .ext j (BxA ty e k p n cs) :: Y) S) :
    ∃ (z : Option Addr × Nat) (S' : Nat → Prop), Holds w (X ++ .blk 2 p [.v (.slice z.1 n z.2)] ty :: .ext 3 (SlA e k z.1 n z.2 cs) :: Y) S' ∧ ∀ k, S' k → S k := by
  obtain ⟨TX, TY, h1, h2, h3, h4⟩ := h.split _ _
  cases h2 with
  | @cons _ _ Sx T hx hb hY hd =>
    obtain ⟨a, cap, hz⟩ := hx
    obtain ⟨T', q1, q2⟩ := Holds.glue _ _ hz hY hd
    obtain ⟨T'', q3, q4⟩ := Holds.glue _ _ h1 q1 (fun k hk hk' => h3 k hk ((q2 k).1 hk'))
    exact ⟨(a, cap), T'', q3, fun k hk => (h4 k).2 (((q4 k).1 hk).imp id (q2 k).1)⟩
theorem BxA.close {ty e k p n j : Nat} {a cap} {cs : List Value} {i1 i2 : Nat} : HSub [.ext j (BxA ty e k p n cs)] [.blk i1 p [.v (.slice a n cap)] ty, .ext i2 (SlA e k a n cap cs)] :=
  HSub.close fun w S h => by
    cases h with
    | @cons _ _ S1 T1 hx hb hH hd =>
      cases hH with
      | @cons _ _ S2 T2 hx2 hb2 hH2 hd2 =>
        cases hH2
        exact ⟨a, cap, .cons (x := .blk 2 p _ ty) hx hb (.cons (x := .ext 3 _) hx2 hb2 .nil hd2) hd⟩
theorem BxA.nil {ty e k p j : Nat} {i1 : Nat} : HSub [.ext j (BxA ty e k p 0 [])] [.blk i1 p [.v (.slice none 0 0)] ty] :=
  fun w S h => by
    cases h with
    | @cons _ _ S1 T1 hx hb hH hd =>
      cases hH
      have h2 : Holds w [.ext 3 (SlA e k none 0 0 [])] (fun _ => False ∨ False) := .cons (S := fun _ => False) (x := .ext 3 (SlA e k none 0 0 [])) (.inl ⟨rfl, rfl, rfl, rfl⟩) (fun _ h => h.elim) .nil (fun _ h _ => h)
      have h3 : Holds w [.blk 2 p [.v (.slice none 0 0)] ty, .ext 3 (SlA e k none 0 0 [])] (fun k => S1 k ∨ (False ∨ False)) := .cons (x := .blk 2 p [.v (.slice none 0 0)] ty) hx hb h2 (fun _ _ h => h.elim id id)
      exact ⟨_, .cons (x := .ext j (BxA ty e k p 0 [])) ⟨none, 0, h3⟩ (fun k hk => hk.elim (hb k) (fun h => h.elim False.elim False.elim)) .nil (fun _ _ h => h), fun k hk => hk.elim (fun h => h.elim .inl (fun h => h.elim False.elim False.elim)) False.elim⟩
/-- the keys of a map of one entry, handed out: maps.Keys over map[int]api.Item -/
def En (k : Int) (v : Value) (b : Nat) : MapEntry := ⟨.int .i64 k, v, b⟩
theorem keys142 {bx m clk b : Nat} {k : Int} {v : Value} (hb : b < clk) : ItS Tryz.prog 102 (denL [.loc bx 1 0]) [.blk 1 bx [.v (.map (some m))] 81, .ext 2 (MpA m [En k v b] clk)] [.blk 1 bx [.v (.map (some m))] 81, .ext 2 (MpA m [En k v b] clk)] [denL [.v (.int .i64 k)]] := by
  intro J yv hyv w
  have hy := hyv 0 _ rfl
  refine enter_fr TBok (H := .ext 0 (J 0) :: [.blk 1 bx [.v (.map (some m))] 81, .ext 2 (MpA m [En k v b] clk)]) all_foot Tryz.func102 rfl rfl Tryz.ntmps102 [.v yv, .loc bx 1 0] rfl rfl ?_
  intro S
  unfold En
  conv => whnf
  repeat' (first
 | with_reducible (first | refine r_seq (fun KS hS => ?_) | (refine hS _ _ ?_; clear hS KS) | (refine hA _ ?_; clear hA KA) | (refine hB _ ?_; clear hB KB) | refine r_block ?_)
 | ((with_reducible (first | refine r_region ?_ | refine r_cond (fun KA hA KB hB => ?_) | refine r_ret ?_ | refine r_skip ?_ | refine r_exit ?_ | refine And.intro rfl ?_ | intro b)); conv => whnf)
 | ((with_reducible refine WrapK.i64 ?_ ?_); (focus omega); conv => whnf)
 | ((with_reducible refine OpK.id ?_); refine OpK.rngM rfl rfl rfl rfl (by repeat (first | with_reducible apply At.head | apply At.tail)) ?_; conv => whnf)
 | (intro r; conv => whnf)
 | ((with_reducible refine OpK.id ?_); (first | refine OpK.nx1 rfl rfl (by repeat (first | with_reducible apply At.head | apply At.tail)) (by repeat (first | with_reducible apply At.head | apply At.tail)) hb ?_ | refine OpK.nxD rfl rfl (by repeat (first | with_reducible apply At.head | apply At.tail)) (by repeat (first | with_reducible apply At.head | apply At.tail)) hb ?_ | refine OpK.ent1 rfl rfl (by repeat (first | with_reducible apply At.head | apply At.tail)) (by repeat (first | with_reducible apply At.head | apply At.tail)) ?_); conv => whnf)
 | ((with_reducible refine CallV.id ?_); refine CallV.fr (.tail .head) (v := .bool true) (y := .ext 0 (J 1)) (fun w S h1 h2 => hy w S h1 h2) ?_; conv => whnf)
 | ((with_reducible apply OpK.more); (focus refine sok); (conv => whnf); fail_if_success guard_target =ₛ False)
 | with_reducible (first | refine Rounds.step (fun KL hL => ?_) | (refine hL _ _ ?_; clear hL KL) | refine r_rounds 100 ?_)
 | ((with_reducible (first | refine InAt.mk (fun K' hK => ?_) | refine AnyAt.mk (fun K' hK => ?_) | (refine hK _ ?_; clear hK K') | (refine hK _ _ ?_; clear hK K'))); conv => whnf)
 | ((refine And.intro ?_ ?_); all_goals (conv => whnf))
 | (apply r_quiet; refine mixed; kernel_rfl; kernel_rfl; kernel_rfl; conv => whnf)
 | ((first | refine if_t (by decide) ?_ | refine if_f (by decide) ?_ | refine if_decT (by omega) ?_ | refine if_decF (by omega) ?_ | refine if_ndecT (by omega) ?_ | refine if_ndecF (by omega) ?_); conv => whnf)
 | ((first | refine if_dec (fun h => ?_) (fun h => ?_) | refine if_ndec (fun h => ?_) (fun h => ?_) | refine if_cond (fun h => ?_) (fun h => ?_)); all_goals (conv => whnf))
 | with_reducible apply_assumption -symm -exfalso)
  exact FinK.frL rfl (HSub.drop (HSub.refl _))
theorem keys106 {bx m clk b : Nat} {k : Int} {v : Value} (hb : b < clk) : ItS Tryz.prog 61 (denL [.loc bx 1 0]) [.blk 1 bx [.v (.map (some m))] 78, .ext 2 (MpA m [En k v b] clk)] [.blk 1 bx [.v (.map (some m))] 78, .ext 2 (MpA m [En k v b] clk)] [denL [.v (.int .i64 k)]] := by
  intro J yv hyv w
  have hy := hyv 0 _ rfl
  refine enter_fr TBok (H := .ext 0 (J 0) :: [.blk 1 bx [.v (.map (some m))] 78, .ext 2 (MpA m [En k v b] clk)]) all_foot Tryz.func61 rfl rfl Tryz.ntmps61 [.v yv, .loc bx 1 0] rfl rfl ?_
  intro S
  unfold En
  conv => whnf
  repeat' (first
 | with_reducible (first | refine r_seq (fun KS hS => ?_) | (refine hS _ _ ?_; clear hS KS) | (refine hA _ ?_; clear hA KA) | (refine hB _ ?_; clear hB KB) | refine r_block ?_)
 | ((with_reducible (first | refine r_region ?_ | refine r_cond (fun KA hA KB hB => ?_) | refine r_ret ?_ | refine r_skip ?_ | refine r_exit ?_ | refine And.intro rfl ?_ | intro b)); conv => whnf)
 | ((with_reducible refine WrapK.i64 ?_ ?_); (focus omega); conv => whnf)
 | ((with_reducible refine OpK.id ?_); refine OpK.rngM rfl rfl rfl rfl (by repeat (first | with_reducible apply At.head | apply At.tail)) ?_; conv => whnf)
 | (intro r; conv => whnf)
 | ((with_reducible refine OpK.id ?_); (first | refine OpK.nx1 rfl rfl (by repeat (first | with_reducible apply At.head | apply At.tail)) (by repeat (first | with_reducible apply At.head | apply At.tail)) hb ?_ | refine OpK.nxD rfl rfl (by repeat (first | with_reducible apply At.head | apply At.tail)) (by repeat (first | with_reducible apply At.head | apply At.tail)) hb ?_ | refine OpK.ent1 rfl rfl (by repeat (first | with_reducible apply At.head | apply At.tail)) (by repeat (first | with_reducible apply At.head | apply At.tail)) ?_); conv => whnf)
 | ((with_reducible refine CallV.id ?_); refine CallV.fr (.tail .head) (v := .bool true) (y := .ext 0 (J 1)) (fun w S h1 h2 => hy w S h1 h2) ?_; conv => whnf)
 | ((with_reducible apply OpK.more); (focus refine sok); (conv => whnf); fail_if_success guard_target =ₛ False)
 | with_reducible (first | refine Rounds.step (fun KL hL => ?_) | (refine hL _ _ ?_; clear hL KL) | refine r_rounds 100 ?_)
 | ((with_reducible (first | refine InAt.mk (fun K' hK => ?_) | refine AnyAt.mk (fun K' hK => ?_) | (refine hK _ ?_; clear hK K') | (refine hK _ _ ?_; clear hK K'))); conv => whnf)
 | ((refine And.intro ?_ ?_); all_goals (conv => whnf))
 | (apply r_quiet; refine mixed; kernel_rfl; kernel_rfl; kernel_rfl; conv => whnf)
 | ((first | refine if_t (by decide) ?_ | refine if_f (by decide) ?_ | refine if_decT (by omega) ?_ | refine if_decF (by omega) ?_ | refine if_ndecT (by omega) ?_ | refine if_ndecF (by omega) ?_); conv => whnf)
 | ((first | refine if_dec (fun h => ?_) (fun h => ?_) | refine if_ndec (fun h => ?_) (fun h => ?_) | refine if_cond (fun h => ?_) (fun h => ?_)); all_goals (conv => whnf))
 | with_reducible apply_assumption -symm -exfalso)
  exact FinK.frL rfl (HSub.drop (HSub.refl _))
theorem len157 (w : World) : Pu Tryz.prog 55 #[.int .u64 1] w (.int .i64 1) := by
  refine enter_sound TBok Tryz.func55 rfl rfl Tryz.ntmps55 [.v (.int .u64 1)] (Kn.start w noS) rfl rfl ?_
  conv => whnf
  repeat' (first
 | with_reducible (first | refine r_seq (fun KS hS => ?_) | (refine hS _ _ ?_; clear hS KS) | (refine hA _ ?_; clear hA KA) | (refine hB _ ?_; clear hB KB) | refine r_block ?_)
 | ((with_reducible (first | refine r_region ?_ | refine r_cond (fun KA hA KB hB => ?_) | refine r_ret ?_ | refine r_skip ?_ | refine r_exit ?_ | refine And.intro rfl ?_ | intro b)); conv => whnf)
 | ((with_reducible refine WrapK.i64 ?_ ?_); (focus omega); conv => whnf)
 | (apply in271; rfl; rfl; rfl; intro A; conv => whnf)
 | ((with_reducible refine OpK.id ?_); refine OpK.sIx (b := 1) rfl rfl rfl rfl rfl (by omega) rfl ?_; conv => whnf)
 | ((with_reducible refine WrapK.id ?_); (first | refine WrapK.eq (IntWalk.u8_in _ (by omega)) ?_ | refine WrapK.eq (z' := 1) (by decide +kernel) ?_); conv => whnf)
 | ((with_reducible apply OpK.more); (focus refine sok); (conv => whnf); fail_if_success guard_target =ₛ False)
 | with_reducible (first | refine Rounds.step (fun KL hL => ?_) | (refine hL _ _ ?_; clear hL KL) | refine r_rounds 100 ?_)
 | ((with_reducible (first | refine InAt.mk (fun K' hK => ?_) | refine AnyAt.mk (fun K' hK => ?_) | (refine hK _ ?_; clear hK K') | (refine hK _ _ ?_; clear hK K'))); conv => whnf)
 | ((refine And.intro ?_ ?_); all_goals (conv => whnf))
 | (apply r_quiet; refine mixed; kernel_rfl; kernel_rfl; kernel_rfl; conv => whnf)
 | ((first | refine if_t (by decide) ?_ | refine if_f (by decide) ?_ | refine if_decT (by omega) ?_ | refine if_decF (by omega) ?_ | refine if_ndecT (by omega) ?_ | refine if_ndecF (by omega) ?_); conv => whnf)
 | ((first | refine if_dec (fun h => ?_) (fun h => ?_) | refine if_ndec (fun h => ?_) (fun h => ?_) | refine if_cond (fun h => ?_) (fun h => ?_)); all_goals (conv => whnf))
 | with_reducible apply_assumption -symm -exfalso)
  exact FinK.pu rfl
theorem sort105 {a : Option Addr} {cap : Nat} (w : World) : Pu Tryz.prog 60 #[.slice a 1 cap] w (.tuple #[]) := by
  refine enter_sound TBok Tryz.func60 rfl rfl Tryz.ntmps60 [.v (.slice a 1 cap)] (Kn.start w noS) rfl rfl ?_
  conv => whnf
  repeat' (first
 | with_reducible (first | refine r_seq (fun KS hS => ?_) | (refine hS _ _ ?_; clear hS KS) | (refine hA _ ?_; clear hA KA) | (refine hB _ ?_; clear hB KB) | refine r_block ?_)
 | ((with_reducible (first | refine r_region ?_ | refine r_cond (fun KA hA KB hB => ?_) | refine r_ret ?_ | refine r_skip ?_ | refine r_exit ?_ | refine And.intro rfl ?_ | intro b)); conv => whnf)
 | ((with_reducible refine WrapK.i64 ?_ ?_); (focus omega); conv => whnf)
 | ((with_reducible refine CallK.id ?_); (first | apply in156 | apply in261); rfl; rfl; rfl; intro A; conv => whnf)
 | ((with_reducible refine CallK.at 55 ?_); refine CallK.pu (fun w => len157 w) ?_; conv => whnf)
 | ((with_reducible refine WrapK.id ?_); refine WrapK.eq (IntWalk.u64_in _ (by omega)) ?_; conv => whnf)
 | ((with_reducible apply OpK.more); (focus refine sok); (conv => whnf); fail_if_success guard_target =ₛ False)
 | with_reducible (first | refine Rounds.step (fun KL hL => ?_) | (refine hL _ _ ?_; clear hL KL) | refine r_rounds 100 ?_)
 | ((with_reducible (first | refine InAt.mk (fun K' hK => ?_) | refine AnyAt.mk (fun K' hK => ?_) | (refine hK _ ?_; clear hK K') | (refine hK _ _ ?_; clear hK K'))); conv => whnf)
 | ((refine And.intro ?_ ?_); all_goals (conv => whnf))
 | (apply r_quiet; refine mixed; kernel_rfl; kernel_rfl; kernel_rfl; conv => whnf)
 | ((first | refine if_t (by decide) ?_ | refine if_f (by decide) ?_ | refine if_decT (by omega) ?_ | refine if_decF (by omega) ?_ | refine if_ndecT (by omega) ?_ | refine if_ndecF (by omega) ?_); conv => whnf)
 | ((first | refine if_dec (fun h => ?_) (fun h => ?_) | refine if_ndec (fun h => ?_) (fun h => ?_) | refine if_cond (fun h => ?_) (fun h => ?_)); all_goals (conv => whnf))
 | with_reducible apply_assumption -symm -exfalso)
  exact FinK.pu rfl
theorem sorted142 {bx m clk b0 : Nat} {k : Int} {v : Value} (hb : b0 < clk) (w : World) : FrZ Tryz.prog 35 #[.func (.func 102) #[] #[pv bx]] w (AssL [.blk 1 bx [.v (.map (some m))] 81, .ext 2 (MpA m [En k v b0] clk)]) (fun z : Option Addr × Nat => .slice z.1 1 z.2) (fun z => AssL [.ext 3 (SlA 3 1 z.1 1 z.2 [.int .i64 k]), .blk 1 bx [.v (.map (some m))] 81, .ext 2 (MpA m [En k v b0] clk)]) := by
  refine enter_frZ TBok (H := [.blk 1 bx [.v (.map (some m))] 81, .ext 2 (MpA m [En k v b0] clk)]) all_foot Tryz.func35 rfl rfl Tryz.ntmps35 [.fn 102 [.loc bx 1 0]] rfl rfl ?_
  intro S _ _
  conv => whnf
  repeat' (first
 | with_reducible (first | refine r_seq (fun KS hS => ?_) | (refine hS _ _ ?_; clear hS KS) | (refine hA _ ?_; clear hA KA) | (refine hB _ ?_; clear hB KB) | refine r_block ?_)
 | ((with_reducible (first | refine r_region ?_ | refine r_cond (fun KA hA KB hB => ?_) | refine r_ret ?_ | refine r_skip ?_ | refine r_exit ?_ | refine And.intro rfl ?_ | intro b)); conv => whnf)
 | ((with_reducible refine WrapK.i64 ?_ ?_); (focus omega); conv => whnf)
 | ((with_reducible refine CallK.id ?_); (first | apply in104 | apply in155); rfl; rfl; rfl; intro A; conv => whnf)
 | ((with_reducible apply OpK.more); (focus refine sok); (conv => whnf); fail_if_success guard_target =ₛ False)
 | ((with_reducible (first | refine InAt.mk (fun K' hK => ?_) | refine AnyAt.mk (fun K' hK => ?_) | (refine hK _ ?_; clear hK K') | (refine hK _ _ ?_; clear hK K'))); conv => whnf)
 | ((refine And.intro ?_ ?_); all_goals (conv => whnf))
 | (apply r_quiet; refine mixed; kernel_rfl; kernel_rfl; kernel_rfl; conv => whnf)
 | ((first | refine if_t (by decide) ?_ | refine if_f (by decide) ?_ | refine if_decT (by omega) ?_ | refine if_decF (by omega) ?_ | refine if_ndecT (by omega) ?_ | refine if_ndecF (by omega) ?_); conv => whnf)
 | ((first | refine if_dec (fun h => ?_) (fun h => ?_) | refine if_ndec (fun h => ?_) (fun h => ?_) | refine if_cond (fun h => ?_) (fun h => ?_)); all_goals (conv => whnf))
 | with_reducible apply_assumption -symm -exfalso)
  rename_i A1 _ _
  refine r_rangeFunc (fun i => [.ext 5 (BxA 32 3 1 b i ([Value.int .i64 k].take i)), .ext 0 A1, .ext 0 A]) [[.v (.int .i64 k)]] 14 rfl ?_ (keys142 (bx := bx) (m := m) (v := v) hb) (by simp) (by decide) ?_ ?_
  · exact HSub.trans (HSub.perm ((List.perm_append_comm (l₁ := [_]) (l₂ := [_, _])).append_right [_, _])) (HSub.app2 BxA.nil (HSub.refl _))
  · intro i x hx lp rc W' S'
    obtain ⟨rfl, rfl⟩ : i = 0 ∧ [SV.v (.int .i64 k)] = x := by
      cases i with
      | zero => simpa using hx
      | succ i => simp at hx
    conv => whnf
    repeat' (first
 | with_reducible (first | refine r_seq (fun KS hS => ?_) | (refine hS _ _ ?_; clear hS KS) | (refine hA _ ?_; clear hA KA) | (refine hB _ ?_; clear hB KB) | refine r_block ?_)
 | ((with_reducible (first | refine r_region ?_ | refine r_cond (fun KA hA KB hB => ?_) | refine r_ret ?_ | refine r_skip ?_ | refine r_exit ?_ | refine And.intro rfl ?_ | intro b)); conv => whnf)
 | ((with_reducible refine WrapK.i64 ?_ ?_); (focus omega); conv => whnf)
 | ((with_reducible apply OpK.more); (focus refine sok); (conv => whnf); fail_if_success guard_target =ₛ False)
 | ((with_reducible (first | refine InAt.mk (fun K' hK => ?_) | refine AnyAt.mk (fun K' hK => ?_) | (refine hK _ ?_; clear hK K') | (refine hK _ _ ?_; clear hK K'))); conv => whnf)
 | ((refine And.intro ?_ ?_); all_goals (conv => whnf))
 | (apply r_quiet; refine mixed; kernel_rfl; kernel_rfl; kernel_rfl; conv => whnf)
 | ((first | refine if_t (by decide) ?_ | refine if_f (by decide) ?_ | refine if_decT (by omega) ?_ | refine if_decF (by omega) ?_ | refine if_ndecT (by omega) ?_ | refine if_ndecF (by omega) ?_); conv => whnf)
 | ((first | refine if_dec (fun h => ?_) (fun h => ?_) | refine if_ndec (fun h => ?_) (fun h => ?_) | refine if_cond (fun h => ?_) (fun h => ?_)); all_goals (conv => whnf))
 | with_reducible apply_assumption -symm -exfalso)
    refine ⟨_, rfl, ?_⟩
    refine r_block ?_
    refine Run.open (α := Option Addr × Nat) (A := []) (B := []) (fun z => [.ext 14 (lrA lp { rc with state := .busy }), .blk 2 b [.v (.slice z.1 0 z.2)] 32, .ext 3 (SlA 3 1 z.1 0 z.2 []), .ext 0 A1, .ext 0 A]) (fun w S h => BxA.open (X := [_]) (Y := [_, _]) h) ?_
    rintro ⟨a, cap⟩
    dsimp only
    repeat' (first
 | with_reducible (first | refine r_seq (fun KS hS => ?_) | (refine hS _ _ ?_; clear hS KS) | (refine hA _ ?_; clear hA KA) | (refine hB _ ?_; clear hB KB) | refine r_block ?_)
 | ((with_reducible (first | refine r_region ?_ | refine r_cond (fun KA hA KB hB => ?_) | refine r_ret ?_ | refine r_skip ?_ | refine r_exit ?_ | refine And.intro rfl ?_ | intro b)); conv => whnf)
 | ((with_reducible refine WrapK.i64 ?_ ?_); (focus omega); conv => whnf)
 | ((with_reducible refine OpK.id ?_); refine OpK.app (k := 1) rfl rfl rfl rfl rfl rfl rfl rfl (by repeat (first | with_reducible apply At.head | apply At.tail)) (SrcK.slc rfl rfl (by repeat (first | constructor | apply List.Mem.tail)) (Nat.le_refl _) rfl) (by show (0 + 1) * (8 + 1) ≤ 140737488355328; omega) (fun a' cap' => ?_); conv => whnf)
 | ((with_reducible apply OpK.more); (focus refine sok); (conv => whnf); fail_if_success guard_target =ₛ False)
 | ((with_reducible (first | refine InAt.mk (fun K' hK => ?_) | refine AnyAt.mk (fun K' hK => ?_) | (refine hK _ ?_; clear hK K') | (refine hK _ _ ?_; clear hK K'))); conv => whnf)
 | ((refine And.intro ?_ ?_); all_goals (conv => whnf))
 | (apply r_quiet; refine mixed; kernel_rfl; kernel_rfl; kernel_rfl; conv => whnf)
 | ((first | refine if_t (by decide) ?_ | refine if_f (by decide) ?_ | refine if_decT (by omega) ?_ | refine if_decF (by omega) ?_ | refine if_ndecT (by omega) ?_ | refine if_ndecF (by omega) ?_); conv => whnf)
 | ((first | refine if_dec (fun h => ?_) (fun h => ?_) | refine if_ndec (fun h => ?_) (fun h => ?_) | refine if_cond (fun h => ?_) (fun h => ?_)); all_goals (conv => whnf))
 | with_reducible apply_assumption -symm -exfalso)
    refine ⟨HSub.drop (HSub.ext (fun _ _ h => h) (HSub.app2 (A' := [_]) (A := [_, _]) BxA.close (HSub.refl _)))⟩
  · refine hS _ _ ?_
    clear hS KS
    refine Run.open (α := Option Addr × Nat) (A := []) (B := []) (fun z => [.blk 1 bx [.v (.map (some m))] 81, .ext 2 (MpA m [En k v b0] clk), .blk 2 b [.v (.slice z.1 1 z.2)] 32, .ext 3 (SlA 3 1 z.1 1 z.2 [.int .i64 k]), .ext 0 A1, .ext 0 A]) (fun w S h => BxA.open (X := [_, _]) (Y := [_, _]) h) ?_
    rintro ⟨a, cap⟩
    dsimp only
    repeat' (first
 | with_reducible (first | refine r_seq (fun KS hS => ?_) | (refine hS _ _ ?_; clear hS KS) | (refine hA _ ?_; clear hA KA) | (refine hB _ ?_; clear hB KB) | refine r_block ?_)
 | ((with_reducible (first | refine r_region ?_ | refine r_cond (fun KA hA KB hB => ?_) | refine r_ret ?_ | refine r_skip ?_ | refine r_exit ?_ | refine And.intro rfl ?_ | intro b)); conv => whnf)
 | ((with_reducible refine WrapK.i64 ?_ ?_); (focus omega); conv => whnf)
 | ((with_reducible refine CallK.at 60 ?_); refine CallK.pu (fun w => sort105 w) ?_; conv => whnf)
 | ((with_reducible apply OpK.more); (focus refine sok); (conv => whnf); fail_if_success guard_target =ₛ False)
 | ((with_reducible (first | refine InAt.mk (fun K' hK => ?_) | refine AnyAt.mk (fun K' hK => ?_) | (refine hK _ ?_; clear hK K') | (refine hK _ _ ?_; clear hK K'))); conv => whnf)
 | ((refine And.intro ?_ ?_); all_goals (conv => whnf))
 | (apply r_quiet; refine mixed; kernel_rfl; kernel_rfl; kernel_rfl; conv => whnf)
 | ((first | refine if_t (by decide) ?_ | refine if_f (by decide) ?_ | refine if_decT (by omega) ?_ | refine if_decF (by omega) ?_ | refine if_ndecT (by omega) ?_ | refine if_ndecF (by omega) ?_); conv => whnf)
 | ((first | refine if_dec (fun h => ?_) (fun h => ?_) | refine if_ndec (fun h => ?_) (fun h => ?_) | refine if_cond (fun h => ?_) (fun h => ?_)); all_goals (conv => whnf))
 | with_reducible apply_assumption -symm -exfalso)
    exact FinK.frZL (a, cap) rfl (by (try dsimp only [List.cons_append, List.nil_append, den, denL]); refine SelI.spec ?_; (repeat (first | refine SelI.blk (by repeat (first | with_reducible apply Rm.head | apply Rm.tail)) ?_ | refine SelI.ext (by repeat (first | with_reducible apply Rm.head | apply Rm.tail)) ?_ | (refine SelI.blk' (by repeat (first | with_reducible apply Rm.head | apply Rm.tail)) ?_ ?_; focus rfl) | (refine SelI.ext' (by repeat (first | with_reducible apply Rm.head | apply Rm.tail)) ?_ ?_; focus rfl))); exact SelI.nil)
theorem sorted106 {bx m clk b0 : Nat} {k : Int} {v : Value} (hb : b0 < clk) (w : World) : FrZ Tryz.prog 35 #[.func (.func 61) #[] #[pv bx]] w (AssL [.blk 1 bx [.v (.map (some m))] 78, .ext 2 (MpA m [En k v b0] clk)]) (fun z : Option Addr × Nat => .slice z.1 1 z.2) (fun z => AssL [.ext 3 (SlA 3 1 z.1 1 z.2 [.int .i64 k]), .blk 1 bx [.v (.map (some m))] 78, .ext 2 (MpA m [En k v b0] clk)]) := by
  refine enter_frZ TBok (H := [.blk 1 bx [.v (.map (some m))] 78, .ext 2 (MpA m [En k v b0] clk)]) all_foot Tryz.func35 rfl rfl Tryz.ntmps35 [.fn 61 [.loc bx 1 0]] rfl rfl ?_
  intro S _ _
  conv => whnf
  repeat' (first
 | with_reducible (first | refine r_seq (fun KS hS => ?_) | (refine hS _ _ ?_; clear hS KS) | (refine hA _ ?_; clear hA KA) | (refine hB _ ?_; clear hB KB) | refine r_block ?_)
 | ((with_reducible (first | refine r_region ?_ | refine r_cond (fun KA hA KB hB => ?_) | refine r_ret ?_ | refine r_skip ?_ | refine r_exit ?_ | refine And.intro rfl ?_ | intro b)); conv => whnf)
 | ((with_reducible refine WrapK.i64 ?_ ?_); (focus omega); conv => whnf)
 | ((with_reducible refine CallK.id ?_); (first | apply in104 | apply in155); rfl; rfl; rfl; intro A; conv => whnf)
 | ((with_reducible apply OpK.more); (focus refine sok); (conv => whnf); fail_if_success guard_target =ₛ False)
 | ((with_reducible (first | refine InAt.mk (fun K' hK => ?_) | refine AnyAt.mk (fun K' hK => ?_) | (refine hK _ ?_; clear hK K') | (refine hK _ _ ?_; clear hK K'))); conv => whnf)
 | ((refine And.intro ?_ ?_); all_goals (conv => whnf))
 | (apply r_quiet; refine mixed; kernel_rfl; kernel_rfl; kernel_rfl; conv => whnf)
 | ((first | refine if_t (by decide) ?_ | refine if_f (by decide) ?_ | refine if_decT (by omega) ?_ | refine if_decF (by omega) ?_ | refine if_ndecT (by omega) ?_ | refine if_ndecF (by omega) ?_); conv => whnf)
 | ((first | refine if_dec (fun h => ?_) (fun h => ?_) | refine if_ndec (fun h => ?_) (fun h => ?_) | refine if_cond (fun h => ?_) (fun h => ?_)); all_goals (conv => whnf))
 | with_reducible apply_assumption -symm -exfalso)
  rename_i A1 _ _
  refine r_rangeFunc (fun i => [.ext 5 (BxA 32 3 1 b i ([Value.int .i64 k].take i)), .ext 0 A1, .ext 0 A]) [[.v (.int .i64 k)]] 14 rfl ?_ (keys106 (bx := bx) (m := m) (v := v) hb) (by simp) (by decide) ?_ ?_
  · exact HSub.trans (HSub.perm ((List.perm_append_comm (l₁ := [_]) (l₂ := [_, _])).append_right [_, _])) (HSub.app2 BxA.nil (HSub.refl _))
  · intro i x hx lp rc W' S'
    obtain ⟨rfl, rfl⟩ : i = 0 ∧ [SV.v (.int .i64 k)] = x := by
      cases i with
      | zero => simpa using hx
      | succ i => simp at hx
    conv => whnf
    repeat' (first
 | with_reducible (first | refine r_seq (fun KS hS => ?_) | (refine hS _ _ ?_; clear hS KS) | (refine hA _ ?_; clear hA KA) | (refine hB _ ?_; clear hB KB) | refine r_block ?_)
 | ((with_reducible (first | refine r_region ?_ | refine r_cond (fun KA hA KB hB => ?_) | refine r_ret ?_ | refine r_skip ?_ | refine r_exit ?_ | refine And.intro rfl ?_ | intro b)); conv => whnf)
 | ((with_reducible refine WrapK.i64 ?_ ?_); (focus omega); conv => whnf)
 | ((with_reducible apply OpK.more); (focus refine sok); (conv => whnf); fail_if_success guard_target =ₛ False)
 | ((with_reducible (first | refine InAt.mk (fun K' hK => ?_) | refine AnyAt.mk (fun K' hK => ?_) | (refine hK _ ?_; clear hK K') | (refine hK _ _ ?_; clear hK K'))); conv => whnf)
 | ((refine And.intro ?_ ?_); all_goals (conv => whnf))
 | (apply r_quiet; refine mixed; kernel_rfl; kernel_rfl; kernel_rfl; conv => whnf)
 | ((first | refine if_t (by decide) ?_ | refine if_f (by decide) ?_ | refine if_decT (by omega) ?_ | refine if_decF (by omega) ?_ | refine if_ndecT (by omega) ?_ | refine if_ndecF (by omega) ?_); conv => whnf)
 | ((first | refine if_dec (fun h => ?_) (fun h => ?_) | refine if_ndec (fun h => ?_) (fun h => ?_) | refine if_cond (fun h => ?_) (fun h => ?_)); all_goals (conv => whnf))
 | with_reducible apply_assumption -symm -exfalso)
    refine ⟨_, rfl, ?_⟩
    refine r_block ?_
    refine Run.open (α := Option Addr × Nat) (A := []) (B := []) (fun z => [.ext 14 (lrA lp { rc with state := .busy }), .blk 2 b [.v (.slice z.1 0 z.2)] 32, .ext 3 (SlA 3 1 z.1 0 z.2 []), .ext 0 A1, .ext 0 A]) (fun w S h => BxA.open (X := [_]) (Y := [_, _]) h) ?_
    rintro ⟨a, cap⟩
    dsimp only
    repeat' (first
 | with_reducible (first | refine r_seq (fun KS hS => ?_) | (refine hS _ _ ?_; clear hS KS) | (refine hA _ ?_; clear hA KA) | (refine hB _ ?_; clear hB KB) | refine r_block ?_)
 | ((with_reducible (first | refine r_region ?_ | refine r_cond (fun KA hA KB hB => ?_) | refine r_ret ?_ | refine r_skip ?_ | refine r_exit ?_ | refine And.intro rfl ?_ | intro b)); conv => whnf)
 | ((with_reducible refine WrapK.i64 ?_ ?_); (focus omega); conv => whnf)
 | ((with_reducible refine OpK.id ?_); refine OpK.app (k := 1) rfl rfl rfl rfl rfl rfl rfl rfl (by repeat (first | with_reducible apply At.head | apply At.tail)) (SrcK.slc rfl rfl (by repeat (first | constructor | apply List.Mem.tail)) (Nat.le_refl _) rfl) (by show (0 + 1) * (8 + 1) ≤ 140737488355328; omega) (fun a' cap' => ?_); conv => whnf)
 | ((with_reducible apply OpK.more); (focus refine sok); (conv => whnf); fail_if_success guard_target =ₛ False)
 | ((with_reducible (first | refine InAt.mk (fun K' hK => ?_) | refine AnyAt.mk (fun K' hK => ?_) | (refine hK _ ?_; clear hK K') | (refine hK _ _ ?_; clear hK K'))); conv => whnf)
 | ((refine And.intro ?_ ?_); all_goals (conv => whnf))
 | (apply r_quiet; refine mixed; kernel_rfl; kernel_rfl; kernel_rfl; conv => whnf)
 | ((first | refine if_t (by decide) ?_ | refine if_f (by decide) ?_ | refine if_decT (by omega) ?_ | refine if_decF (by omega) ?_ | refine if_ndecT (by omega) ?_ | refine if_ndecF (by omega) ?_); conv => whnf)
 | ((first | refine if_dec (fun h => ?_) (fun h => ?_) | refine if_ndec (fun h => ?_) (fun h => ?_) | refine if_cond (fun h => ?_) (fun h => ?_)); all_goals (conv => whnf))
 | with_reducible apply_assumption -symm -exfalso)
    refine ⟨HSub.drop (HSub.ext (fun _ _ h => h) (HSub.app2 (A' := [_]) (A := [_, _]) BxA.close (HSub.refl _)))⟩
  · refine hS _ _ ?_
    clear hS KS
    refine Run.open (α := Option Addr × Nat) (A := []) (B := []) (fun z => [.blk 1 bx [.v (.map (some m))] 78, .ext 2 (MpA m [En k v b0] clk), .blk 2 b [.v (.slice z.1 1 z.2)] 32, .ext 3 (SlA 3 1 z.1 1 z.2 [.int .i64 k]), .ext 0 A1, .ext 0 A]) (fun w S h => BxA.open (X := [_, _]) (Y := [_, _]) h) ?_
    rintro ⟨a, cap⟩
    dsimp only
    repeat' (first
 | with_reducible (first | refine r_seq (fun KS hS => ?_) | (refine hS _ _ ?_; clear hS KS) | (refine hA _ ?_; clear hA KA) | (refine hB _ ?_; clear hB KB) | refine r_block ?_)
 | ((with_reducible (first | refine r_region ?_ | refine r_cond (fun KA hA KB hB => ?_) | refine r_ret ?_ | refine r_skip ?_ | refine r_exit ?_ | refine And.intro rfl ?_ | intro b)); conv => whnf)
 | ((with_reducible refine WrapK.i64 ?_ ?_); (focus omega); conv => whnf)
 | ((with_reducible refine CallK.at 60 ?_); refine CallK.pu (fun w => sort105 w) ?_; conv => whnf)
 | ((with_reducible apply OpK.more); (focus refine sok); (conv => whnf); fail_if_success guard_target =ₛ False)
 | ((with_reducible (first | refine InAt.mk (fun K' hK => ?_) | refine AnyAt.mk (fun K' hK => ?_) | (refine hK _ ?_; clear hK K') | (refine hK _ _ ?_; clear hK K'))); conv => whnf)
 | ((refine And.intro ?_ ?_); all_goals (conv => whnf))
 | (apply r_quiet; refine mixed; kernel_rfl; kernel_rfl; kernel_rfl; conv => whnf)
 | ((first | refine if_t (by decide) ?_ | refine if_f (by decide) ?_ | refine if_decT (by omega) ?_ | refine if_decF (by omega) ?_ | refine if_ndecT (by omega) ?_ | refine if_ndecF (by omega) ?_); conv => whnf)
 | ((first | refine if_dec (fun h => ?_) (fun h => ?_) | refine if_ndec (fun h => ?_) (fun h => ?_) | refine if_cond (fun h => ?_) (fun h => ?_)); all_goals (conv => whnf))
 | with_reducible apply_assumption -symm -exfalso)
    exact FinK.frZL (a, cap) rfl (by (try dsimp only [List.cons_append, List.nil_append, den, denL]); refine SelI.spec ?_; (repeat (first | refine SelI.blk (by repeat (first | with_reducible apply Rm.head | apply Rm.tail)) ?_ | refine SelI.ext (by repeat (first | with_reducible apply Rm.head | apply Rm.tail)) ?_ | (refine SelI.blk' (by repeat (first | with_reducible apply Rm.head | apply Rm.tail)) ?_ ?_; focus rfl) | (refine SelI.ext' (by repeat (first | with_reducible apply Rm.head | apply Rm.tail)) ?_ ?_; focus rfl))); exact SelI.nil)
end Go.Proofs.YthmjkaljkgjicaaGreatDoor

namespace Go.Proofs.YthmjkaljkgjicaaGreatDoor
open Go Go.X
set_option maxRecDepth 100000
set_option maxHeartbeats 0
def DC (n gs tk : Int) (m : Nat) : List SV := [.v (.int .i64 n), .v (.int .i64 gs), .v (.int .i64 tk), .v (.map (some m))]
def DAt (w : World) (d : Nat) (n gs tk : Int) (m : Nat) : Prop := w.heap[d]? = some (.cells (denL (DC n gs tk m)).toArray 80 (0, 0))
theorem KAt.ne {w : World} {d : Nat} {n gs tk : Int} {m : Nat} (h : KAt w) (hd : DAt w d n gs tk m) : ¬ (0 : Nat) = d := by
  rintro rfl
  obtain ⟨_, C, t, f, h1, h2, _⟩ := h
  unfold DAt at hd
  rw [h1] at hd
  simp only [Option.some.injEq, Obj.cells.injEq] at hd
  have := h2 0 _ rfl
  rw [hd.1] at this
  simp [denL, DC] at this
theorem target20 {s t p m : Int} {i : Bool} {g : Int} {w : World} {d : Nat} {n gs tk tries : Int} {mp : Nat} (hd : DAt w d n gs tk mp) (h : ItemOk s t p m i g) (hn : 1 ≤ n ∧ n ≤ 7) (hg : g < gs) (ht : 0 ≤ tries ∧ tries ≤ 9223372036854775807) :
    Pu Tryz.prog 33 #[pv d, .agg #[.int .i64 s, .int .i64 t, .int .i64 p, .int .i64 m, .bool i, .int .i64 g], .int .i64 tries] w (.tuple #[.int .i64 (g * n + tries % n), .int .i64 0]) := by
  have h' := h
  obtain ⟨h1, h2, _⟩ := h'
  have hgn : 0 ≤ g * n ∧ g * n ≤ 49 := ⟨Int.mul_nonneg (by omega) (by omega), by
    have := Int.mul_le_mul h2 hn.2 (by omega) (by omega)
    omega⟩
  have hrm : 0 ≤ tries % n ∧ tries % n < n := ⟨Int.emod_nonneg _ (by omega), Int.emod_lt_of_pos _ (by omega)⟩
  refine Pu.ofFrZ (enter_ro TBok (cs := DC n gs tk mp) hd Tryz.func33 rfl rfl Tryz.ntmps33 [.loc d 10 0, .agg [.v (.int .i64 s), .v (.int .i64 t), .v (.int .i64 p), .v (.int .i64 m), .v (.bool i), .v (.int .i64 g)], .v (.int .i64 tries)] rfl rfl ?_)
  unfold DC
  conv => whnf
  repeat' (first
 | with_reducible (first | refine r_seq (fun KS hS => ?_) | (refine hS _ _ ?_; clear hS KS) | (refine hA _ ?_; clear hA KA) | (refine hB _ ?_; clear hB KB) | refine r_block ?_)
 | ((with_reducible (first | refine r_region ?_ | refine r_cond (fun KA hA KB hB => ?_) | refine r_ret ?_ | refine r_skip ?_ | refine r_exit ?_ | refine And.intro rfl ?_ | intro b)); conv => whnf)
 | ((with_reducible refine WrapK.i64 ?_ ?_); (focus omega); conv => whnf)
 | (apply in45; rfl; rfl; rfl; intro A; conv => whnf)
 | ((with_reducible refine CallK.at 47 ?_); refine CallK.pu (fun w => itemOk50 h w) ?_; conv => whnf)
 | ((with_reducible refine CallQ.at 47 ?_); refine CallQ.pu (fun w => itemOk50 h w) ?_; conv => whnf)
 | ((with_reducible refine RemK.id ?_); refine RemK.eq (by omega) (IntWalk.rem_in _ _ (by omega)) ?_; conv => whnf)
 | ((with_reducible apply OpK.more); (focus refine sok); (conv => whnf); fail_if_success guard_target =ₛ False)
 | ((with_reducible (first | refine InAt.mk (fun K' hK => ?_) | refine AnyAt.mk (fun K' hK => ?_) | (refine hK _ ?_; clear hK K') | (refine hK _ _ ?_; clear hK K'))); conv => whnf)
 | ((refine And.intro ?_ ?_); all_goals (conv => whnf))
 | (apply r_quiet; refine mixed; kernel_rfl; kernel_rfl; kernel_rfl; conv => whnf)
 | ((first | refine if_t (by decide) ?_ | refine if_f (by decide) ?_ | refine if_decT (by omega) ?_ | refine if_decF (by omega) ?_ | refine if_ndecT (by omega) ?_ | refine if_ndecF (by omega) ?_); conv => whnf)
 | ((first | refine if_dec (fun h => ?_) (fun h => ?_) | refine if_ndec (fun h => ?_) (fun h => ?_) | refine if_cond (fun h => ?_) (fun h => ?_)); all_goals (conv => whnf))
 | with_reducible apply_assumption -symm -exfalso)
  all_goals exact FinK.ro0 rfl (HSub.pick (by repeat (first | with_reducible apply At.head | apply At.tail)))
theorem okEff {s t p g : Nat} {k : ByteArray} {dl : Int} (h : EffOk s t p) (hg : 1 ≤ g ∧ g ≤ 7) (hk : nameOk k = true) (hks : k.size ≤ 16) (hdl : dl ≠ 0) (hn : NumOk dl) : ItemOk s t p 0 false g := ⟨by omega, by omega, .inl ⟨rfl, rfl, h⟩⟩
theorem fitsEff61 {s t p g : Nat} {k : ByteArray} {dl : Int} (h : EffOk s t p) (hg : 1 ≤ g ∧ g ≤ 7) (hk : nameOk k = true) (hks : k.size ≤ 16) (hdl : dl ≠ 0) (hn : NumOk dl) (w : World) : Pu Tryz.prog 32 #[.agg #[.int .i64 1, .int .i64 0, .int .i64 0, .int .i64 (s : Nat), .int .i64 (t : Nat), .int .i64 (p : Nat), .string k, .int .i64 dl, .int .i64 0, .string ⟨#[]⟩, .string ⟨#[]⟩, .int .i64 0, .string ⟨#[]⟩, .int .i64 0, .int .i64 0, .slice none 0 0, .int .i64 0, .int .i64 0, .int .i64 0, .int .i64 0, .bool false, .int .i64 0, .int .i64 0, .string ⟨#[]⟩], .agg #[.int .i64 (s : Nat), .int .i64 (t : Nat), .int .i64 (p : Nat), .int .i64 0, .bool false, .int .i64 (g : Nat)]] w (.bool true) := by
  have h0 := h
  unfold EffOk at h0
  refine enter_sound TBok Tryz.func32 rfl rfl Tryz.ntmps32 [.agg [.v (.int .i64 1), .v (.int .i64 0), .v (.int .i64 0), .v (.int .i64 (s : Nat)), .v (.int .i64 (t : Nat)), .v (.int .i64 (p : Nat)), .v (.string k), .v (.int .i64 dl), .v (.int .i64 0), .v (.string ⟨#[]⟩), .v (.string ⟨#[]⟩), .v (.int .i64 0), .v (.string ⟨#[]⟩), .v (.int .i64 0), .v (.int .i64 0), .v (.slice none 0 0), .v (.int .i64 0), .v (.int .i64 0), .v (.int .i64 0), .v (.int .i64 0), .v (.bool false), .v (.int .i64 0), .v (.int .i64 0), .v (.string ⟨#[]⟩)], .agg [.v (.int .i64 (s : Nat)), .v (.int .i64 (t : Nat)), .v (.int .i64 (p : Nat)), .v (.int .i64 0), .v (.bool false), .v (.int .i64 (g : Nat))]] (Kn.start w noS) rfl rfl ?_
  conv => whnf
  repeat' (first
 | with_reducible (first | refine r_seq (fun KS hS => ?_) | (refine hS _ _ ?_; clear hS KS) | (refine hA _ ?_; clear hA KA) | (refine hB _ ?_; clear hB KB) | refine r_block ?_)
 | ((with_reducible (first | refine r_region ?_ | refine r_cond (fun KA hA KB hB => ?_) | refine r_ret ?_ | refine r_skip ?_ | refine r_exit ?_ | refine And.intro rfl ?_ | intro b)); conv => whnf)
 | ((with_reducible refine WrapK.i64 ?_ ?_); (focus omega); conv => whnf)
 | ((with_reducible refine CallK.at 48 ?_); refine CallK.pu (fun w => checkEff102 h hk (by omega) hdl hn w) ?_; conv => whnf)
 | (refine if_t (by first | (simp; done) | (simp; omega)) ?_; conv => whnf)
 | ((with_reducible apply OpK.more); (focus refine sok); (conv => whnf); fail_if_success guard_target =ₛ False)
 | ((with_reducible (first | refine InAt.mk (fun K' hK => ?_) | refine AnyAt.mk (fun K' hK => ?_) | (refine hK _ ?_; clear hK K') | (refine hK _ _ ?_; clear hK K'))); conv => whnf)
 | ((refine And.intro ?_ ?_); all_goals (conv => whnf))
 | (apply r_quiet; refine mixed; kernel_rfl; kernel_rfl; kernel_rfl; conv => whnf)
 | ((first | refine if_t (by decide) ?_ | refine if_f (by decide) ?_ | refine if_decT (by omega) ?_ | refine if_decF (by omega) ?_ | refine if_ndecT (by omega) ?_ | refine if_ndecF (by omega) ?_); conv => whnf)
 | ((first | refine if_dec (fun h => ?_) (fun h => ?_) | refine if_ndec (fun h => ?_) (fun h => ?_) | refine if_cond (fun h => ?_) (fun h => ?_)); all_goals (conv => whnf))
 | with_reducible apply_assumption -symm -exfalso)
  all_goals (refine FinK.pu ?_; first | (simp [den]; done) | (simp [den]; omega))
theorem fromIEff75 {s t p g : Nat} {k : ByteArray} {dl : Int} (h : EffOk s t p) (hg : 1 ≤ g ∧ g ≤ 7) (hk : nameOk k = true) (hks : k.size ≤ 16) (hdl : dl ≠ 0) (hn : NumOk dl) {num : Nat} (hnum : (num : Int) = ((((s : Int) - 1) * 8 + t) * 3 + p - 1) * 7 + g) (w : World) : Pu Tryz.prog 62 #[.int .i64 (num : Nat)] w (.tuple #[.agg #[.int .i64 (s : Nat), .int .i64 (t : Nat), .int .i64 (p : Nat), .int .i64 0, .bool false, .int .i64 (g : Nat)], .int .i64 0]) := by
  have h0 := h
  unfold EffOk at h0
  refine Pu.congr (fromEff75 (n := num) (by omega) w) ?_
  congr 2
  simp only [List.cons.injEq, Value.agg.injEq, Value.int.injEq, Value.bool.injEq, Array.mk.injEq, true_and, and_true, decide_eq_true_eq, decide_eq_false_iff_not]
  omega
theorem questionEff41 {s t p g : Nat} {k : ByteArray} {dl : Int} (h : EffOk s t p) (hg : 1 ≤ g ∧ g ≤ 7) (hk : nameOk k = true) (hks : k.size ≤ 16) (hdl : dl ≠ 0) (hn : NumOk dl) {w : World} {d f to num : Nat} {n gs tk : Int} {mp : Nat} {v : ByteArray} (hd : DAt w d n gs tk mp) (hka : KAt w) (hn7 : 1 ≤ n ∧ n ≤ 7) (hgs : g < gs) (hf : f < n) (hto : (to : Int) / n = g) (hto2 : to ≤ 55) (hft : f < to ∨ to < f) (hnum : (num : Int) = ((((s : Int) - 1) * 8 + t) * 3 + p - 1) * 7 + g) (hv : v.data.toList = uvar 1 ++ (uvar s ++ (uvar t ++ (uvar p ++ (uvar k.size ++ k.data.toList ++ (uvar (zigN dl) ++ [])))))) (hvs : v.size ≤ 65536) : Pu Tryz.prog 37 #[pv d, .agg #[.int .i64 10, .int .i64 (f : Nat), .int .i64 (to : Nat), .int .i64 0, .int .i64 0, .int .i64 0, .int .i64 (num : Nat), .string v, .slice none 0 0]] w (.tuple #[.agg #[.int .i64 (s : Nat), .int .i64 (t : Nat), .int .i64 (p : Nat), .int .i64 0, .bool false, .int .i64 (g : Nat)], .agg #[.int .i64 1, .int .i64 0, .int .i64 0, .int .i64 (s : Nat), .int .i64 (t : Nat), .int .i64 (p : Nat), .string k, .int .i64 dl, .int .i64 0, .string ⟨#[]⟩, .string ⟨#[]⟩, .int .i64 0, .string ⟨#[]⟩, .int .i64 0, .int .i64 0, .slice none 0 0, .int .i64 0, .int .i64 0, .int .i64 0, .int .i64 0, .bool false, .int .i64 0, .int .i64 0, .string ⟨#[]⟩], .bool true]) := by
  have h0 := h
  unfold EffOk at h0
  have hne := hka.ne hd
  refine Pu.ofFrZ (enter_ro TBok (cs := DC n gs tk mp) hd Tryz.func37 rfl rfl Tryz.ntmps37 [.loc d 10 0, .agg [.v (.int .i64 10), .v (.int .i64 (f : Nat)), .v (.int .i64 (to : Nat)), .v (.int .i64 0), .v (.int .i64 0), .v (.int .i64 0), .v (.int .i64 (num : Nat)), .v (.string v), .v (.slice none 0 0)]] rfl rfl ?_)
  unfold DC
  have hq : IntKind.i64.wrap ((to : Int).tdiv n) = (g : Int) := by rw [IntWalk.i64_quo _ _ (by omega), hto]
  conv => whnf
  repeat' (first
 | with_reducible (first | refine r_seq (fun KS hS => ?_) | (refine hS _ _ ?_; clear hS KS) | (refine hA _ ?_; clear hA KA) | (refine hB _ ?_; clear hB KB) | refine r_block ?_)
 | ((with_reducible (first | refine r_region ?_ | refine r_cond (fun KA hA KB hB => ?_) | refine r_ret ?_ | refine r_skip ?_ | refine r_exit ?_ | refine And.intro rfl ?_ | intro b)); conv => whnf)
 | ((with_reducible refine WrapK.i64 ?_ ?_); (focus omega); conv => whnf)
 | (apply in45; rfl; rfl; rfl; intro A; conv => whnf)
 | ((with_reducible refine CallK.at 62 ?_); refine CallK.pu (fun w => fromIEff75 h hg hk hks hdl hn hnum w) ?_; conv => whnf)
 | ((with_reducible refine CallK.at 39 ?_); refine CallK.puW (fun ms w hk => check_ask28 (hka.now hne hk) (by omega) (by omega) hft (by omega) hvs) ?_; conv => whnf)
 | ((with_reducible refine QuoK.id ?_); refine QuoK.eq (by omega) hq ?_; conv => whnf)
 | ((with_reducible refine OpK.id ?_); refine OpK.cvSB rfl rfl rfl rfl rfl rfl rfl rfl ?_; rw [hv]; conv => whnf)
 | (intro a' cap'; conv => whnf)
 | ((with_reducible refine CallK.at 63 ?_); refine CallK.puW (fun ms w hkn => decEff76 (k := k) (d := dl) (Sees.rd (Sees.ext (by repeat (first | with_reducible apply At.head | apply At.tail))) hkn) h hk hks hdl hn hvs) ?_; conv => whnf)
 | ((with_reducible refine CallK.at 32 ?_); refine CallK.pu (fun w => fitsEff61 h hg hk hks hdl hn w) ?_; conv => whnf)
 | (apply r_any (id := 7); refine mixed; kernel_rfl; kernel_rfl; conv => whnf)
 | ((with_reducible apply OpK.more); (focus refine sok); (conv => whnf); fail_if_success guard_target =ₛ False)
 | ((with_reducible (first | refine InAt.mk (fun K' hK => ?_) | refine AnyAt.mk (fun K' hK => ?_) | (refine hK _ ?_; clear hK K') | (refine hK _ _ ?_; clear hK K'))); conv => whnf)
 | ((refine And.intro ?_ ?_); all_goals (conv => whnf))
 | (apply r_quiet; refine mixed; kernel_rfl; kernel_rfl; kernel_rfl; conv => whnf)
 | ((first | refine if_t (by decide) ?_ | refine if_f (by decide) ?_ | refine if_decT (by omega) ?_ | refine if_decF (by omega) ?_ | refine if_ndecT (by omega) ?_ | refine if_ndecF (by omega) ?_); conv => whnf)
 | ((first | refine if_dec (fun h => ?_) (fun h => ?_) | refine if_ndec (fun h => ?_) (fun h => ?_) | refine if_cond (fun h => ?_) (fun h => ?_)); all_goals (conv => whnf))
 | with_reducible apply_assumption -symm -exfalso)
  all_goals exact FinK.ro0 rfl (HSub.pick (by repeat (first | with_reducible apply At.head | apply At.tail)))
theorem okOut {m g : Nat} {f1 : ByteArray} (h : 1 ≤ (m : Int) ∧ (m : Int) ≤ 64) (hg : 1 ≤ g ∧ g ≤ 7) (hf1 : nameOk f1 = true) (hs : f1.size ≤ 16) : ItemOk 0 0 0 m false g := ⟨by omega, by omega, .inr ⟨by omega, by omega, rfl, rfl, rfl⟩⟩
theorem fitsOut61 {m g : Nat} {f1 : ByteArray} (h : 1 ≤ (m : Int) ∧ (m : Int) ≤ 64) (hg : 1 ≤ g ∧ g ≤ 7) (hf1 : nameOk f1 = true) (hs : f1.size ≤ 16) (w : World) : Pu Tryz.prog 32 #[.agg #[.int .i64 3, .int .i64 0, .int .i64 0, .int .i64 0, .int .i64 0, .int .i64 0, .string ⟨#[]⟩, .int .i64 0, .int .i64 (m : Nat), .string f1, .string ⟨#[]⟩, .int .i64 0, .string ⟨#[]⟩, .int .i64 0, .int .i64 0, .slice none 0 0, .int .i64 0, .int .i64 0, .int .i64 0, .int .i64 0, .bool false, .int .i64 0, .int .i64 0, .string ⟨#[]⟩], .agg #[.int .i64 0, .int .i64 0, .int .i64 0, .int .i64 (m : Nat), .bool false, .int .i64 (g : Nat)]] w (.bool true) := by
  refine enter_sound TBok Tryz.func32 rfl rfl Tryz.ntmps32 [.agg [.v (.int .i64 3), .v (.int .i64 0), .v (.int .i64 0), .v (.int .i64 0), .v (.int .i64 0), .v (.int .i64 0), .v (.string ⟨#[]⟩), .v (.int .i64 0), .v (.int .i64 (m : Nat)), .v (.string f1), .v (.string ⟨#[]⟩), .v (.int .i64 0), .v (.string ⟨#[]⟩), .v (.int .i64 0), .v (.int .i64 0), .v (.slice none 0 0), .v (.int .i64 0), .v (.int .i64 0), .v (.int .i64 0), .v (.int .i64 0), .v (.bool false), .v (.int .i64 0), .v (.int .i64 0), .v (.string ⟨#[]⟩)], .agg [.v (.int .i64 0), .v (.int .i64 0), .v (.int .i64 0), .v (.int .i64 (m : Nat)), .v (.bool false), .v (.int .i64 (g : Nat))]] (Kn.start w noS) rfl rfl ?_
  conv => whnf
  repeat' (first
 | with_reducible (first | refine r_seq (fun KS hS => ?_) | (refine hS _ _ ?_; clear hS KS) | (refine hA _ ?_; clear hA KA) | (refine hB _ ?_; clear hB KB) | refine r_block ?_)
 | ((with_reducible (first | refine r_region ?_ | refine r_cond (fun KA hA KB hB => ?_) | refine r_ret ?_ | refine r_skip ?_ | refine r_exit ?_ | refine And.intro rfl ?_ | intro b)); conv => whnf)
 | ((with_reducible refine WrapK.i64 ?_ ?_); (focus omega); conv => whnf)
 | ((with_reducible refine CallK.at 48 ?_); refine CallK.pu (fun w => checkOut102 h hf1 (by omega) w) ?_; conv => whnf)
 | (refine if_t (by first | (simp; done) | (simp; omega)) ?_; conv => whnf)
 | ((with_reducible apply OpK.more); (focus refine sok); (conv => whnf); fail_if_success guard_target =ₛ False)
 | ((with_reducible (first | refine InAt.mk (fun K' hK => ?_) | refine AnyAt.mk (fun K' hK => ?_) | (refine hK _ ?_; clear hK K') | (refine hK _ _ ?_; clear hK K'))); conv => whnf)
 | ((refine And.intro ?_ ?_); all_goals (conv => whnf))
 | (apply r_quiet; refine mixed; kernel_rfl; kernel_rfl; kernel_rfl; conv => whnf)
 | ((first | refine if_t (by decide) ?_ | refine if_f (by decide) ?_ | refine if_decT (by omega) ?_ | refine if_decF (by omega) ?_ | refine if_ndecT (by omega) ?_ | refine if_ndecF (by omega) ?_); conv => whnf)
 | ((first | refine if_dec (fun h => ?_) (fun h => ?_) | refine if_ndec (fun h => ?_) (fun h => ?_) | refine if_cond (fun h => ?_) (fun h => ?_)); all_goals (conv => whnf))
 | with_reducible apply_assumption -symm -exfalso)
  all_goals (refine FinK.pu ?_; first | (simp [den]; done) | (simp [den]; omega))
theorem fromIOut75 {m g : Nat} {f1 : ByteArray} (h : 1 ≤ (m : Int) ∧ (m : Int) ≤ 64) (hg : 1 ≤ g ∧ g ≤ 7) (hf1 : nameOk f1 = true) (hs : f1.size ≤ 16) {num : Nat} (hnum : (num : Int) = (239976 + 2 * (m : Int) - 2) * 7 + g) (w : World) : Pu Tryz.prog 62 #[.int .i64 (num : Nat)] w (.tuple #[.agg #[.int .i64 0, .int .i64 0, .int .i64 0, .int .i64 (m : Nat), .bool false, .int .i64 (g : Nat)], .int .i64 0]) := by
  refine Pu.congr (fromMove75 (n := num) (by omega) w) ?_
  congr 2
  simp only [List.cons.injEq, Value.agg.injEq, Value.int.injEq, Value.bool.injEq, Array.mk.injEq, true_and, and_true, decide_eq_true_eq, decide_eq_false_iff_not]
  omega
theorem questionOut41 {m g : Nat} {f1 : ByteArray} (h : 1 ≤ (m : Int) ∧ (m : Int) ≤ 64) (hg : 1 ≤ g ∧ g ≤ 7) (hf1 : nameOk f1 = true) (hs : f1.size ≤ 16) {w : World} {d f to num : Nat} {n gs tk : Int} {mp : Nat} {v : ByteArray} (hd : DAt w d n gs tk mp) (hka : KAt w) (hn7 : 1 ≤ n ∧ n ≤ 7) (hgs : g < gs) (hf : f < n) (hto : (to : Int) / n = g) (hto2 : to ≤ 55) (hft : f < to ∨ to < f) (hnum : (num : Int) = (239976 + 2 * (m : Int) - 2) * 7 + g) (hv : v.data.toList = uvar 3 ++ (uvar m ++ (uvar f1.size ++ f1.data.toList ++ (uvar (ByteArray.mk #[]).size ++ (ByteArray.mk #[]).data.toList ++ [])))) (hvs : v.size ≤ 65536) : Pu Tryz.prog 37 #[pv d, .agg #[.int .i64 10, .int .i64 (f : Nat), .int .i64 (to : Nat), .int .i64 0, .int .i64 0, .int .i64 0, .int .i64 (num : Nat), .string v, .slice none 0 0]] w (.tuple #[.agg #[.int .i64 0, .int .i64 0, .int .i64 0, .int .i64 (m : Nat), .bool false, .int .i64 (g : Nat)], .agg #[.int .i64 3, .int .i64 0, .int .i64 0, .int .i64 0, .int .i64 0, .int .i64 0, .string ⟨#[]⟩, .int .i64 0, .int .i64 (m : Nat), .string f1, .string ⟨#[]⟩, .int .i64 0, .string ⟨#[]⟩, .int .i64 0, .int .i64 0, .slice none 0 0, .int .i64 0, .int .i64 0, .int .i64 0, .int .i64 0, .bool false, .int .i64 0, .int .i64 0, .string ⟨#[]⟩], .bool true]) := by
  have hne := hka.ne hd
  refine Pu.ofFrZ (enter_ro TBok (cs := DC n gs tk mp) hd Tryz.func37 rfl rfl Tryz.ntmps37 [.loc d 10 0, .agg [.v (.int .i64 10), .v (.int .i64 (f : Nat)), .v (.int .i64 (to : Nat)), .v (.int .i64 0), .v (.int .i64 0), .v (.int .i64 0), .v (.int .i64 (num : Nat)), .v (.string v), .v (.slice none 0 0)]] rfl rfl ?_)
  unfold DC
  have hq : IntKind.i64.wrap ((to : Int).tdiv n) = (g : Int) := by rw [IntWalk.i64_quo _ _ (by omega), hto]
  conv => whnf
  repeat' (first
 | with_reducible (first | refine r_seq (fun KS hS => ?_) | (refine hS _ _ ?_; clear hS KS) | (refine hA _ ?_; clear hA KA) | (refine hB _ ?_; clear hB KB) | refine r_block ?_)
 | ((with_reducible (first | refine r_region ?_ | refine r_cond (fun KA hA KB hB => ?_) | refine r_ret ?_ | refine r_skip ?_ | refine r_exit ?_ | refine And.intro rfl ?_ | intro b)); conv => whnf)
 | ((with_reducible refine WrapK.i64 ?_ ?_); (focus omega); conv => whnf)
 | (apply in45; rfl; rfl; rfl; intro A; conv => whnf)
 | ((with_reducible refine CallK.at 62 ?_); refine CallK.pu (fun w => fromIOut75 h hg hf1 hs hnum w) ?_; conv => whnf)
 | ((with_reducible refine CallK.at 39 ?_); refine CallK.puW (fun ms w hk => check_ask28 (hka.now hne hk) (by omega) (by omega) hft (by omega) hvs) ?_; conv => whnf)
 | ((with_reducible refine QuoK.id ?_); refine QuoK.eq (by omega) hq ?_; conv => whnf)
 | ((with_reducible refine OpK.id ?_); refine OpK.cvSB rfl rfl rfl rfl rfl rfl rfl rfl ?_; rw [hv]; conv => whnf)
 | (intro a' cap'; conv => whnf)
 | ((with_reducible refine CallK.at 63 ?_); refine CallK.puW (fun ms w hkn => decOut76 (f := f1) (Sees.rd (Sees.ext (by repeat (first | with_reducible apply At.head | apply At.tail))) hkn) h hf1 hs hvs) ?_; conv => whnf)
 | ((with_reducible refine CallK.at 32 ?_); refine CallK.pu (fun w => fitsOut61 h hg hf1 hs w) ?_; conv => whnf)
 | (apply r_any (id := 7); refine mixed; kernel_rfl; kernel_rfl; conv => whnf)
 | ((with_reducible apply OpK.more); (focus refine sok); (conv => whnf); fail_if_success guard_target =ₛ False)
 | ((with_reducible (first | refine InAt.mk (fun K' hK => ?_) | refine AnyAt.mk (fun K' hK => ?_) | (refine hK _ ?_; clear hK K') | (refine hK _ _ ?_; clear hK K'))); conv => whnf)
 | ((refine And.intro ?_ ?_); all_goals (conv => whnf))
 | (apply r_quiet; refine mixed; kernel_rfl; kernel_rfl; kernel_rfl; conv => whnf)
 | ((first | refine if_t (by decide) ?_ | refine if_f (by decide) ?_ | refine if_decT (by omega) ?_ | refine if_decF (by omega) ?_ | refine if_ndecT (by omega) ?_ | refine if_ndecF (by omega) ?_); conv => whnf)
 | ((first | refine if_dec (fun h => ?_) (fun h => ?_) | refine if_ndec (fun h => ?_) (fun h => ?_) | refine if_cond (fun h => ?_) (fun h => ?_)); all_goals (conv => whnf))
 | with_reducible apply_assumption -symm -exfalso)
  all_goals exact FinK.ro0 rfl (HSub.pick (by repeat (first | with_reducible apply At.head | apply At.tail)))
theorem okIn {m g : Nat} {f1 x : ByteArray} (h : 1 ≤ (m : Int) ∧ (m : Int) ≤ 64) (hg : 1 ≤ g ∧ g ≤ 7) (hf1 : nameOk f1 = true) (hs : f1.size ≤ 16) (hx : x.size ≤ 65536) : ItemOk 0 0 0 m true g := ⟨by omega, by omega, .inr ⟨by omega, by omega, rfl, rfl, rfl⟩⟩
theorem fitsIn61 {m g : Nat} {f1 x : ByteArray} (h : 1 ≤ (m : Int) ∧ (m : Int) ≤ 64) (hg : 1 ≤ g ∧ g ≤ 7) (hf1 : nameOk f1 = true) (hs : f1.size ≤ 16) (hx : x.size ≤ 65536) (w : World) : Pu Tryz.prog 32 #[.agg #[.int .i64 4, .int .i64 0, .int .i64 0, .int .i64 0, .int .i64 0, .int .i64 0, .string ⟨#[]⟩, .int .i64 0, .int .i64 (m : Nat), .string f1, .string ⟨#[]⟩, .int .i64 0, .string ⟨#[]⟩, .int .i64 0, .int .i64 0, .slice none 0 0, .int .i64 0, .int .i64 0, .int .i64 0, .int .i64 0, .bool false, .int .i64 0, .int .i64 0, .string x], .agg #[.int .i64 0, .int .i64 0, .int .i64 0, .int .i64 (m : Nat), .bool true, .int .i64 (g : Nat)]] w (.bool true) := by
  refine enter_sound TBok Tryz.func32 rfl rfl Tryz.ntmps32 [.agg [.v (.int .i64 4), .v (.int .i64 0), .v (.int .i64 0), .v (.int .i64 0), .v (.int .i64 0), .v (.int .i64 0), .v (.string ⟨#[]⟩), .v (.int .i64 0), .v (.int .i64 (m : Nat)), .v (.string f1), .v (.string ⟨#[]⟩), .v (.int .i64 0), .v (.string ⟨#[]⟩), .v (.int .i64 0), .v (.int .i64 0), .v (.slice none 0 0), .v (.int .i64 0), .v (.int .i64 0), .v (.int .i64 0), .v (.int .i64 0), .v (.bool false), .v (.int .i64 0), .v (.int .i64 0), .v (.string x)], .agg [.v (.int .i64 0), .v (.int .i64 0), .v (.int .i64 0), .v (.int .i64 (m : Nat)), .v (.bool true), .v (.int .i64 (g : Nat))]] (Kn.start w noS) rfl rfl ?_
  conv => whnf
  repeat' (first
 | with_reducible (first | refine r_seq (fun KS hS => ?_) | (refine hS _ _ ?_; clear hS KS) | (refine hA _ ?_; clear hA KA) | (refine hB _ ?_; clear hB KB) | refine r_block ?_)
 | ((with_reducible (first | refine r_region ?_ | refine r_cond (fun KA hA KB hB => ?_) | refine r_ret ?_ | refine r_skip ?_ | refine r_exit ?_ | refine And.intro rfl ?_ | intro b)); conv => whnf)
 | ((with_reducible refine WrapK.i64 ?_ ?_); (focus omega); conv => whnf)
 | ((with_reducible refine CallK.at 48 ?_); refine CallK.pu (fun w => checkIn102 h hf1 (by omega) hx w) ?_; conv => whnf)
 | (refine if_t (by first | (simp; done) | (simp; omega)) ?_; conv => whnf)
 | ((with_reducible apply OpK.more); (focus refine sok); (conv => whnf); fail_if_success guard_target =ₛ False)
 | ((with_reducible (first | refine InAt.mk (fun K' hK => ?_) | refine AnyAt.mk (fun K' hK => ?_) | (refine hK _ ?_; clear hK K') | (refine hK _ _ ?_; clear hK K'))); conv => whnf)
 | ((refine And.intro ?_ ?_); all_goals (conv => whnf))
 | (apply r_quiet; refine mixed; kernel_rfl; kernel_rfl; kernel_rfl; conv => whnf)
 | ((first | refine if_t (by decide) ?_ | refine if_f (by decide) ?_ | refine if_decT (by omega) ?_ | refine if_decF (by omega) ?_ | refine if_ndecT (by omega) ?_ | refine if_ndecF (by omega) ?_); conv => whnf)
 | ((first | refine if_dec (fun h => ?_) (fun h => ?_) | refine if_ndec (fun h => ?_) (fun h => ?_) | refine if_cond (fun h => ?_) (fun h => ?_)); all_goals (conv => whnf))
 | with_reducible apply_assumption -symm -exfalso)
  all_goals (refine FinK.pu ?_; first | (simp [den]; done) | (simp [den]; omega))
theorem fromIIn75 {m g : Nat} {f1 x : ByteArray} (h : 1 ≤ (m : Int) ∧ (m : Int) ≤ 64) (hg : 1 ≤ g ∧ g ≤ 7) (hf1 : nameOk f1 = true) (hs : f1.size ≤ 16) (hx : x.size ≤ 65536) {num : Nat} (hnum : (num : Int) = (239976 + 2 * (m : Int) - 1) * 7 + g) (w : World) : Pu Tryz.prog 62 #[.int .i64 (num : Nat)] w (.tuple #[.agg #[.int .i64 0, .int .i64 0, .int .i64 0, .int .i64 (m : Nat), .bool true, .int .i64 (g : Nat)], .int .i64 0]) := by
  refine Pu.congr (fromMove75 (n := num) (by omega) w) ?_
  congr 2
  simp only [List.cons.injEq, Value.agg.injEq, Value.int.injEq, Value.bool.injEq, Array.mk.injEq, true_and, and_true, decide_eq_true_eq, decide_eq_false_iff_not]
  omega
theorem questionIn41 {m g : Nat} {f1 x : ByteArray} (h : 1 ≤ (m : Int) ∧ (m : Int) ≤ 64) (hg : 1 ≤ g ∧ g ≤ 7) (hf1 : nameOk f1 = true) (hs : f1.size ≤ 16) (hx : x.size ≤ 65536) {w : World} {d f to num : Nat} {n gs tk : Int} {mp : Nat} {v : ByteArray} (hd : DAt w d n gs tk mp) (hka : KAt w) (hn7 : 1 ≤ n ∧ n ≤ 7) (hgs : g < gs) (hf : f < n) (hto : (to : Int) / n = g) (hto2 : to ≤ 55) (hft : f < to ∨ to < f) (hnum : (num : Int) = (239976 + 2 * (m : Int) - 1) * 7 + g) (hv : v.data.toList = uvar 4 ++ (uvar m ++ (uvar f1.size ++ f1.data.toList ++ (uvar (ByteArray.mk #[]).size ++ (ByteArray.mk #[]).data.toList ++ (uvar x.size ++ x.data.toList ++ []))))) (hvs : v.size ≤ 65536) : Pu Tryz.prog 37 #[pv d, .agg #[.int .i64 10, .int .i64 (f : Nat), .int .i64 (to : Nat), .int .i64 0, .int .i64 0, .int .i64 0, .int .i64 (num : Nat), .string v, .slice none 0 0]] w (.tuple #[.agg #[.int .i64 0, .int .i64 0, .int .i64 0, .int .i64 (m : Nat), .bool true, .int .i64 (g : Nat)], .agg #[.int .i64 4, .int .i64 0, .int .i64 0, .int .i64 0, .int .i64 0, .int .i64 0, .string ⟨#[]⟩, .int .i64 0, .int .i64 (m : Nat), .string f1, .string ⟨#[]⟩, .int .i64 0, .string ⟨#[]⟩, .int .i64 0, .int .i64 0, .slice none 0 0, .int .i64 0, .int .i64 0, .int .i64 0, .int .i64 0, .bool false, .int .i64 0, .int .i64 0, .string x], .bool true]) := by
  have hne := hka.ne hd
  refine Pu.ofFrZ (enter_ro TBok (cs := DC n gs tk mp) hd Tryz.func37 rfl rfl Tryz.ntmps37 [.loc d 10 0, .agg [.v (.int .i64 10), .v (.int .i64 (f : Nat)), .v (.int .i64 (to : Nat)), .v (.int .i64 0), .v (.int .i64 0), .v (.int .i64 0), .v (.int .i64 (num : Nat)), .v (.string v), .v (.slice none 0 0)]] rfl rfl ?_)
  unfold DC
  have hq : IntKind.i64.wrap ((to : Int).tdiv n) = (g : Int) := by rw [IntWalk.i64_quo _ _ (by omega), hto]
  conv => whnf
  repeat' (first
 | with_reducible (first | refine r_seq (fun KS hS => ?_) | (refine hS _ _ ?_; clear hS KS) | (refine hA _ ?_; clear hA KA) | (refine hB _ ?_; clear hB KB) | refine r_block ?_)
 | ((with_reducible (first | refine r_region ?_ | refine r_cond (fun KA hA KB hB => ?_) | refine r_ret ?_ | refine r_skip ?_ | refine r_exit ?_ | refine And.intro rfl ?_ | intro b)); conv => whnf)
 | ((with_reducible refine WrapK.i64 ?_ ?_); (focus omega); conv => whnf)
 | (apply in45; rfl; rfl; rfl; intro A; conv => whnf)
 | ((with_reducible refine CallK.at 62 ?_); refine CallK.pu (fun w => fromIIn75 h hg hf1 hs hx hnum w) ?_; conv => whnf)
 | ((with_reducible refine CallK.at 39 ?_); refine CallK.puW (fun ms w hk => check_ask28 (hka.now hne hk) (by omega) (by omega) hft (by omega) hvs) ?_; conv => whnf)
 | ((with_reducible refine QuoK.id ?_); refine QuoK.eq (by omega) hq ?_; conv => whnf)
 | ((with_reducible refine OpK.id ?_); refine OpK.cvSB rfl rfl rfl rfl rfl rfl rfl rfl ?_; rw [hv]; conv => whnf)
 | (intro a' cap'; conv => whnf)
 | ((with_reducible refine CallK.at 63 ?_); refine CallK.puW (fun ms w hkn => decIn76 (f := f1) (x := x) (Sees.rd (Sees.ext (by repeat (first | with_reducible apply At.head | apply At.tail))) hkn) h hf1 hs hx hvs) ?_; conv => whnf)
 | ((with_reducible refine CallK.at 32 ?_); refine CallK.pu (fun w => fitsIn61 h hg hf1 hs hx w) ?_; conv => whnf)
 | (apply r_any (id := 7); refine mixed; kernel_rfl; kernel_rfl; conv => whnf)
 | ((with_reducible apply OpK.more); (focus refine sok); (conv => whnf); fail_if_success guard_target =ₛ False)
 | ((with_reducible (first | refine InAt.mk (fun K' hK => ?_) | refine AnyAt.mk (fun K' hK => ?_) | (refine hK _ ?_; clear hK K') | (refine hK _ _ ?_; clear hK K'))); conv => whnf)
 | ((refine And.intro ?_ ?_); all_goals (conv => whnf))
 | (apply r_quiet; refine mixed; kernel_rfl; kernel_rfl; kernel_rfl; conv => whnf)
 | ((first | refine if_t (by decide) ?_ | refine if_f (by decide) ?_ | refine if_decT (by omega) ?_ | refine if_decF (by omega) ?_ | refine if_ndecT (by omega) ?_ | refine if_ndecF (by omega) ?_); conv => whnf)
 | ((first | refine if_dec (fun h => ?_) (fun h => ?_) | refine if_ndec (fun h => ?_) (fun h => ?_) | refine if_cond (fun h => ?_) (fun h => ?_)); all_goals (conv => whnf))
 | with_reducible apply_assumption -symm -exfalso)
  all_goals exact FinK.ro0 rfl (HSub.pick (by repeat (first | with_reducible apply At.head | apply At.tail)))
end Go.Proofs.YthmjkaljkgjicaaGreatDoor

namespace Go.Proofs.YthmjkaljkgjicaaGreatDoor
open Go Go.X
set_option maxRecDepth 100000
set_option maxHeartbeats 0
theorem sortedCall142 {nn : Nat} {W : World} {S : Nat → Prop} {r : Option Nat} {H R : List Blk} {nx : K1} {bx m clk b0 i i' j : Nat} {k : Int} {v : Value} (hb : b0 < clk)
    (hs : Sel H [.blk i bx [.v (.map (some m))] 81, .ext j (MpA m [⟨.int .i64 k, v, b0⟩] clk)] R)
    (hn : ∀ z : Option Addr × Nat, nx (.v (.slice z.1 1 z.2)) (.ext 60 (SlA 3 1 z.1 1 z.2 [.int .i64 k]) :: .blk i bx [.v (.map (some m))] 81 :: .ext j (MpA m [⟨.int .i64 k, v, b0⟩] clk) :: R)) : CallK ⟨Tryz.prog, TB, nn, W, S, r, TBok⟩ 35 [.fn 102 [.loc bx i' 0]] H nx :=
  CallK.frL (v := fun z : Option Addr × Nat => .slice z.1 1 z.2) (L0 := [.blk 1 bx [.v (.map (some m))] 81, .ext 2 (MpA m [En k v b0] clk)]) hs (HSub.keep rfl (HSub.ext (fun _ _ h => h) HSub.nil)) (fun _ w _ => sorted142 hb w)
    (M' := fun z => [.ext 60 (SlA 3 1 z.1 1 z.2 [.int .i64 k]), .blk i bx [.v (.map (some m))] 81, .ext j (MpA m [⟨.int .i64 k, v, b0⟩] clk)]) (fun z => HSub.ext (fun _ _ h => h) (HSub.keep rfl (HSub.ext (fun _ _ h => h) HSub.nil))) hn
theorem sortedCall106 {nn : Nat} {W : World} {S : Nat → Prop} {r : Option Nat} {H R : List Blk} {nx : K1} {bx m clk b0 i i' j : Nat} {k : Int} {v : Value} (hb : b0 < clk)
    (hs : Sel H [.blk i bx [.v (.map (some m))] 78, .ext j (MpA m [⟨.int .i64 k, v, b0⟩] clk)] R)
    (hn : ∀ z : Option Addr × Nat, nx (.v (.slice z.1 1 z.2)) (.ext 60 (SlA 3 1 z.1 1 z.2 [.int .i64 k]) :: .blk i bx [.v (.map (some m))] 78 :: .ext j (MpA m [⟨.int .i64 k, v, b0⟩] clk) :: R)) : CallK ⟨Tryz.prog, TB, nn, W, S, r, TBok⟩ 35 [.fn 61 [.loc bx i' 0]] H nx :=
  CallK.frL (v := fun z : Option Addr × Nat => .slice z.1 1 z.2) (L0 := [.blk 1 bx [.v (.map (some m))] 78, .ext 2 (MpA m [En k v b0] clk)]) hs (HSub.keep rfl (HSub.ext (fun _ _ h => h) HSub.nil)) (fun _ w _ => sorted106 hb w)
    (M' := fun z => [.ext 60 (SlA 3 1 z.1 1 z.2 [.int .i64 k]), .blk i bx [.v (.map (some m))] 78, .ext j (MpA m [⟨.int .i64 k, v, b0⟩] clk)]) (fun z => HSub.ext (fun _ _ h => h) (HSub.keep rfl (HSub.ext (fun _ _ h => h) HSub.nil))) hn
def wv (a l : Int) : Value := .agg #[.int .i64 a, .int .i64 l]
theorem i1 (k : Int) : (List.drop ((0 : Int).toNat * 1) [Value.int .i64 k]).take 1 = denL [.v (.int .i64 k)] := rfl
theorem dueFirst100 {num n gs tk : Int} {iv : Value} {d mp th bth bd clk b0 : Nat} {al ll : Int}  (X : Nat → Ass) (HH : Nat → List Blk) (h0 : HH 0 = [.blk 3 d (DC n gs tk mp) 80, .ext 4 (MpA mp [] clk), .ext 5 (MpA th [⟨.int .i64 num, iv, 0⟩] 1), .ext 9 (X 0)]) (A0 : Ass) (yv : Value) (hy : YS Tryz.prog yv [.int .i64 num, wv 0 0] (AssL (.ext 100 A0 :: HH 0)) (AssL (.ext 100 A0 :: HH 1))) (w : World) :
    Fr Tryz.prog 56 (yv :: denL [.loc bth 1 0, .loc bd 2 0]).toArray w (AssL (.ext 0 (AssL (.ext 100 A0 :: HH 0)) :: [.blk 1 bth [.v (.map (some th))] 81, .blk 2 bd [.loc d 3 0] 25])) (.tuple #[]) (AssL (.ext 0 (AssL (.ext 100 A0 :: HH 1)) :: [.blk 1 bth [.v (.map (some th))] 81, .blk 2 bd [.loc d 3 0] 25])) := by
  rw [h0] at hy ⊢
  show Fr Tryz.prog 56 (denL [.v yv, .loc bth 1 0, .loc bd 2 0]).toArray w _ _ _
  refine enter_fr TBok (H := .ext 0 (AssL (.ext 100 A0 :: [.blk 3 d (DC n gs tk mp) 80, .ext 4 (MpA mp [] clk), .ext 5 (MpA th [⟨.int .i64 num, iv, 0⟩] 1), .ext 9 (X 0)])) :: [.blk 1 bth [.v (.map (some th))] 81, .blk 2 bd [.loc d 3 0] 25]) all_foot Tryz.func56 rfl rfl Tryz.ntmps56 [.v yv, .loc bth 1 0, .loc bd 2 0] rfl rfl ?_
  intro S
  refine Run.unj ?_
  unfold DC
  conv => whnf
  repeat' (first
 | with_reducible (first | refine r_seq (fun KS hS => ?_) | (refine hS _ _ ?_; clear hS KS) | (refine hA _ ?_; clear hA KA) | (refine hB _ ?_; clear hB KB) | refine r_block ?_)
 | ((with_reducible (first | refine r_region ?_ | refine r_cond (fun KA hA KB hB => ?_) | refine r_ret ?_ | refine r_skip ?_ | refine r_exit ?_ | refine And.intro rfl ?_ | intro b)); conv => whnf)
 | ((with_reducible refine WrapK.i64 ?_ ?_); (focus omega); conv => whnf)
 | (apply in101; rfl; rfl; rfl; intro A; conv => whnf)
 | ((with_reducible refine CallK.at 35 ?_); refine sortedCall142 (show (0 : Nat) < 1 from Nat.zero_lt_one) (Sel.cons (by repeat (first | with_reducible apply Rm.head | apply Rm.tail)) (Sel.cons (by repeat (first | with_reducible apply Rm.head | apply Rm.tail)) Sel.nil)) (fun z => ?_); conv => whnf)
 | ((with_reducible refine OpK.id ?_); (first | refine OpK.idx (k := 1) rfl rfl rfl rfl rfl rfl rfl (Sees.ext (by repeat (first | with_reducible apply At.head | apply At.tail))) (by omega) (by omega) (i1 _) (fun b off hp => ?_) | refine OpK.ldp rfl rfl hp (List.cons_ne_nil _ _) ?_ | refine OpK.lkE rfl rfl rfl rfl rfl rfl rfl rfl (by repeat (first | with_reducible apply At.head | apply At.tail)) ?_); conv => whnf)
 | ((with_reducible refine CallV.id ?_); refine CallV.weak (H' := .ext 0 (AssL (.ext 100 A0 :: [.blk 3 d [.v (.int .i64 n), .v (.int .i64 gs), .v (.int .i64 tk), .v (.map (some mp))] 80, .ext 4 (MpA mp [] clk), .ext 5 (MpA th [⟨.int .i64 num, iv, 0⟩] 1), .ext 9 (X 0)])) :: [.blk 1 bth [.v (.map (some th))] 81, .blk 2 bd [.loc d 3 0] 25]) (HSub.trans ((HSub.join (i := 0)).app2 (A := [_, _, _, _, _]) (HSub.refl _)) (by (try dsimp only [List.cons_append, List.nil_append, den, denL]); refine SelI.spec ?_; (repeat (first | refine SelI.blk (by repeat (first | with_reducible apply Rm.head | apply Rm.tail)) ?_ | refine SelI.ext (by repeat (first | with_reducible apply Rm.head | apply Rm.tail)) ?_ | (refine SelI.blk' (by repeat (first | with_reducible apply Rm.head | apply Rm.tail)) ?_ ?_; focus rfl) | (refine SelI.ext' (by repeat (first | with_reducible apply Rm.head | apply Rm.tail)) ?_ ?_; focus rfl))); exact SelI.nil)) ?_; refine CallV.fr .head (v := .bool true) (y := .ext 0 (AssL (.ext 100 A0 :: HH 1))) (fun w S h1 h2 => hy w S h1 h2) ?_; conv => whnf)
 | ((with_reducible apply OpK.more); (focus refine sok); (conv => whnf); fail_if_success guard_target =ₛ False)
 | with_reducible (first | refine Rounds.step (fun KL hL => ?_) | (refine hL _ _ ?_; clear hL KL) | refine r_rounds 100 ?_)
 | ((with_reducible (first | refine InAt.mk (fun K' hK => ?_) | refine AnyAt.mk (fun K' hK => ?_) | (refine hK _ ?_; clear hK K') | (refine hK _ _ ?_; clear hK K'))); conv => whnf)
 | ((refine And.intro ?_ ?_); all_goals (conv => whnf))
 | (apply r_quiet; refine mixed; kernel_rfl; kernel_rfl; kernel_rfl; conv => whnf)
 | ((first | refine if_t (by decide) ?_ | refine if_f (by decide) ?_ | refine if_decT (by omega) ?_ | refine if_decF (by omega) ?_ | refine if_ndecT (by omega) ?_ | refine if_ndecF (by omega) ?_); conv => whnf)
 | ((first | refine if_dec (fun h => ?_) (fun h => ?_) | refine if_ndec (fun h => ?_) (fun h => ?_) | refine if_cond (fun h => ?_) (fun h => ?_)); all_goals (conv => whnf))
 | with_reducible apply_assumption -symm -exfalso)
  exact FinK.frL rfl (by (try dsimp only [List.cons_append, List.nil_append, den, denL]); refine SelI.spec ?_; (repeat (first | refine SelI.blk (by repeat (first | with_reducible apply Rm.head | apply Rm.tail)) ?_ | refine SelI.ext (by repeat (first | with_reducible apply Rm.head | apply Rm.tail)) ?_ | (refine SelI.blk' (by repeat (first | with_reducible apply Rm.head | apply Rm.tail)) ?_ ?_; focus rfl) | (refine SelI.ext' (by repeat (first | with_reducible apply Rm.head | apply Rm.tail)) ?_ ?_; focus rfl))); exact SelI.nil)
theorem dueNot100 {num n gs tk : Int} {iv : Value} {d mp th bth bd clk b0 : Nat} {al ll : Int} (hw : tk - ll < 4) (hr : -1000 ≤ tk - ll) (htk : 0 ≤ tk ∧ tk ≤ 1000000) (X : Nat → Ass) (HH : Nat → List Blk) (h0 : HH 0 = [.blk 3 d (DC n gs tk mp) 80, .ext 4 (MpA mp [⟨.int .i64 num, .agg #[.int .i64 al, .int .i64 ll], b0⟩] clk), .ext 5 (MpA th [⟨.int .i64 num, iv, 0⟩] 1), .ext 9 (X 0)]) (A0 : Ass) (yv : Value)  (w : World) :
    Fr Tryz.prog 56 (yv :: denL [.loc bth 1 0, .loc bd 2 0]).toArray w (AssL (.ext 0 (AssL (.ext 100 A0 :: HH 0)) :: [.blk 1 bth [.v (.map (some th))] 81, .blk 2 bd [.loc d 3 0] 25])) (.tuple #[]) (AssL (.ext 0 (AssL (.ext 100 A0 :: HH 0)) :: [.blk 1 bth [.v (.map (some th))] 81, .blk 2 bd [.loc d 3 0] 25])) := by
  rw [h0]
  show Fr Tryz.prog 56 (denL [.v yv, .loc bth 1 0, .loc bd 2 0]).toArray w _ _ _
  refine enter_fr TBok (H := .ext 0 (AssL (.ext 100 A0 :: [.blk 3 d (DC n gs tk mp) 80, .ext 4 (MpA mp [⟨.int .i64 num, .agg #[.int .i64 al, .int .i64 ll], b0⟩] clk), .ext 5 (MpA th [⟨.int .i64 num, iv, 0⟩] 1), .ext 9 (X 0)])) :: [.blk 1 bth [.v (.map (some th))] 81, .blk 2 bd [.loc d 3 0] 25]) all_foot Tryz.func56 rfl rfl Tryz.ntmps56 [.v yv, .loc bth 1 0, .loc bd 2 0] rfl rfl ?_
  intro S
  refine Run.unj ?_
  unfold DC
  conv => whnf
  repeat' (first
 | with_reducible (first | refine r_seq (fun KS hS => ?_) | (refine hS _ _ ?_; clear hS KS) | (refine hA _ ?_; clear hA KA) | (refine hB _ ?_; clear hB KB) | refine r_block ?_)
 | ((with_reducible (first | refine r_region ?_ | refine r_cond (fun KA hA KB hB => ?_) | refine r_ret ?_ | refine r_skip ?_ | refine r_exit ?_ | refine And.intro rfl ?_ | intro b)); conv => whnf)
 | ((with_reducible refine WrapK.i64 ?_ ?_); (focus omega); conv => whnf)
 | (apply in101; rfl; rfl; rfl; intro A; conv => whnf)
 | ((with_reducible refine CallK.at 35 ?_); refine sortedCall142 (show (0 : Nat) < 1 from Nat.zero_lt_one) (Sel.cons (by repeat (first | with_reducible apply Rm.head | apply Rm.tail)) (Sel.cons (by repeat (first | with_reducible apply Rm.head | apply Rm.tail)) Sel.nil)) (fun z => ?_); conv => whnf)
 | ((with_reducible refine OpK.id ?_); (first | refine OpK.idx (k := 1) rfl rfl rfl rfl rfl rfl rfl (Sees.ext (by repeat (first | with_reducible apply At.head | apply At.tail))) (by omega) (by omega) (i1 _) (fun b off hp => ?_) | refine OpK.ldp rfl rfl hp (List.cons_ne_nil _ _) ?_ | refine OpK.lk1 rfl rfl rfl rfl rfl rfl rfl (by repeat (first | with_reducible apply At.head | apply At.tail)) ?_); conv => whnf)
 | ((with_reducible apply OpK.more); (focus refine sok); (conv => whnf); fail_if_success guard_target =ₛ False)
 | with_reducible (first | refine Rounds.step (fun KL hL => ?_) | (refine hL _ _ ?_; clear hL KL) | refine r_rounds 100 ?_)
 | ((with_reducible (first | refine InAt.mk (fun K' hK => ?_) | refine AnyAt.mk (fun K' hK => ?_) | (refine hK _ ?_; clear hK K') | (refine hK _ _ ?_; clear hK K'))); conv => whnf)
 | ((refine And.intro ?_ ?_); all_goals (conv => whnf))
 | (apply r_quiet; refine mixed; kernel_rfl; kernel_rfl; kernel_rfl; conv => whnf)
 | ((first | refine if_t (by decide) ?_ | refine if_f (by decide) ?_ | refine if_decT (by omega) ?_ | refine if_decF (by omega) ?_ | refine if_ndecT (by omega) ?_ | refine if_ndecF (by omega) ?_); conv => whnf)
 | ((first | refine if_dec (fun h => ?_) (fun h => ?_) | refine if_ndec (fun h => ?_) (fun h => ?_) | refine if_cond (fun h => ?_) (fun h => ?_)); all_goals (conv => whnf))
 | with_reducible apply_assumption -symm -exfalso)
  exact FinK.frL rfl (HSub.trans ((HSub.join (i := 0)).app2 (A := [.ext 100 A0, .blk 3 d [.v (.int .i64 n), .v (.int .i64 gs), .v (.int .i64 tk), .v (.map (some mp))] 80, .ext 4 (MpA mp [⟨.int .i64 num, .agg #[.int .i64 al, .int .i64 ll], b0⟩] clk), .ext 5 (MpA th [⟨.int .i64 num, iv, 0⟩] 1), .ext 9 (X 0)]) (HSub.refl _)) (by (try dsimp only [List.cons_append, List.nil_append, den, denL]); refine SelI.spec ?_; (repeat (first | refine SelI.blk (by repeat (first | with_reducible apply Rm.head | apply Rm.tail)) ?_ | refine SelI.ext (by repeat (first | with_reducible apply Rm.head | apply Rm.tail)) ?_ | (refine SelI.blk' (by repeat (first | with_reducible apply Rm.head | apply Rm.tail)) ?_ ?_; focus rfl) | (refine SelI.ext' (by repeat (first | with_reducible apply Rm.head | apply Rm.tail)) ?_ ?_; focus rfl))); exact SelI.nil))
theorem dueAgain100 {num n gs tk : Int} {iv : Value} {d mp th bth bd clk b0 : Nat} {al ll : Int} (hw : 4 ≤ tk - ll) (hr : -1000 ≤ ll) (htk : 0 ≤ tk ∧ tk ≤ 1000000) (X : Nat → Ass) (HH : Nat → List Blk) (h0 : HH 0 = [.blk 3 d (DC n gs tk mp) 80, .ext 4 (MpA mp [⟨.int .i64 num, .agg #[.int .i64 al, .int .i64 ll], b0⟩] clk), .ext 5 (MpA th [⟨.int .i64 num, iv, 0⟩] 1), .ext 9 (X 0)]) (A0 : Ass) (yv : Value) (hy : YS Tryz.prog yv [.int .i64 num, .agg #[.int .i64 al, .int .i64 ll]] (AssL (.ext 100 A0 :: HH 0)) (AssL (.ext 100 A0 :: HH 1))) (w : World) :
    Fr Tryz.prog 56 (yv :: denL [.loc bth 1 0, .loc bd 2 0]).toArray w (AssL (.ext 0 (AssL (.ext 100 A0 :: HH 0)) :: [.blk 1 bth [.v (.map (some th))] 81, .blk 2 bd [.loc d 3 0] 25])) (.tuple #[]) (AssL (.ext 0 (AssL (.ext 100 A0 :: HH 1)) :: [.blk 1 bth [.v (.map (some th))] 81, .blk 2 bd [.loc d 3 0] 25])) := by
  rw [h0] at hy ⊢
  show Fr Tryz.prog 56 (denL [.v yv, .loc bth 1 0, .loc bd 2 0]).toArray w _ _ _
  refine enter_fr TBok (H := .ext 0 (AssL (.ext 100 A0 :: [.blk 3 d (DC n gs tk mp) 80, .ext 4 (MpA mp [⟨.int .i64 num, .agg #[.int .i64 al, .int .i64 ll], b0⟩] clk), .ext 5 (MpA th [⟨.int .i64 num, iv, 0⟩] 1), .ext 9 (X 0)])) :: [.blk 1 bth [.v (.map (some th))] 81, .blk 2 bd [.loc d 3 0] 25]) all_foot Tryz.func56 rfl rfl Tryz.ntmps56 [.v yv, .loc bth 1 0, .loc bd 2 0] rfl rfl ?_
  intro S
  refine Run.unj ?_
  unfold DC
  conv => whnf
  repeat' (first
 | with_reducible (first | refine r_seq (fun KS hS => ?_) | (refine hS _ _ ?_; clear hS KS) | (refine hA _ ?_; clear hA KA) | (refine hB _ ?_; clear hB KB) | refine r_block ?_)
 | ((with_reducible (first | refine r_region ?_ | refine r_cond (fun KA hA KB hB => ?_) | refine r_ret ?_ | refine r_skip ?_ | refine r_exit ?_ | refine And.intro rfl ?_ | intro b)); conv => whnf)
 | ((with_reducible refine WrapK.i64 ?_ ?_); (focus omega); conv => whnf)
 | (apply in101; rfl; rfl; rfl; intro A; conv => whnf)
 | ((with_reducible refine CallK.at 35 ?_); refine sortedCall142 (show (0 : Nat) < 1 from Nat.zero_lt_one) (Sel.cons (by repeat (first | with_reducible apply Rm.head | apply Rm.tail)) (Sel.cons (by repeat (first | with_reducible apply Rm.head | apply Rm.tail)) Sel.nil)) (fun z => ?_); conv => whnf)
 | ((with_reducible refine OpK.id ?_); (first | refine OpK.idx (k := 1) rfl rfl rfl rfl rfl rfl rfl (Sees.ext (by repeat (first | with_reducible apply At.head | apply At.tail))) (by omega) (by omega) (i1 _) (fun b off hp => ?_) | refine OpK.ldp rfl rfl hp (List.cons_ne_nil _ _) ?_ | refine OpK.lk1 rfl rfl rfl rfl rfl rfl rfl (by repeat (first | with_reducible apply At.head | apply At.tail)) ?_); conv => whnf)
 | ((with_reducible refine CallV.id ?_); refine CallV.weak (H' := .ext 0 (AssL (.ext 100 A0 :: [.blk 3 d [.v (.int .i64 n), .v (.int .i64 gs), .v (.int .i64 tk), .v (.map (some mp))] 80, .ext 4 (MpA mp [⟨.int .i64 num, .agg #[.int .i64 al, .int .i64 ll], b0⟩] clk), .ext 5 (MpA th [⟨.int .i64 num, iv, 0⟩] 1), .ext 9 (X 0)])) :: [.blk 1 bth [.v (.map (some th))] 81, .blk 2 bd [.loc d 3 0] 25]) (HSub.trans ((HSub.join (i := 0)).app2 (A := [_, _, _, _, _]) (HSub.refl _)) (by (try dsimp only [List.cons_append, List.nil_append, den, denL]); refine SelI.spec ?_; (repeat (first | refine SelI.blk (by repeat (first | with_reducible apply Rm.head | apply Rm.tail)) ?_ | refine SelI.ext (by repeat (first | with_reducible apply Rm.head | apply Rm.tail)) ?_ | (refine SelI.blk' (by repeat (first | with_reducible apply Rm.head | apply Rm.tail)) ?_ ?_; focus rfl) | (refine SelI.ext' (by repeat (first | with_reducible apply Rm.head | apply Rm.tail)) ?_ ?_; focus rfl))); exact SelI.nil)) ?_; refine CallV.fr .head (v := .bool true) (y := .ext 0 (AssL (.ext 100 A0 :: HH 1))) (fun w S h1 h2 => hy w S h1 h2) ?_; conv => whnf)
 | ((with_reducible apply OpK.more); (focus refine sok); (conv => whnf); fail_if_success guard_target =ₛ False)
 | with_reducible (first | refine Rounds.step (fun KL hL => ?_) | (refine hL _ _ ?_; clear hL KL) | refine r_rounds 100 ?_)
 | ((with_reducible (first | refine InAt.mk (fun K' hK => ?_) | refine AnyAt.mk (fun K' hK => ?_) | (refine hK _ ?_; clear hK K') | (refine hK _ _ ?_; clear hK K'))); conv => whnf)
 | ((refine And.intro ?_ ?_); all_goals (conv => whnf))
 | (apply r_quiet; refine mixed; kernel_rfl; kernel_rfl; kernel_rfl; conv => whnf)
 | ((first | refine if_t (by decide) ?_ | refine if_f (by decide) ?_ | refine if_decT (by omega) ?_ | refine if_decF (by omega) ?_ | refine if_ndecT (by omega) ?_ | refine if_ndecF (by omega) ?_); conv => whnf)
 | ((first | refine if_dec (fun h => ?_) (fun h => ?_) | refine if_ndec (fun h => ?_) (fun h => ?_) | refine if_cond (fun h => ?_) (fun h => ?_)); all_goals (conv => whnf))
 | with_reducible apply_assumption -symm -exfalso)
  exact FinK.frL rfl (by (try dsimp only [List.cons_append, List.nil_append, den, denL]); refine SelI.spec ?_; (repeat (first | refine SelI.blk (by repeat (first | with_reducible apply Rm.head | apply Rm.tail)) ?_ | refine SelI.ext (by repeat (first | with_reducible apply Rm.head | apply Rm.tail)) ?_ | (refine SelI.blk' (by repeat (first | with_reducible apply Rm.head | apply Rm.tail)) ?_ ?_; focus rfl) | (refine SelI.ext' (by repeat (first | with_reducible apply Rm.head | apply Rm.tail)) ?_ ?_; focus rfl))); exact SelI.nil)
end Go.Proofs.YthmjkaljkgjicaaGreatDoor

namespace Go.Proofs.YthmjkaljkgjicaaGreatDoor
open Go Go.X
set_option maxRecDepth 100000
set_option maxHeartbeats 0
theorem effOk119 {s t p : Int} (h : EffOk s t p) (w : World) : Pu Tryz.prog 121 #[.agg #[.int .i64 s, .int .i64 t, .int .i64 p]] w (.int .i64 0) := by
  obtain ⟨h1, h2, h3, h4, h5, h6⟩ := h
  refine enter_sound TBok Tryz.func121 rfl rfl Tryz.ntmps121 [.agg [.v (.int .i64 s), .v (.int .i64 t), .v (.int .i64 p)]] (Kn.start w noS) rfl rfl ?_
  conv => whnf
  repeat' (first
 | with_reducible (first | refine r_seq (fun KS hS => ?_) | (refine hS _ _ ?_; clear hS KS) | (refine hA _ ?_; clear hA KA) | (refine hB _ ?_; clear hB KB) | refine r_block ?_)
 | ((with_reducible (first | refine r_region ?_ | refine r_cond (fun KA hA KB hB => ?_) | refine r_ret ?_ | refine r_skip ?_ | refine r_exit ?_ | refine And.intro rfl ?_ | intro b)); conv => whnf)
 | ((with_reducible refine WrapK.i64 ?_ ?_); (focus omega); conv => whnf)
 | ((with_reducible apply OpK.more); (focus refine sok); (conv => whnf); fail_if_success guard_target =ₛ False)
 | ((with_reducible (first | refine InAt.mk (fun K' hK => ?_) | refine AnyAt.mk (fun K' hK => ?_) | (refine hK _ ?_; clear hK K') | (refine hK _ _ ?_; clear hK K'))); conv => whnf)
 | ((refine And.intro ?_ ?_); all_goals (conv => whnf))
 | (apply r_quiet; refine mixed; kernel_rfl; kernel_rfl; kernel_rfl; conv => whnf)
 | ((first | refine if_t (by decide) ?_ | refine if_f (by decide) ?_ | refine if_decT (by omega) ?_ | refine if_decF (by omega) ?_ | refine if_ndecT (by omega) ?_ | refine if_ndecF (by omega) ?_); conv => whnf)
 | ((first | refine if_dec (fun h => ?_) (fun h => ?_) | refine if_ndec (fun h => ?_) (fun h => ?_) | refine if_cond (fun h => ?_) (fun h => ?_)); all_goals (conv => whnf))
 | with_reducible apply_assumption -symm -exfalso)
  exact FinK.pu rfl
theorem itemOk74 {s t p m : Int} {i : Bool} {g : Int} (h : ItemOk s t p m i g) (w : World) : Pu Tryz.prog 74 #[.agg #[.int .i64 s, .int .i64 t, .int .i64 p, .int .i64 m, .bool i, .int .i64 g]] w (.int .i64 0) := by
  obtain ⟨h1, h2, h3⟩ := h
  refine enter_sound TBok Tryz.func74 rfl rfl Tryz.ntmps74 [.agg [.v (.int .i64 s), .v (.int .i64 t), .v (.int .i64 p), .v (.int .i64 m), .v (.bool i), .v (.int .i64 g)]] (Kn.start w noS) rfl rfl ?_
  rcases h3 with ⟨rfl, rfl, h3⟩ | ⟨h3, h4, rfl, rfl, rfl⟩
  · conv => whnf
    repeat' (first
 | with_reducible (first | refine r_seq (fun KS hS => ?_) | (refine hS _ _ ?_; clear hS KS) | (refine hA _ ?_; clear hA KA) | (refine hB _ ?_; clear hB KB) | refine r_block ?_)
 | ((with_reducible (first | refine r_region ?_ | refine r_cond (fun KA hA KB hB => ?_) | refine r_ret ?_ | refine r_skip ?_ | refine r_exit ?_ | refine And.intro rfl ?_ | intro b)); conv => whnf)
 | ((with_reducible refine WrapK.i64 ?_ ?_); (focus omega); conv => whnf)
 | ((with_reducible refine CallK.at 121 ?_); refine CallK.pu (fun w => effOk119 h3 w) ?_; conv => whnf)
 | ((with_reducible apply OpK.more); (focus refine sok); (conv => whnf); fail_if_success guard_target =ₛ False)
 | ((with_reducible (first | refine InAt.mk (fun K' hK => ?_) | refine AnyAt.mk (fun K' hK => ?_) | (refine hK _ ?_; clear hK K') | (refine hK _ _ ?_; clear hK K'))); conv => whnf)
 | ((refine And.intro ?_ ?_); all_goals (conv => whnf))
 | (apply r_quiet; refine mixed; kernel_rfl; kernel_rfl; kernel_rfl; conv => whnf)
 | ((first | refine if_t (by decide) ?_ | refine if_f (by decide) ?_ | refine if_decT (by omega) ?_ | refine if_decF (by omega) ?_ | refine if_ndecT (by omega) ?_ | refine if_ndecF (by omega) ?_); conv => whnf)
 | ((first | refine if_dec (fun h => ?_) (fun h => ?_) | refine if_ndec (fun h => ?_) (fun h => ?_) | refine if_cond (fun h => ?_) (fun h => ?_)); all_goals (conv => whnf))
 | with_reducible apply_assumption -symm -exfalso)
    exact FinK.pu rfl
  · conv => whnf
    repeat' (first
 | with_reducible (first | refine r_seq (fun KS hS => ?_) | (refine hS _ _ ?_; clear hS KS) | (refine hA _ ?_; clear hA KA) | (refine hB _ ?_; clear hB KB) | refine r_block ?_)
 | ((with_reducible (first | refine r_region ?_ | refine r_cond (fun KA hA KB hB => ?_) | refine r_ret ?_ | refine r_skip ?_ | refine r_exit ?_ | refine And.intro rfl ?_ | intro b)); conv => whnf)
 | ((with_reducible refine WrapK.i64 ?_ ?_); (focus omega); conv => whnf)
 | ((with_reducible apply OpK.more); (focus refine sok); (conv => whnf); fail_if_success guard_target =ₛ False)
 | ((with_reducible (first | refine InAt.mk (fun K' hK => ?_) | refine AnyAt.mk (fun K' hK => ?_) | (refine hK _ ?_; clear hK K') | (refine hK _ _ ?_; clear hK K'))); conv => whnf)
 | ((refine And.intro ?_ ?_); all_goals (conv => whnf))
 | (apply r_quiet; refine mixed; kernel_rfl; kernel_rfl; kernel_rfl; conv => whnf)
 | ((first | refine if_t (by decide) ?_ | refine if_f (by decide) ?_ | refine if_decT (by omega) ?_ | refine if_decF (by omega) ?_ | refine if_ndecT (by omega) ?_ | refine if_ndecF (by omega) ?_); conv => whnf)
 | ((first | refine if_dec (fun h => ?_) (fun h => ?_) | refine if_ndec (fun h => ?_) (fun h => ?_) | refine if_cond (fun h => ?_) (fun h => ?_)); all_goals (conv => whnf))
 | with_reducible apply_assumption -symm -exfalso)
    exact FinK.pu rfl
theorem numOk38 {s t p m : Int} {i : Bool} {g : Int} (h : ItemOk s t p m i g) (w : World) : Pu Tryz.prog 45 #[.agg #[.int .i64 s, .int .i64 t, .int .i64 p, .int .i64 m, .bool i, .int .i64 g]] w (.tuple #[.int .i64 (itemNum s t p m i g), .int .i64 0]) := by
  have h' := h
  obtain ⟨h1, h2, h3⟩ := h
  refine enter_sound TBok Tryz.func45 rfl rfl Tryz.ntmps45 [.agg [.v (.int .i64 s), .v (.int .i64 t), .v (.int .i64 p), .v (.int .i64 m), .v (.bool i), .v (.int .i64 g)]] (Kn.start w noS) rfl rfl ?_
  rcases h3 with ⟨rfl, rfl, h3⟩ | ⟨h3, h4, rfl, rfl, rfl⟩
  · unfold EffOk at h3
    conv => whnf
    repeat' (first
 | with_reducible (first | refine r_seq (fun KS hS => ?_) | (refine hS _ _ ?_; clear hS KS) | (refine hA _ ?_; clear hA KA) | (refine hB _ ?_; clear hB KB) | refine r_block ?_)
 | ((with_reducible (first | refine r_region ?_ | refine r_cond (fun KA hA KB hB => ?_) | refine r_ret ?_ | refine r_skip ?_ | refine r_exit ?_ | refine And.intro rfl ?_ | intro b)); conv => whnf)
 | ((with_reducible refine WrapK.i64 ?_ ?_); (focus omega); conv => whnf)
 | ((with_reducible refine CallK.at 74 ?_); refine CallK.pu (fun w => itemOk74 h' w) ?_; conv => whnf)
 | ((with_reducible apply OpK.more); (focus refine sok); (conv => whnf); fail_if_success guard_target =ₛ False)
 | ((with_reducible (first | refine InAt.mk (fun K' hK => ?_) | refine AnyAt.mk (fun K' hK => ?_) | (refine hK _ ?_; clear hK K') | (refine hK _ _ ?_; clear hK K'))); conv => whnf)
 | ((refine And.intro ?_ ?_); all_goals (conv => whnf))
 | (apply r_quiet; refine mixed; kernel_rfl; kernel_rfl; kernel_rfl; conv => whnf)
 | ((first | refine if_t (by decide) ?_ | refine if_f (by decide) ?_ | refine if_decT (by omega) ?_ | refine if_decF (by omega) ?_ | refine if_ndecT (by omega) ?_ | refine if_ndecF (by omega) ?_); conv => whnf)
 | ((first | refine if_dec (fun h => ?_) (fun h => ?_) | refine if_ndec (fun h => ?_) (fun h => ?_) | refine if_cond (fun h => ?_) (fun h => ?_)); all_goals (conv => whnf))
 | with_reducible apply_assumption -symm -exfalso)
    refine FinK.pu ?_
    simp only [den, denL, itemNum, if_pos]
    congr 4
    omega
  · have hm : ¬ m = 0 := by omega
    cases i with
    | false =>
      conv => whnf
      repeat' (first
 | with_reducible (first | refine r_seq (fun KS hS => ?_) | (refine hS _ _ ?_; clear hS KS) | (refine hA _ ?_; clear hA KA) | (refine hB _ ?_; clear hB KB) | refine r_block ?_)
 | ((with_reducible (first | refine r_region ?_ | refine r_cond (fun KA hA KB hB => ?_) | refine r_ret ?_ | refine r_skip ?_ | refine r_exit ?_ | refine And.intro rfl ?_ | intro b)); conv => whnf)
 | ((with_reducible refine WrapK.i64 ?_ ?_); (focus omega); conv => whnf)
 | ((with_reducible refine CallK.at 74 ?_); refine CallK.pu (fun w => itemOk74 h' w) ?_; conv => whnf)
 | ((with_reducible apply OpK.more); (focus refine sok); (conv => whnf); fail_if_success guard_target =ₛ False)
 | ((with_reducible (first | refine InAt.mk (fun K' hK => ?_) | refine AnyAt.mk (fun K' hK => ?_) | (refine hK _ ?_; clear hK K') | (refine hK _ _ ?_; clear hK K'))); conv => whnf)
 | ((refine And.intro ?_ ?_); all_goals (conv => whnf))
 | (apply r_quiet; refine mixed; kernel_rfl; kernel_rfl; kernel_rfl; conv => whnf)
 | ((first | refine if_t (by decide) ?_ | refine if_f (by decide) ?_ | refine if_decT (by omega) ?_ | refine if_decF (by omega) ?_ | refine if_ndecT (by omega) ?_ | refine if_ndecF (by omega) ?_); conv => whnf)
 | ((first | refine if_dec (fun h => ?_) (fun h => ?_) | refine if_ndec (fun h => ?_) (fun h => ?_) | refine if_cond (fun h => ?_) (fun h => ?_)); all_goals (conv => whnf))
 | with_reducible apply_assumption -symm -exfalso)
      refine FinK.pu ?_
      simp only [den, denL, itemNum, if_neg hm]
      congr 3
      simp
      try omega
    | true =>
      conv => whnf
      repeat' (first
 | with_reducible (first | refine r_seq (fun KS hS => ?_) | (refine hS _ _ ?_; clear hS KS) | (refine hA _ ?_; clear hA KA) | (refine hB _ ?_; clear hB KB) | refine r_block ?_)
 | ((with_reducible (first | refine r_region ?_ | refine r_cond (fun KA hA KB hB => ?_) | refine r_ret ?_ | refine r_skip ?_ | refine r_exit ?_ | refine And.intro rfl ?_ | intro b)); conv => whnf)
 | ((with_reducible refine WrapK.i64 ?_ ?_); (focus omega); conv => whnf)
 | ((with_reducible refine CallK.at 74 ?_); refine CallK.pu (fun w => itemOk74 h' w) ?_; conv => whnf)
 | ((with_reducible apply OpK.more); (focus refine sok); (conv => whnf); fail_if_success guard_target =ₛ False)
 | ((with_reducible (first | refine InAt.mk (fun K' hK => ?_) | refine AnyAt.mk (fun K' hK => ?_) | (refine hK _ ?_; clear hK K') | (refine hK _ _ ?_; clear hK K'))); conv => whnf)
 | ((refine And.intro ?_ ?_); all_goals (conv => whnf))
 | (apply r_quiet; refine mixed; kernel_rfl; kernel_rfl; kernel_rfl; conv => whnf)
 | ((first | refine if_t (by decide) ?_ | refine if_f (by decide) ?_ | refine if_decT (by omega) ?_ | refine if_decF (by omega) ?_ | refine if_ndecT (by omega) ?_ | refine if_ndecF (by omega) ?_); conv => whnf)
 | ((first | refine if_dec (fun h => ?_) (fun h => ?_) | refine if_ndec (fun h => ?_) (fun h => ?_) | refine if_cond (fun h => ?_) (fun h => ?_)); all_goals (conv => whnf))
 | with_reducible apply_assumption -symm -exfalso)
      refine FinK.pu ?_
      simp only [den, denL, itemNum, if_neg hm]
      congr 3
      simp
      try omega
def CAt (w : World) (b : Nat) : Prop := w.heap[b]? = some (.cells (denL [.v (.int .u8 9)]).toArray 5 (0, 0))
theorem cmdEff72 {s t p g : Int} {w : World} {b : Nat} (hb : CAt w b) (h : EffOk s t p) (hg : 1 ≤ g ∧ g ≤ 7) : Pu Tryz.prog 58 #[.agg #[.int .i64 s, .int .i64 t, .int .i64 p, .int .i64 0, .bool false, .int .i64 g], pv b] w (.tuple #[.agg #[.int .i64 1, .int .i64 0, .int .i64 0, .int .i64 s, .int .i64 t, .int .i64 p, .string ⟨#[107]⟩, .int .i64 (1 + t), .int .i64 0, .string ⟨#[]⟩, .string ⟨#[]⟩, .int .i64 0, .string ⟨#[]⟩, .int .i64 0, .int .i64 0, .slice none 0 0, .int .i64 0, .int .i64 0, .int .i64 0, .int .i64 0, .bool false, .int .i64 0, .int .i64 0, .string ⟨#[]⟩], .bool true]) := by
  have h2 := h
  unfold EffOk at h2
  have hok : ItemOk s t p 0 false g := ⟨hg.1, hg.2, .inl ⟨rfl, rfl, h⟩⟩
  have hnum : 0 ≤ itemNum s t p 0 false g := by unfold itemNum; simp only [if_true]; omega
  have h7 : itemNum s t p 0 false g % 7 < 7 := Int.emod_lt_of_pos _ (by omega)
  have h70 : 0 ≤ itemNum s t p 0 false g % 7 := Int.emod_nonneg _ (by omega)
  refine Pu.ofFrZ (enter_ro TBok (cs := [.v (.int .u8 9)]) hb Tryz.func58 rfl rfl Tryz.ntmps58 [.agg [.v (.int .i64 s), .v (.int .i64 t), .v (.int .i64 p), .v (.int .i64 0), .v (.bool false), .v (.int .i64 g)], .loc b 10 0] rfl rfl ?_)
  conv => whnf
  repeat' (first
 | with_reducible (first | refine r_seq (fun KS hS => ?_) | (refine hS _ _ ?_; clear hS KS) | (refine hA _ ?_; clear hA KA) | (refine hB _ ?_; clear hB KB) | refine r_block ?_)
 | ((with_reducible (first | refine r_region ?_ | refine r_cond (fun KA hA KB hB => ?_) | refine r_ret ?_ | refine r_skip ?_ | refine r_exit ?_ | refine And.intro rfl ?_ | intro b)); conv => whnf)
 | ((with_reducible refine WrapK.i64 ?_ ?_); (focus omega); conv => whnf)
 | ((with_reducible refine CallK.at 45 ?_); refine CallK.pu (fun w => numOk38 hok w) ?_; conv => whnf)
 | ((with_reducible refine RemK.id ?_); refine RemK.eq (by omega) (IntWalk.rem_in _ _ hnum) ?_; conv => whnf)
 | ((with_reducible apply OpK.more); (focus refine sok); (conv => whnf); fail_if_success guard_target =ₛ False)
 | ((with_reducible (first | refine InAt.mk (fun K' hK => ?_) | refine AnyAt.mk (fun K' hK => ?_) | (refine hK _ ?_; clear hK K') | (refine hK _ _ ?_; clear hK K'))); conv => whnf)
 | ((refine And.intro ?_ ?_); all_goals (conv => whnf))
 | (apply r_quiet; refine mixed; kernel_rfl; kernel_rfl; kernel_rfl; conv => whnf)
 | ((first | refine if_t (by decide) ?_ | refine if_f (by decide) ?_ | refine if_decT (by omega) ?_ | refine if_decF (by omega) ?_ | refine if_ndecT (by omega) ?_ | refine if_ndecF (by omega) ?_); conv => whnf)
 | ((first | refine if_dec (fun h => ?_) (fun h => ?_) | refine if_ndec (fun h => ?_) (fun h => ?_) | refine if_cond (fun h => ?_) (fun h => ?_)); all_goals (conv => whnf))
 | with_reducible apply_assumption -symm -exfalso)
  all_goals exact FinK.ro0 rfl (HSub.pick (by repeat (first | with_reducible apply At.head | apply At.tail)))
theorem cmdOut72 {m g : Int} {w : World} {b : Nat} (hb : CAt w b) (h : 1 ≤ m ∧ m ≤ 64) (hg : 1 ≤ g ∧ g ≤ 7) : Pu Tryz.prog 58 #[.agg #[.int .i64 0, .int .i64 0, .int .i64 0, .int .i64 m, .bool false, .int .i64 g], pv b] w (.tuple #[.agg #[.int .i64 3, .int .i64 0, .int .i64 0, .int .i64 0, .int .i64 0, .int .i64 0, .string ⟨#[]⟩, .int .i64 0, .int .i64 m, .string ⟨#[97]⟩, .string ⟨#[]⟩, .int .i64 0, .string ⟨#[]⟩, .int .i64 0, .int .i64 0, .slice none 0 0, .int .i64 0, .int .i64 0, .int .i64 0, .int .i64 0, .bool false, .int .i64 0, .int .i64 0, .string ⟨#[]⟩], .bool true]) := by
  have hok : ItemOk 0 0 0 m false g := ⟨hg.1, hg.2, .inr ⟨h.1, h.2, rfl, rfl, rfl⟩⟩
  have hnum : 0 ≤ itemNum 0 0 0 m false g := by unfold itemNum; rw [if_neg (by omega)]; simp; omega
  have h7 : itemNum 0 0 0 m false g % 7 < 7 := Int.emod_lt_of_pos _ (by omega)
  have h70 : 0 ≤ itemNum 0 0 0 m false g % 7 := Int.emod_nonneg _ (by omega)
  refine Pu.ofFrZ (enter_ro TBok (cs := [.v (.int .u8 9)]) hb Tryz.func58 rfl rfl Tryz.ntmps58 [.agg [.v (.int .i64 0), .v (.int .i64 0), .v (.int .i64 0), .v (.int .i64 m), .v (.bool false), .v (.int .i64 g)], .loc b 10 0] rfl rfl ?_)
  conv => whnf
  repeat' (first
 | with_reducible (first | refine r_seq (fun KS hS => ?_) | (refine hS _ _ ?_; clear hS KS) | (refine hA _ ?_; clear hA KA) | (refine hB _ ?_; clear hB KB) | refine r_block ?_)
 | ((with_reducible (first | refine r_region ?_ | refine r_cond (fun KA hA KB hB => ?_) | refine r_ret ?_ | refine r_skip ?_ | refine r_exit ?_ | refine And.intro rfl ?_ | intro b)); conv => whnf)
 | ((with_reducible refine WrapK.i64 ?_ ?_); (focus omega); conv => whnf)
 | ((with_reducible refine CallK.at 45 ?_); refine CallK.pu (fun w => numOk38 hok w) ?_; conv => whnf)
 | ((with_reducible refine RemK.id ?_); refine RemK.eq (by omega) (IntWalk.rem_in _ _ hnum) ?_; conv => whnf)
 | ((with_reducible apply OpK.more); (focus refine sok); (conv => whnf); fail_if_success guard_target =ₛ False)
 | ((with_reducible (first | refine InAt.mk (fun K' hK => ?_) | refine AnyAt.mk (fun K' hK => ?_) | (refine hK _ ?_; clear hK K') | (refine hK _ _ ?_; clear hK K'))); conv => whnf)
 | ((refine And.intro ?_ ?_); all_goals (conv => whnf))
 | (apply r_quiet; refine mixed; kernel_rfl; kernel_rfl; kernel_rfl; conv => whnf)
 | ((first | refine if_t (by decide) ?_ | refine if_f (by decide) ?_ | refine if_decT (by omega) ?_ | refine if_decF (by omega) ?_ | refine if_ndecT (by omega) ?_ | refine if_ndecF (by omega) ?_); conv => whnf)
 | ((first | refine if_dec (fun h => ?_) (fun h => ?_) | refine if_ndec (fun h => ?_) (fun h => ?_) | refine if_cond (fun h => ?_) (fun h => ?_)); all_goals (conv => whnf))
 | with_reducible apply_assumption -symm -exfalso)
  all_goals exact FinK.ro0 rfl (HSub.pick (by repeat (first | with_reducible apply At.head | apply At.tail)))
theorem cmdIn72 {m g : Int} {w : World} {b : Nat} (hb : CAt w b) (h : 1 ≤ m ∧ m ≤ 64) (hg : 1 ≤ g ∧ g ≤ 7) : Pu Tryz.prog 58 #[.agg #[.int .i64 0, .int .i64 0, .int .i64 0, .int .i64 m, .bool true, .int .i64 g], pv b] w (.tuple #[.agg #[.int .i64 4, .int .i64 0, .int .i64 0, .int .i64 0, .int .i64 0, .int .i64 0, .string ⟨#[]⟩, .int .i64 0, .int .i64 m, .string ⟨#[97]⟩, .string ⟨#[]⟩, .int .i64 0, .string ⟨#[]⟩, .int .i64 0, .int .i64 0, .slice none 0 0, .int .i64 0, .int .i64 0, .int .i64 0, .int .i64 0, .bool false, .int .i64 0, .int .i64 0, .string ⟨#[100, 97, 116, 97]⟩], .bool true]) := by
  have hok : ItemOk 0 0 0 m true g := ⟨hg.1, hg.2, .inr ⟨h.1, h.2, rfl, rfl, rfl⟩⟩
  have hnum : 0 ≤ itemNum 0 0 0 m true g := by unfold itemNum; rw [if_neg (by omega)]; simp; omega
  have h7 : itemNum 0 0 0 m true g % 7 < 7 := Int.emod_lt_of_pos _ (by omega)
  have h70 : 0 ≤ itemNum 0 0 0 m true g % 7 := Int.emod_nonneg _ (by omega)
  refine Pu.ofFrZ (enter_ro TBok (cs := [.v (.int .u8 9)]) hb Tryz.func58 rfl rfl Tryz.ntmps58 [.agg [.v (.int .i64 0), .v (.int .i64 0), .v (.int .i64 0), .v (.int .i64 m), .v (.bool true), .v (.int .i64 g)], .loc b 10 0] rfl rfl ?_)
  conv => whnf
  repeat' (first
 | with_reducible (first | refine r_seq (fun KS hS => ?_) | (refine hS _ _ ?_; clear hS KS) | (refine hA _ ?_; clear hA KA) | (refine hB _ ?_; clear hB KB) | refine r_block ?_)
 | ((with_reducible (first | refine r_region ?_ | refine r_cond (fun KA hA KB hB => ?_) | refine r_ret ?_ | refine r_skip ?_ | refine r_exit ?_ | refine And.intro rfl ?_ | intro b)); conv => whnf)
 | ((with_reducible refine WrapK.i64 ?_ ?_); (focus omega); conv => whnf)
 | ((with_reducible refine CallK.at 45 ?_); refine CallK.pu (fun w => numOk38 hok w) ?_; conv => whnf)
 | ((with_reducible refine RemK.id ?_); refine RemK.eq (by omega) (IntWalk.rem_in _ _ hnum) ?_; conv => whnf)
 | ((with_reducible apply OpK.more); (focus refine sok); (conv => whnf); fail_if_success guard_target =ₛ False)
 | ((with_reducible (first | refine InAt.mk (fun K' hK => ?_) | refine AnyAt.mk (fun K' hK => ?_) | (refine hK _ ?_; clear hK K') | (refine hK _ _ ?_; clear hK K'))); conv => whnf)
 | ((refine And.intro ?_ ?_); all_goals (conv => whnf))
 | (apply r_quiet; refine mixed; kernel_rfl; kernel_rfl; kernel_rfl; conv => whnf)
 | ((first | refine if_t (by decide) ?_ | refine if_f (by decide) ?_ | refine if_decT (by omega) ?_ | refine if_decF (by omega) ?_ | refine if_ndecT (by omega) ?_ | refine if_ndecF (by omega) ?_); conv => whnf)
 | ((first | refine if_dec (fun h => ?_) (fun h => ?_) | refine if_ndec (fun h => ?_) (fun h => ?_) | refine if_cond (fun h => ?_) (fun h => ?_)); all_goals (conv => whnf))
 | with_reducible apply_assumption -symm -exfalso)
  all_goals exact FinK.ro0 rfl (HSub.pick (by repeat (first | with_reducible apply At.head | apply At.tail)))
end Go.Proofs.YthmjkaljkgjicaaGreatDoor
