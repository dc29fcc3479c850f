/- Contracts and lemmas for the claim (part 3); no condition of its own. -/
import Derived.Test.YtbgnoibellfojaaGreatDoorYC702
import Derived.Test.YtbgnoibellfojaaGreatDoorYC701
import Derived.Test.YtbgnoibellfojaaGreatDoorCards
import Derived.Test.YtbgnoibellfojaaGreatDoorTie
import Derived.ProofKit
import Derived.OpenShut
import Derived.Lay
import Derived.Lib.LaidU8
import Derived.Carry
import Derived.MakeChecks
import Derived.Deep.DeepHandedRow
import Derived.ChangeMaps5
import Derived.Deep.Slices
set_option linter.all false
set_option linter.unusedVariables false
set_option linter.unusedSimpArgs false
set_option linter.unnecessarySimpa false
namespace Go.Proofs.YtbgnoibellfojaaGreatDoor
open Go Go.X
set_option maxRecDepth 100000
set_option maxHeartbeats 0
/-- a variable that holds a slice -/
def BxA (ty e k p : Nat) (n : Nat) (cs : List Value) : Ass :=
  ⟨fun w S => ∃ a cap, Holds w [.blk 2 p [.v (.slice a n cap)] ty, .ext 3 (SlA e k a n cap cs)] S, fun _ _ _ h ⟨a, cap, hx⟩ => ⟨a, cap, hx.loc h⟩⟩
theorem BxA.open {w : World} {S : Nat → Prop} {X Y : List Blk} {ty e k p n j : Nat} {cs : List Value} (h : Holds w (X ++ .ext j (BxA ty e k p n cs) :: Y) S) :
    ∃ (z : Option Addr × Nat) (S' : Nat → Prop), Holds w (X ++ .blk 2 p [.v (.slice z.1 n z.2)] ty :: .ext 3 (SlA e k z.1 n z.2 cs) :: Y) S' ∧ ∀ k, S' k → S k := by
  obtain ⟨TX, TY, h1, h2, h3, h4⟩ := h.split _ _
  cases h2 with
  | @cons _ _ Sx T hx hb hY hd =>
    obtain ⟨a, cap, hz⟩ := hx
    obtain ⟨T', q1, q2⟩ := Holds.glue _ _ hz hY hd
    obtain ⟨T'', q3, q4⟩ := Holds.glue _ _ h1 q1 (fun k hk hk' => h3 k hk ((q2 k).1 hk'))
    exact ⟨(a, cap), T'', q3, fun k hk => (h4 k).2 (((q4 k).1 hk).imp id (q2 k).1)⟩
theorem BxA.close {ty e k p n j : Nat} {a cap} {cs : List Value} {i1 i2 : Nat} : HSub [.ext j (BxA ty e k p n cs)] [.blk i1 p [.v (.slice a n cap)] ty, .ext i2 (SlA e k a n cap cs)] :=
  HSub.close fun w S h => by
    cases h with
    | @cons _ _ S1 T1 hx hb hH hd =>
      cases hH with
      | @cons _ _ S2 T2 hx2 hb2 hH2 hd2 =>
        cases hH2
        exact ⟨a, cap, .cons (x := .blk 2 p _ ty) hx hb (.cons (x := .ext 3 _) hx2 hb2 .nil hd2) hd⟩
theorem BxA.nil {ty e k p j : Nat} {i1 : Nat} : HSub [.ext j (BxA ty e k p 0 [])] [.blk i1 p [.v (.slice none 0 0)] ty] :=
  fun w S h => by
    cases h with
    | @cons _ _ S1 T1 hx hb hH hd =>
      cases hH
      have h2 : Holds w [.ext 3 (SlA e k none 0 0 [])] (fun _ => False ∨ False) := .cons (S := fun _ => False) (x := .ext 3 (SlA e k none 0 0 [])) (.inl ⟨rfl, rfl, rfl, rfl⟩) (fun _ h => h.elim) .nil (fun _ h _ => h)
      have h3 : Holds w [.blk 2 p [.v (.slice none 0 0)] ty, .ext 3 (SlA e k none 0 0 [])] (fun k => S1 k ∨ (False ∨ False)) := .cons (x := .blk 2 p [.v (.slice none 0 0)] ty) hx hb h2 (fun _ _ h => h.elim id id)
      exact ⟨_, .cons (x := .ext j (BxA ty e k p 0 [])) ⟨none, 0, h3⟩ (fun k hk => hk.elim (hb k) (fun h => h.elim False.elim False.elim)) .nil (fun _ _ h => h), fun k hk => hk.elim (fun h => h.elim .inl (fun h => h.elim False.elim False.elim)) False.elim⟩
/-- the keys of a map of one entry, handed out: maps.Keys over map[int]api.Item -/
def En (k : Int) (v : Value) (b : Nat) : MapEntry := ⟨.int .i64 k, v, b⟩
theorem keys142 {bx m clk b : Nat} {k : Int} {v : Value} (hb : b < clk) : ItS Tryz.prog 142 (denL [.loc bx 1 0]) [.blk 1 bx [.v (.map (some m))] 116, .ext 2 (MpA m [En k v b] clk)] [.blk 1 bx [.v (.map (some m))] 116, .ext 2 (MpA m [En k v b] clk)] [denL [.v (.int .i64 k)]] := by
  intro J yv hyv w
  have hy := hyv 0 _ rfl
  refine enter_fr TBok (H := .ext 0 (J 0) :: [.blk 1 bx [.v (.map (some m))] 116, .ext 2 (MpA m [En k v b] clk)]) all_foot Tryz.func142 rfl rfl Tryz.ntmps142 [.v yv, .loc bx 1 0] rfl rfl ?_
  intro S
  unfold En
  conv => whnf
  repeat' (first
 | with_reducible ((first | refine r_seq (fun KS hS => ?_) | (refine hS _ _ ?_; clear hS KS) | (refine hA _ ?_; clear hA KA) | (refine hB _ ?_; clear hB KB) | refine r_block ?_))
 | ((with_reducible (first | refine r_region ?_ | refine r_cond (fun KA hA KB hB => ?_) | refine r_skip ?_ | refine r_exit ?_ | refine And.intro rfl ?_ | intro b)); conv => whnf)
 | ((with_reducible refine OpK.id ?_); refine OpK.rngM rfl rfl rfl rfl (by repeat (first | with_reducible apply At.head | apply At.tail)) ?_; conv => whnf)
 | ((with_reducible refine OpK.id ?_); (first | refine OpK.nx1 rfl rfl (by repeat (first | with_reducible apply At.head | apply At.tail)) (by repeat (first | with_reducible apply At.head | apply At.tail)) hb ?_ | refine OpK.nxD rfl rfl (by repeat (first | with_reducible apply At.head | apply At.tail)) (by repeat (first | with_reducible apply At.head | apply At.tail)) hb ?_ | refine OpK.ent1 rfl rfl (by repeat (first | with_reducible apply At.head | apply At.tail)) (by repeat (first | with_reducible apply At.head | apply At.tail)) ?_); conv => whnf)
 | ((with_reducible refine CallV.id ?_); refine CallV.fr (.tail .head) (v := .bool true) (y := .ext 0 (J 1)) (fun w S h1 h2 => hy w S h1 h2) ?_; conv => whnf)
 | with_reducible (first | refine Rounds.step (fun KL hL => ?_) | refine r_rounds 100 ?_)
 | with_reducible apply_assumption -symm -exfalso)
  exact FinK.frL rfl (HSub.drop (HSub.refl _))
theorem keys106 {bx m clk b : Nat} {k : Int} {v : Value} (hb : b < clk) : ItS Tryz.prog 106 (denL [.loc bx 1 0]) [.blk 1 bx [.v (.map (some m))] 79, .ext 2 (MpA m [En k v b] clk)] [.blk 1 bx [.v (.map (some m))] 79, .ext 2 (MpA m [En k v b] clk)] [denL [.v (.int .i64 k)]] := by
  intro J yv hyv w
  have hy := hyv 0 _ rfl
  refine enter_fr TBok (H := .ext 0 (J 0) :: [.blk 1 bx [.v (.map (some m))] 79, .ext 2 (MpA m [En k v b] clk)]) all_foot Tryz.func106 rfl rfl Tryz.ntmps106 [.v yv, .loc bx 1 0] rfl rfl ?_
  intro S
  unfold En
  conv => whnf
  repeat' (first
 | with_reducible ((first | refine r_seq (fun KS hS => ?_) | (refine hS _ _ ?_; clear hS KS) | (refine hA _ ?_; clear hA KA) | (refine hB _ ?_; clear hB KB) | refine r_block ?_))
 | ((with_reducible (first | refine r_region ?_ | refine r_cond (fun KA hA KB hB => ?_) | refine r_skip ?_ | refine r_exit ?_ | refine And.intro rfl ?_ | intro b)); conv => whnf)
 | ((with_reducible refine OpK.id ?_); refine OpK.rngM rfl rfl rfl rfl (by repeat (first | with_reducible apply At.head | apply At.tail)) ?_; conv => whnf)
 | ((with_reducible refine OpK.id ?_); (first | refine OpK.nx1 rfl rfl (by repeat (first | with_reducible apply At.head | apply At.tail)) (by repeat (first | with_reducible apply At.head | apply At.tail)) hb ?_ | refine OpK.nxD rfl rfl (by repeat (first | with_reducible apply At.head | apply At.tail)) (by repeat (first | with_reducible apply At.head | apply At.tail)) hb ?_ | refine OpK.ent1 rfl rfl (by repeat (first | with_reducible apply At.head | apply At.tail)) (by repeat (first | with_reducible apply At.head | apply At.tail)) ?_); conv => whnf)
 | ((with_reducible refine CallV.id ?_); refine CallV.fr (.tail .head) (v := .bool true) (y := .ext 0 (J 1)) (fun w S h1 h2 => hy w S h1 h2) ?_; conv => whnf)
 | with_reducible (first | refine Rounds.step (fun KL hL => ?_) | refine r_rounds 100 ?_)
 | with_reducible apply_assumption -symm -exfalso)
  exact FinK.frL rfl (HSub.drop (HSub.refl _))
theorem len157 (w : World) : Pu Tryz.prog 157 #[.int .u64 1] w (.int .i64 1) := by
  refine enter_sound TBok Tryz.func157 rfl rfl Tryz.ntmps157 [.v (.int .u64 1)] (Kn.start w noS) rfl rfl ?_
  conv => whnf
  repeat' (first
 | with_reducible ((first | refine r_seq (fun KS hS => ?_) | (refine hS _ _ ?_; clear hS KS) | (refine hB _ ?_; clear hB KB)))
 | ((with_reducible (first | refine r_region ?_ | refine r_cond (fun KA hA KB hB => ?_) | refine r_ret ?_ | refine r_skip ?_ | refine And.intro rfl ?_)); conv => whnf)
 | ((with_reducible refine WrapK.i64 ?_ ?_); (focus omega); conv => whnf)
 | (apply in271; rfl; rfl; rfl; intro A; conv => whnf)
 | ((with_reducible refine OpK.id ?_); refine OpK.sIx (b := 1) rfl rfl rfl rfl rfl (by omega) rfl ?_; conv => whnf)
 | ((with_reducible refine WrapK.id ?_); (first | refine WrapK.eq (IntWalk.u8_in _ (by omega)) ?_ | refine WrapK.eq (z' := 1) (by decide +kernel) ?_); conv => whnf)
 | with_reducible apply_assumption -symm -exfalso)
  exact FinK.pu rfl
theorem sort105 {a : Option Addr} {cap : Nat} (w : World) : Pu Tryz.prog 105 #[.slice a 1 cap] w (.tuple #[]) := by
  refine enter_sound TBok Tryz.func105 rfl rfl Tryz.ntmps105 [.v (.slice a 1 cap)] (Kn.start w noS) rfl rfl ?_
  conv => whnf
  repeat' (first
 | with_reducible ((first | refine r_seq (fun KS hS => ?_) | (refine hS _ _ ?_; clear hS KS) | (refine hA _ ?_; clear hA KA) | (refine hB _ ?_; clear hB KB) | refine r_block ?_))
 | ((with_reducible (first | refine r_region ?_ | refine r_cond (fun KA hA KB hB => ?_) | refine r_ret ?_ | refine r_exit ?_ | refine And.intro rfl ?_)); conv => whnf)
 | ((with_reducible refine WrapK.i64 ?_ ?_); (focus omega); conv => whnf)
 | ((with_reducible refine CallK.id ?_); (first | apply in156 | apply in261); rfl; rfl; rfl; intro A; conv => whnf)
 | ((with_reducible refine CallK.at 157 ?_); refine CallK.pu (fun w => len157 w) ?_; conv => whnf)
 | ((with_reducible refine WrapK.id ?_); refine WrapK.eq (IntWalk.u64_in _ (by omega)) ?_; conv => whnf)
 | with_reducible (first | refine Rounds.step (fun KL hL => ?_) | refine r_rounds 100 ?_)
 | with_reducible apply_assumption -symm -exfalso)
  exact FinK.pu rfl
theorem sorted142 {bx m clk b0 : Nat} {k : Int} {v : Value} (hb : b0 < clk) (w : World) : FrZ Tryz.prog 63 #[.func (.func 142) #[] #[pv bx]] w (AssL [.blk 1 bx [.v (.map (some m))] 116, .ext 2 (MpA m [En k v b0] clk)]) (fun z : Option Addr × Nat => .slice z.1 1 z.2) (fun z => AssL [.ext 3 (SlA 3 1 z.1 1 z.2 [.int .i64 k]), .blk 1 bx [.v (.map (some m))] 116, .ext 2 (MpA m [En k v b0] clk)]) := by
  refine enter_frZ TBok (H := [.blk 1 bx [.v (.map (some m))] 116, .ext 2 (MpA m [En k v b0] clk)]) all_foot Tryz.func63 rfl rfl Tryz.ntmps63 [.fn 142 [.loc bx 1 0]] rfl rfl ?_
  intro S _ _
  conv => whnf
  repeat' (first
 | with_reducible ((first | refine r_seq (fun KS hS => ?_) | (refine hS _ _ ?_; clear hS KS) | refine r_block ?_))
 | ((with_reducible (first | refine r_region ?_ | intro b)); conv => whnf)
 | ((with_reducible refine CallK.id ?_); (first | apply in104 | apply in155); rfl; rfl; rfl; intro A; conv => whnf))
  rename_i A1 _ _
  refine r_rangeFunc (fun i => [.ext 5 (BxA 69 3 1 b i ([Value.int .i64 k].take i)), .ext 0 A1, .ext 0 A]) [[.v (.int .i64 k)]] 14 rfl ?_ (keys142 (bx := bx) (m := m) (v := v) hb) (by simp) (by decide) ?_ ?_
  · exact HSub.trans (HSub.perm ((List.perm_append_comm (l₁ := [_]) (l₂ := [_, _])).append_right [_, _])) (HSub.app2 BxA.nil (HSub.refl _))
  · intro i x hx lp rc W' S'
    obtain ⟨rfl, rfl⟩ : i = 0 ∧ [SV.v (.int .i64 k)] = x := by
      cases i with
      | zero => simpa using hx
      | succ i => simp at hx
    conv => whnf
    repeat' (first
 | ((with_reducible refine r_region ?_); conv => whnf))
    refine ⟨_, rfl, ?_⟩
    refine r_block ?_
    refine Run.open (α := Option Addr × Nat) (A := []) (B := []) (fun z => [.ext 14 (lrA lp { rc with state := .busy }), .blk 2 b [.v (.slice z.1 0 z.2)] 69, .ext 3 (SlA 3 1 z.1 0 z.2 []), .ext 0 A1, .ext 0 A]) (fun w S h => BxA.open (X := [_]) (Y := [_, _]) h) ?_
    rintro ⟨a, cap⟩
    dsimp only
    repeat' (first
 | ((with_reducible (first | refine r_region ?_ | refine And.intro rfl ?_ | intro b)); conv => whnf)
 | ((with_reducible refine OpK.id ?_); refine OpK.app (k := 1) rfl rfl rfl rfl rfl rfl rfl rfl (by repeat (first | with_reducible apply At.head | apply At.tail)) (SrcK.slc rfl rfl (by repeat (first | constructor | apply List.Mem.tail)) (Nat.le_refl _) rfl) (by show (0 + 1) * (8 + 1) ≤ 140737488355328; omega) (fun a' cap' => ?_); conv => whnf))
    refine ⟨HSub.drop (HSub.ext (fun _ _ h => h) (HSub.app2 (A' := [_]) (A := [_, _]) BxA.close (HSub.refl _)))⟩
  · refine hS _ _ ?_
    clear hS KS
    refine Run.open (α := Option Addr × Nat) (A := []) (B := []) (fun z => [.blk 1 bx [.v (.map (some m))] 116, .ext 2 (MpA m [En k v b0] clk), .blk 2 b [.v (.slice z.1 1 z.2)] 69, .ext 3 (SlA 3 1 z.1 1 z.2 [.int .i64 k]), .ext 0 A1, .ext 0 A]) (fun w S h => BxA.open (X := [_, _]) (Y := [_, _]) h) ?_
    rintro ⟨a, cap⟩
    dsimp only
    repeat' (first
 | with_reducible ((first | refine r_seq (fun KS hS => ?_) | (refine hS _ _ ?_; clear hS KS)))
 | ((with_reducible (first | refine r_region ?_ | refine r_ret ?_ | refine And.intro rfl ?_)); conv => whnf)
 | ((with_reducible refine CallK.at 105 ?_); refine CallK.pu (fun w => sort105 w) ?_; conv => whnf))
    exact FinK.frZL (a, cap) rfl (by (try dsimp only [List.cons_append, List.nil_append, den, denL]); refine SelI.spec ?_; (repeat (first | refine SelI.blk (by repeat (first | with_reducible apply Rm.head | apply Rm.tail)) ?_ | refine SelI.ext (by repeat (first | with_reducible apply Rm.head | apply Rm.tail)) ?_ | (refine SelI.blk' (by repeat (first | with_reducible apply Rm.head | apply Rm.tail)) ?_ ?_; focus rfl) | (refine SelI.ext' (by repeat (first | with_reducible apply Rm.head | apply Rm.tail)) ?_ ?_; focus rfl))); exact SelI.nil)
theorem sorted106 {bx m clk b0 : Nat} {k : Int} {v : Value} (hb : b0 < clk) (w : World) : FrZ Tryz.prog 63 #[.func (.func 106) #[] #[pv bx]] w (AssL [.blk 1 bx [.v (.map (some m))] 79, .ext 2 (MpA m [En k v b0] clk)]) (fun z : Option Addr × Nat => .slice z.1 1 z.2) (fun z => AssL [.ext 3 (SlA 3 1 z.1 1 z.2 [.int .i64 k]), .blk 1 bx [.v (.map (some m))] 79, .ext 2 (MpA m [En k v b0] clk)]) := by
  refine enter_frZ TBok (H := [.blk 1 bx [.v (.map (some m))] 79, .ext 2 (MpA m [En k v b0] clk)]) all_foot Tryz.func63 rfl rfl Tryz.ntmps63 [.fn 106 [.loc bx 1 0]] rfl rfl ?_
  intro S _ _
  conv => whnf
  repeat' (first
 | with_reducible ((first | refine r_seq (fun KS hS => ?_) | (refine hS _ _ ?_; clear hS KS) | refine r_block ?_))
 | ((with_reducible (first | refine r_region ?_ | intro b)); conv => whnf)
 | ((with_reducible refine CallK.id ?_); (first | apply in104 | apply in155); rfl; rfl; rfl; intro A; conv => whnf))
  rename_i A1 _ _
  refine r_rangeFunc (fun i => [.ext 5 (BxA 69 3 1 b i ([Value.int .i64 k].take i)), .ext 0 A1, .ext 0 A]) [[.v (.int .i64 k)]] 14 rfl ?_ (keys106 (bx := bx) (m := m) (v := v) hb) (by simp) (by decide) ?_ ?_
  · exact HSub.trans (HSub.perm ((List.perm_append_comm (l₁ := [_]) (l₂ := [_, _])).append_right [_, _])) (HSub.app2 BxA.nil (HSub.refl _))
  · intro i x hx lp rc W' S'
    obtain ⟨rfl, rfl⟩ : i = 0 ∧ [SV.v (.int .i64 k)] = x := by
      cases i with
      | zero => simpa using hx
      | succ i => simp at hx
    conv => whnf
    repeat' (first
 | ((with_reducible refine r_region ?_); conv => whnf))
    refine ⟨_, rfl, ?_⟩
    refine r_block ?_
    refine Run.open (α := Option Addr × Nat) (A := []) (B := []) (fun z => [.ext 14 (lrA lp { rc with state := .busy }), .blk 2 b [.v (.slice z.1 0 z.2)] 69, .ext 3 (SlA 3 1 z.1 0 z.2 []), .ext 0 A1, .ext 0 A]) (fun w S h => BxA.open (X := [_]) (Y := [_, _]) h) ?_
    rintro ⟨a, cap⟩
    dsimp only
    repeat' (first
 | ((with_reducible (first | refine r_region ?_ | refine And.intro rfl ?_ | intro b)); conv => whnf)
 | ((with_reducible refine OpK.id ?_); refine OpK.app (k := 1) rfl rfl rfl rfl rfl rfl rfl rfl (by repeat (first | with_reducible apply At.head | apply At.tail)) (SrcK.slc rfl rfl (by repeat (first | constructor | apply List.Mem.tail)) (Nat.le_refl _) rfl) (by show (0 + 1) * (8 + 1) ≤ 140737488355328; omega) (fun a' cap' => ?_); conv => whnf))
    refine ⟨HSub.drop (HSub.ext (fun _ _ h => h) (HSub.app2 (A' := [_]) (A := [_, _]) BxA.close (HSub.refl _)))⟩
  · refine hS _ _ ?_
    clear hS KS
    refine Run.open (α := Option Addr × Nat) (A := []) (B := []) (fun z => [.blk 1 bx [.v (.map (some m))] 79, .ext 2 (MpA m [En k v b0] clk), .blk 2 b [.v (.slice z.1 1 z.2)] 69, .ext 3 (SlA 3 1 z.1 1 z.2 [.int .i64 k]), .ext 0 A1, .ext 0 A]) (fun w S h => BxA.open (X := [_, _]) (Y := [_, _]) h) ?_
    rintro ⟨a, cap⟩
    dsimp only
    repeat' (first
 | with_reducible ((first | refine r_seq (fun KS hS => ?_) | (refine hS _ _ ?_; clear hS KS)))
 | ((with_reducible (first | refine r_region ?_ | refine r_ret ?_ | refine And.intro rfl ?_)); conv => whnf)
 | ((with_reducible refine CallK.at 105 ?_); refine CallK.pu (fun w => sort105 w) ?_; conv => whnf))
    exact FinK.frZL (a, cap) rfl (by (try dsimp only [List.cons_append, List.nil_append, den, denL]); refine SelI.spec ?_; (repeat (first | refine SelI.blk (by repeat (first | with_reducible apply Rm.head | apply Rm.tail)) ?_ | refine SelI.ext (by repeat (first | with_reducible apply Rm.head | apply Rm.tail)) ?_ | (refine SelI.blk' (by repeat (first | with_reducible apply Rm.head | apply Rm.tail)) ?_ ?_; focus rfl) | (refine SelI.ext' (by repeat (first | with_reducible apply Rm.head | apply Rm.tail)) ?_ ?_; focus rfl))); exact SelI.nil)
end Go.Proofs.YtbgnoibellfojaaGreatDoor

namespace Go.Proofs.YtbgnoibellfojaaGreatDoor
open Go Go.X
set_option maxRecDepth 100000
set_option maxHeartbeats 0
def DC (n gs tk : Int) (m : Nat) : List SV := [.v (.int .i64 n), .v (.int .i64 gs), .v (.int .i64 tk), .v (.map (some m))]
def DAt (w : World) (d : Nat) (n gs tk : Int) (m : Nat) : Prop := w.heap[d]? = some (.cells (denL (DC n gs tk m)).toArray 81 (0, 0))
theorem KAt.ne {w : World} {d : Nat} {n gs tk : Int} {m : Nat} (h : KAt w) (hd : DAt w d n gs tk m) : ¬ (0 : Nat) = d := by
  rintro rfl
  obtain ⟨_, C, t, f, h1, h2, _⟩ := h
  unfold DAt at hd
  rw [h1] at hd
  simp only [Option.some.injEq, Obj.cells.injEq] at hd
  have := h2 0 _ rfl
  rw [hd.1] at this
  simp [denL, DC] at this
theorem target20 {s t p m : Int} {i : Bool} {g : Int} {w : World} {d : Nat} {n gs tk tries : Int} {mp : Nat} (hd : DAt w d n gs tk mp) (h : ItemOk s t p m i g) (hn : 1 ≤ n ∧ n ≤ 7) (hg : g < gs) (ht : 0 ≤ tries ∧ tries ≤ 9223372036854775807) :
    Pu Tryz.prog 20 #[pv d, .agg #[.int .i64 s, .int .i64 t, .int .i64 p, .int .i64 m, .bool i, .int .i64 g], .int .i64 tries] w (.tuple #[.int .i64 (g * n + tries % n), .int .i64 0]) := by
  have h' := h
  obtain ⟨h1, h2, _⟩ := h'
  have hgn : 0 ≤ g * n ∧ g * n ≤ 49 := ⟨Int.mul_nonneg (by omega) (by omega), by
    have := Int.mul_le_mul h2 hn.2 (by omega) (by omega)
    omega⟩
  have hrm : 0 ≤ tries % n ∧ tries % n < n := ⟨Int.emod_nonneg _ (by omega), Int.emod_lt_of_pos _ (by omega)⟩
  refine Pu.ofFrZ (enter_ro TBok (cs := DC n gs tk mp) hd Tryz.func20 rfl rfl Tryz.ntmps20 [.loc d 10 0, .agg [.v (.int .i64 s), .v (.int .i64 t), .v (.int .i64 p), .v (.int .i64 m), .v (.bool i), .v (.int .i64 g)], .v (.int .i64 tries)] rfl rfl ?_)
  unfold DC
  conv => whnf
  repeat' (first
 | with_reducible ((first | refine r_seq (fun KS hS => ?_) | (refine hS _ _ ?_; clear hS KS) | (refine hB _ ?_; clear hB KB) | refine r_block ?_))
 | ((with_reducible (first | refine r_region ?_ | refine r_cond (fun KA hA KB hB => ?_) | refine r_ret ?_ | refine r_skip ?_ | refine And.intro rfl ?_ | intro b)); conv => whnf)
 | ((with_reducible refine WrapK.i64 ?_ ?_); (focus omega); conv => whnf)
 | (apply in45; rfl; rfl; rfl; intro A; conv => whnf)
 | ((with_reducible refine CallQ.at 50 ?_); refine CallQ.pu (fun w => itemOk50 h w) ?_; conv => whnf)
 | ((with_reducible refine RemK.id ?_); refine RemK.eq (by omega) (IntWalk.rem_in _ _ (by omega)) ?_; conv => whnf)
 | ((with_reducible apply OpK.more); (focus refine sok); (conv => whnf); fail_if_success guard_target =ₛ False)
 | (apply r_quiet; refine mixed; kernel_rfl; kernel_rfl; kernel_rfl; conv => whnf)
 | (refine if_decF (by omega) ?_; conv => whnf)
 | with_reducible apply_assumption -symm -exfalso)
  all_goals exact FinK.ro0 rfl (HSub.pick (by repeat (first | with_reducible apply At.head | apply At.tail)))
theorem okEff {s t p g : Nat} {k : ByteArray} {dl : Int} (h : EffOk s t p) (hg : 1 ≤ g ∧ g ≤ 7) (hk : nameOk k = true) (hks : k.size ≤ 16) (hdl : dl ≠ 0) (hn : NumOk dl) : ItemOk s t p 0 false g := ⟨by omega, by omega, .inl ⟨rfl, rfl, h⟩⟩
theorem fitsEff61 {s t p g : Nat} {k : ByteArray} {dl : Int} (h : EffOk s t p) (hg : 1 ≤ g ∧ g ≤ 7) (hk : nameOk k = true) (hks : k.size ≤ 16) (hdl : dl ≠ 0) (hn : NumOk dl) (w : World) : Pu Tryz.prog 61 #[.agg #[.int .i64 1, .int .i64 0, .int .i64 0, .int .i64 (s : Nat), .int .i64 (t : Nat), .int .i64 (p : Nat), .string k, .int .i64 dl, .int .i64 0, .string ⟨#[]⟩, .string ⟨#[]⟩, .int .i64 0, .string ⟨#[]⟩, .int .i64 0, .int .i64 0, .slice none 0 0, .int .i64 0, .int .i64 0, .int .i64 0, .int .i64 0, .bool false, .int .i64 0, .int .i64 0, .string ⟨#[]⟩], .agg #[.int .i64 (s : Nat), .int .i64 (t : Nat), .int .i64 (p : Nat), .int .i64 0, .bool false, .int .i64 (g : Nat)]] w (.bool true) := by
  have h0 := h
  unfold EffOk at h0
  refine enter_sound TBok Tryz.func61 rfl rfl Tryz.ntmps61 [.agg [.v (.int .i64 1), .v (.int .i64 0), .v (.int .i64 0), .v (.int .i64 (s : Nat)), .v (.int .i64 (t : Nat)), .v (.int .i64 (p : Nat)), .v (.string k), .v (.int .i64 dl), .v (.int .i64 0), .v (.string ⟨#[]⟩), .v (.string ⟨#[]⟩), .v (.int .i64 0), .v (.string ⟨#[]⟩), .v (.int .i64 0), .v (.int .i64 0), .v (.slice none 0 0), .v (.int .i64 0), .v (.int .i64 0), .v (.int .i64 0), .v (.int .i64 0), .v (.bool false), .v (.int .i64 0), .v (.int .i64 0), .v (.string ⟨#[]⟩)], .agg [.v (.int .i64 (s : Nat)), .v (.int .i64 (t : Nat)), .v (.int .i64 (p : Nat)), .v (.int .i64 0), .v (.bool false), .v (.int .i64 (g : Nat))]] (Kn.start w noS) rfl rfl ?_
  conv => whnf
  repeat' (first
 | with_reducible ((first | refine r_seq (fun KS hS => ?_) | (refine hS _ _ ?_; clear hS KS) | (refine hB _ ?_; clear hB KB) | refine r_block ?_))
 | ((with_reducible (first | refine r_region ?_ | refine r_cond (fun KA hA KB hB => ?_) | refine r_ret ?_ | refine r_skip ?_ | refine And.intro rfl ?_ | intro b)); conv => whnf)
 | ((with_reducible refine CallK.at 102 ?_); refine CallK.pu (fun w => checkEff102 h hk (by omega) hdl hn w) ?_; conv => whnf)
 | (refine if_t (by first | (simp; done) | (simp; omega)) ?_; conv => whnf)
 | ((with_reducible apply OpK.more); (focus refine sok); (conv => whnf); fail_if_success guard_target =ₛ False)
 | with_reducible apply_assumption -symm -exfalso)
  all_goals (refine FinK.pu ?_; first | (simp [den]; done) | (simp [den]; omega))
theorem fromIEff75 {s t p g : Nat} {k : ByteArray} {dl : Int} (h : EffOk s t p) (hg : 1 ≤ g ∧ g ≤ 7) (hk : nameOk k = true) (hks : k.size ≤ 16) (hdl : dl ≠ 0) (hn : NumOk dl) {num : Nat} (hnum : (num : Int) = ((((s : Int) - 1) * 8 + t) * 3 + p - 1) * 7 + g) (w : World) : Pu Tryz.prog 75 #[.int .i64 (num : Nat)] w (.tuple #[.agg #[.int .i64 (s : Nat), .int .i64 (t : Nat), .int .i64 (p : Nat), .int .i64 0, .bool false, .int .i64 (g : Nat)], .int .i64 0]) := by
  have h0 := h
  unfold EffOk at h0
  refine Pu.congr (fromEff75 (n := num) (by omega) w) ?_
  congr 2
  simp only [List.cons.injEq, Value.agg.injEq, Value.int.injEq, Value.bool.injEq, Array.mk.injEq, true_and, and_true, decide_eq_true_eq, decide_eq_false_iff_not]
  omega
theorem questionEff41 {s t p g : Nat} {k : ByteArray} {dl : Int} (h : EffOk s t p) (hg : 1 ≤ g ∧ g ≤ 7) (hk : nameOk k = true) (hks : k.size ≤ 16) (hdl : dl ≠ 0) (hn : NumOk dl) {w : World} {d f to num : Nat} {n gs tk : Int} {mp : Nat} {v : ByteArray} (hd : DAt w d n gs tk mp) (hka : KAt w) (hn7 : 1 ≤ n ∧ n ≤ 7) (hgs : g < gs) (hf : f < n) (hto : (to : Int) / n = g) (hto2 : to ≤ 55) (hft : f < to ∨ to < f) (hnum : (num : Int) = ((((s : Int) - 1) * 8 + t) * 3 + p - 1) * 7 + g) (hv : v.data.toList = uvar 1 ++ (uvar s ++ (uvar t ++ (uvar p ++ (uvar k.size ++ k.data.toList ++ (uvar (zigN dl) ++ [])))))) (hvs : v.size ≤ 65536) : Pu Tryz.prog 41 #[pv d, .agg #[.int .i64 10, .int .i64 (f : Nat), .int .i64 (to : Nat), .int .i64 0, .int .i64 0, .int .i64 0, .int .i64 (num : Nat), .string v, .slice none 0 0]] w (.tuple #[.agg #[.int .i64 (s : Nat), .int .i64 (t : Nat), .int .i64 (p : Nat), .int .i64 0, .bool false, .int .i64 (g : Nat)], .agg #[.int .i64 1, .int .i64 0, .int .i64 0, .int .i64 (s : Nat), .int .i64 (t : Nat), .int .i64 (p : Nat), .string k, .int .i64 dl, .int .i64 0, .string ⟨#[]⟩, .string ⟨#[]⟩, .int .i64 0, .string ⟨#[]⟩, .int .i64 0, .int .i64 0, .slice none 0 0, .int .i64 0, .int .i64 0, .int .i64 0, .int .i64 0, .bool false, .int .i64 0, .int .i64 0, .string ⟨#[]⟩], .bool true]) := by
  have h0 := h
  unfold EffOk at h0
  have hne := hka.ne hd
  refine Pu.ofFrZ (enter_ro TBok (cs := DC n gs tk mp) hd Tryz.func41 rfl rfl Tryz.ntmps41 [.loc d 10 0, .agg [.v (.int .i64 10), .v (.int .i64 (f : Nat)), .v (.int .i64 (to : Nat)), .v (.int .i64 0), .v (.int .i64 0), .v (.int .i64 0), .v (.int .i64 (num : Nat)), .v (.string v), .v (.slice none 0 0)]] rfl rfl ?_)
  unfold DC
  have hq : IntKind.i64.wrap ((to : Int).tdiv n) = (g : Int) := by rw [IntWalk.i64_quo _ _ (by omega), hto]
  conv => whnf
  repeat' (first
 | with_reducible ((first | refine r_seq (fun KS hS => ?_) | (refine hS _ _ ?_; clear hS KS) | (refine hB _ ?_; clear hB KB)))
 | ((with_reducible (first | refine r_region ?_ | refine r_cond (fun KA hA KB hB => ?_) | refine r_ret ?_ | refine r_skip ?_ | refine And.intro rfl ?_ | intro b)); conv => whnf)
 | (apply in45; rfl; rfl; rfl; intro A; conv => whnf)
 | ((with_reducible refine CallK.at 75 ?_); refine CallK.pu (fun w => fromIEff75 h hg hk hks hdl hn hnum w) ?_; conv => whnf)
 | ((with_reducible refine CallK.at 28 ?_); refine CallK.puW (fun ms w hk => check_ask28 (hka.now hne hk) (by omega) (by omega) hft (by omega) hvs) ?_; conv => whnf)
 | ((with_reducible refine QuoK.id ?_); refine QuoK.eq (by omega) hq ?_; conv => whnf)
 | ((with_reducible refine OpK.id ?_); refine OpK.cvSB rfl rfl rfl rfl rfl rfl rfl rfl ?_; rw [hv]; conv => whnf)
 | ((with_reducible refine CallK.at 76 ?_); refine CallK.puW (fun ms w hkn => decEff76 (k := k) (d := dl) (Sees.rd (Sees.ext (by repeat (first | with_reducible apply At.head | apply At.tail))) hkn) h hk hks hdl hn hvs) ?_; conv => whnf)
 | ((with_reducible refine CallK.at 61 ?_); refine CallK.pu (fun w => fitsEff61 h hg hk hks hdl hn w) ?_; conv => whnf)
 | (apply r_any (id := 7); refine mixed; kernel_rfl; kernel_rfl; conv => whnf)
 | ((with_reducible apply OpK.more); (focus refine sok); (conv => whnf); fail_if_success guard_target =ₛ False)
 | ((with_reducible ((first | refine InAt.mk (fun K' hK => ?_) | refine AnyAt.mk (fun K' hK => ?_) | (refine hK _ ?_; clear hK K') | (refine hK _ _ ?_; clear hK K')))); conv => whnf)
 | (refine And.intro ?_ ?_; all_goals (conv => whnf))
 | (apply r_quiet; refine mixed; kernel_rfl; kernel_rfl; kernel_rfl; conv => whnf)
 | ((first | refine if_decF (by omega) ?_ | refine if_ndecF (by omega) ?_); conv => whnf)
 | with_reducible apply_assumption -symm -exfalso)
  all_goals exact FinK.ro0 rfl (HSub.pick (by repeat (first | with_reducible apply At.head | apply At.tail)))
theorem fromIOut75 {m g : Nat} {f1 : ByteArray} (h : 1 ≤ (m : Int) ∧ (m : Int) ≤ 64) (hg : 1 ≤ g ∧ g ≤ 7) (hf1 : nameOk f1 = true) (hs : f1.size ≤ 16) {num : Nat} (hnum : (num : Int) = (239976 + 2 * (m : Int) - 2) * 7 + g) (w : World) : Pu Tryz.prog 75 #[.int .i64 (num : Nat)] w (.tuple #[.agg #[.int .i64 0, .int .i64 0, .int .i64 0, .int .i64 (m : Nat), .bool false, .int .i64 (g : Nat)], .int .i64 0]) := by
  refine Pu.congr (fromMove75 (n := num) (by omega) w) ?_
  congr 2
  simp only [List.cons.injEq, Value.agg.injEq, Value.int.injEq, Value.bool.injEq, Array.mk.injEq, true_and, and_true, decide_eq_true_eq, decide_eq_false_iff_not]
  omega
theorem fromIIn75 {m g : Nat} {f1 x : ByteArray} (h : 1 ≤ (m : Int) ∧ (m : Int) ≤ 64) (hg : 1 ≤ g ∧ g ≤ 7) (hf1 : nameOk f1 = true) (hs : f1.size ≤ 16) (hx : x.size ≤ 65536) {num : Nat} (hnum : (num : Int) = (239976 + 2 * (m : Int) - 1) * 7 + g) (w : World) : Pu Tryz.prog 75 #[.int .i64 (num : Nat)] w (.tuple #[.agg #[.int .i64 0, .int .i64 0, .int .i64 0, .int .i64 (m : Nat), .bool true, .int .i64 (g : Nat)], .int .i64 0]) := by
  refine Pu.congr (fromMove75 (n := num) (by omega) w) ?_
  congr 2
  simp only [List.cons.injEq, Value.agg.injEq, Value.int.injEq, Value.bool.injEq, Array.mk.injEq, true_and, and_true, decide_eq_true_eq, decide_eq_false_iff_not]
  omega
end Go.Proofs.YtbgnoibellfojaaGreatDoor

namespace Go.Proofs.YtbgnoibellfojaaGreatDoor
open Go Go.X
set_option maxRecDepth 100000
set_option maxHeartbeats 0
theorem sortedCall142 {nn : Nat} {W : World} {S : Nat → Prop} {r : Option Nat} {H R : List Blk} {nx : K1} {bx m clk b0 i i' j : Nat} {k : Int} {v : Value} (hb : b0 < clk)
    (hs : Sel H [.blk i bx [.v (.map (some m))] 116, .ext j (MpA m [⟨.int .i64 k, v, b0⟩] clk)] R)
    (hn : ∀ z : Option Addr × Nat, nx (.v (.slice z.1 1 z.2)) (.ext 60 (SlA 3 1 z.1 1 z.2 [.int .i64 k]) :: .blk i bx [.v (.map (some m))] 116 :: .ext j (MpA m [⟨.int .i64 k, v, b0⟩] clk) :: R)) : CallK ⟨Tryz.prog, TB, nn, W, S, r, TBok⟩ 63 [.fn 142 [.loc bx i' 0]] H nx :=
  CallK.frL (v := fun z : Option Addr × Nat => .slice z.1 1 z.2) (L0 := [.blk 1 bx [.v (.map (some m))] 116, .ext 2 (MpA m [En k v b0] clk)]) hs (HSub.keep rfl (HSub.ext (fun _ _ h => h) HSub.nil)) (fun _ w _ => sorted142 hb w)
    (M' := fun z => [.ext 60 (SlA 3 1 z.1 1 z.2 [.int .i64 k]), .blk i bx [.v (.map (some m))] 116, .ext j (MpA m [⟨.int .i64 k, v, b0⟩] clk)]) (fun z => HSub.ext (fun _ _ h => h) (HSub.keep rfl (HSub.ext (fun _ _ h => h) HSub.nil))) hn
theorem sortedCall106 {nn : Nat} {W : World} {S : Nat → Prop} {r : Option Nat} {H R : List Blk} {nx : K1} {bx m clk b0 i i' j : Nat} {k : Int} {v : Value} (hb : b0 < clk)
    (hs : Sel H [.blk i bx [.v (.map (some m))] 79, .ext j (MpA m [⟨.int .i64 k, v, b0⟩] clk)] R)
    (hn : ∀ z : Option Addr × Nat, nx (.v (.slice z.1 1 z.2)) (.ext 60 (SlA 3 1 z.1 1 z.2 [.int .i64 k]) :: .blk i bx [.v (.map (some m))] 79 :: .ext j (MpA m [⟨.int .i64 k, v, b0⟩] clk) :: R)) : CallK ⟨Tryz.prog, TB, nn, W, S, r, TBok⟩ 63 [.fn 106 [.loc bx i' 0]] H nx :=
  CallK.frL (v := fun z : Option Addr × Nat => .slice z.1 1 z.2) (L0 := [.blk 1 bx [.v (.map (some m))] 79, .ext 2 (MpA m [En k v b0] clk)]) hs (HSub.keep rfl (HSub.ext (fun _ _ h => h) HSub.nil)) (fun _ w _ => sorted106 hb w)
    (M' := fun z => [.ext 60 (SlA 3 1 z.1 1 z.2 [.int .i64 k]), .blk i bx [.v (.map (some m))] 79, .ext j (MpA m [⟨.int .i64 k, v, b0⟩] clk)]) (fun z => HSub.ext (fun _ _ h => h) (HSub.keep rfl (HSub.ext (fun _ _ h => h) HSub.nil))) hn
def wv (a l : Int) : Value := .agg #[.int .i64 a, .int .i64 l]
theorem i1 (k : Int) : (List.drop ((0 : Int).toNat * 1) [Value.int .i64 k]).take 1 = denL [.v (.int .i64 k)] := rfl
theorem dueFirst100 {num n gs tk : Int} {iv : Value} {d mp th bth bd clk b0 : Nat} {al ll : Int}  (X : Nat → Ass) (HH : Nat → List Blk) (h0 : HH 0 = [.blk 3 d (DC n gs tk mp) 81, .ext 4 (MpA mp [] clk), .ext 5 (MpA th [⟨.int .i64 num, iv, 0⟩] 1), .ext 9 (X 0)]) (A0 : Ass) (yv : Value) (hy : YS Tryz.prog yv [.int .i64 num, wv 0 0] (AssL (.ext 100 A0 :: HH 0)) (AssL (.ext 100 A0 :: HH 1))) (w : World) :
    Fr Tryz.prog 100 (yv :: denL [.loc bth 1 0, .loc bd 2 0]).toArray w (AssL (.ext 0 (AssL (.ext 100 A0 :: HH 0)) :: [.blk 1 bth [.v (.map (some th))] 116, .blk 2 bd [.loc d 3 0] 32])) (.tuple #[]) (AssL (.ext 0 (AssL (.ext 100 A0 :: HH 1)) :: [.blk 1 bth [.v (.map (some th))] 116, .blk 2 bd [.loc d 3 0] 32])) := by
  rw [h0] at hy ⊢
  show Fr Tryz.prog 100 (denL [.v yv, .loc bth 1 0, .loc bd 2 0]).toArray w _ _ _
  refine enter_fr TBok (H := .ext 0 (AssL (.ext 100 A0 :: [.blk 3 d (DC n gs tk mp) 81, .ext 4 (MpA mp [] clk), .ext 5 (MpA th [⟨.int .i64 num, iv, 0⟩] 1), .ext 9 (X 0)])) :: [.blk 1 bth [.v (.map (some th))] 116, .blk 2 bd [.loc d 3 0] 32]) all_foot Tryz.func100 rfl rfl Tryz.ntmps100 [.v yv, .loc bth 1 0, .loc bd 2 0] rfl rfl ?_
  intro S
  refine Run.unj ?_
  unfold DC
  conv => whnf
  repeat' (first
 | with_reducible ((first | refine r_seq (fun KS hS => ?_) | (refine hS _ _ ?_; clear hS KS) | (refine hA _ ?_; clear hA KA) | (refine hB _ ?_; clear hB KB) | refine r_block ?_))
 | ((with_reducible (first | refine r_region ?_ | refine r_cond (fun KA hA KB hB => ?_) | refine r_ret ?_ | refine r_skip ?_ | refine r_exit ?_ | refine And.intro rfl ?_ | intro b)); conv => whnf)
 | ((with_reducible refine WrapK.i64 ?_ ?_); (focus omega); conv => whnf)
 | (apply in101; rfl; rfl; rfl; intro A; conv => whnf)
 | ((with_reducible refine CallK.at 63 ?_); refine sortedCall142 (show (0 : Nat) < 1 from Nat.zero_lt_one) (Sel.cons (by repeat (first | with_reducible apply Rm.head | apply Rm.tail)) (Sel.cons (by repeat (first | with_reducible apply Rm.head | apply Rm.tail)) Sel.nil)) (fun z => ?_); conv => whnf)
 | ((with_reducible refine OpK.id ?_); (first | refine OpK.idx (k := 1) rfl rfl rfl rfl rfl rfl rfl (Sees.ext (by repeat (first | with_reducible apply At.head | apply At.tail))) (by omega) (by omega) (i1 _) (fun b off hp => ?_) | refine OpK.ldp rfl rfl hp (List.cons_ne_nil _ _) ?_ | refine OpK.lkE rfl rfl rfl rfl rfl rfl rfl rfl (by repeat (first | with_reducible apply At.head | apply At.tail)) ?_); conv => whnf)
 | ((with_reducible refine CallV.id ?_); refine CallV.weak (H' := .ext 0 (AssL (.ext 100 A0 :: [.blk 3 d [.v (.int .i64 n), .v (.int .i64 gs), .v (.int .i64 tk), .v (.map (some mp))] 81, .ext 4 (MpA mp [] clk), .ext 5 (MpA th [⟨.int .i64 num, iv, 0⟩] 1), .ext 9 (X 0)])) :: [.blk 1 bth [.v (.map (some th))] 116, .blk 2 bd [.loc d 3 0] 32]) (HSub.trans ((HSub.join (i := 0)).app2 (A := [_, _, _, _, _]) (HSub.refl _)) (by (try dsimp only [List.cons_append, List.nil_append, den, denL]); refine SelI.spec ?_; (repeat (first | refine SelI.blk (by repeat (first | with_reducible apply Rm.head | apply Rm.tail)) ?_ | refine SelI.ext (by repeat (first | with_reducible apply Rm.head | apply Rm.tail)) ?_ | (refine SelI.blk' (by repeat (first | with_reducible apply Rm.head | apply Rm.tail)) ?_ ?_; focus rfl) | (refine SelI.ext' (by repeat (first | with_reducible apply Rm.head | apply Rm.tail)) ?_ ?_; focus rfl))); exact SelI.nil)) ?_; refine CallV.fr .head (v := .bool true) (y := .ext 0 (AssL (.ext 100 A0 :: HH 1))) (fun w S h1 h2 => hy w S h1 h2) ?_; conv => whnf)
 | with_reducible (first | refine Rounds.step (fun KL hL => ?_) | refine r_rounds 100 ?_)
 | (apply r_quiet; refine mixed; kernel_rfl; kernel_rfl; kernel_rfl; conv => whnf)
 | with_reducible apply_assumption -symm -exfalso)
  exact FinK.frL rfl (by (try dsimp only [List.cons_append, List.nil_append, den, denL]); refine SelI.spec ?_; (repeat (first | refine SelI.blk (by repeat (first | with_reducible apply Rm.head | apply Rm.tail)) ?_ | refine SelI.ext (by repeat (first | with_reducible apply Rm.head | apply Rm.tail)) ?_ | (refine SelI.blk' (by repeat (first | with_reducible apply Rm.head | apply Rm.tail)) ?_ ?_; focus rfl) | (refine SelI.ext' (by repeat (first | with_reducible apply Rm.head | apply Rm.tail)) ?_ ?_; focus rfl))); exact SelI.nil)
theorem dueNot100 {num n gs tk : Int} {iv : Value} {d mp th bth bd clk b0 : Nat} {al ll : Int} (hw : tk - ll < 4) (hr : -1000 ≤ tk - ll) (htk : 0 ≤ tk ∧ tk ≤ 1000000) (X : Nat → Ass) (HH : Nat → List Blk) (h0 : HH 0 = [.blk 3 d (DC n gs tk mp) 81, .ext 4 (MpA mp [⟨.int .i64 num, .agg #[.int .i64 al, .int .i64 ll], b0⟩] clk), .ext 5 (MpA th [⟨.int .i64 num, iv, 0⟩] 1), .ext 9 (X 0)]) (A0 : Ass) (yv : Value)  (w : World) :
    Fr Tryz.prog 100 (yv :: denL [.loc bth 1 0, .loc bd 2 0]).toArray w (AssL (.ext 0 (AssL (.ext 100 A0 :: HH 0)) :: [.blk 1 bth [.v (.map (some th))] 116, .blk 2 bd [.loc d 3 0] 32])) (.tuple #[]) (AssL (.ext 0 (AssL (.ext 100 A0 :: HH 0)) :: [.blk 1 bth [.v (.map (some th))] 116, .blk 2 bd [.loc d 3 0] 32])) := by
  rw [h0]
  show Fr Tryz.prog 100 (denL [.v yv, .loc bth 1 0, .loc bd 2 0]).toArray w _ _ _
  refine enter_fr TBok (H := .ext 0 (AssL (.ext 100 A0 :: [.blk 3 d (DC n gs tk mp) 81, .ext 4 (MpA mp [⟨.int .i64 num, .agg #[.int .i64 al, .int .i64 ll], b0⟩] clk), .ext 5 (MpA th [⟨.int .i64 num, iv, 0⟩] 1), .ext 9 (X 0)])) :: [.blk 1 bth [.v (.map (some th))] 116, .blk 2 bd [.loc d 3 0] 32]) all_foot Tryz.func100 rfl rfl Tryz.ntmps100 [.v yv, .loc bth 1 0, .loc bd 2 0] rfl rfl ?_
  intro S
  refine Run.unj ?_
  unfold DC
  conv => whnf
  repeat' (first
 | with_reducible ((first | refine r_seq (fun KS hS => ?_) | (refine hS _ _ ?_; clear hS KS) | (refine hA _ ?_; clear hA KA) | (refine hB _ ?_; clear hB KB) | refine r_block ?_))
 | ((with_reducible (first | refine r_region ?_ | refine r_cond (fun KA hA KB hB => ?_) | refine r_ret ?_ | refine r_skip ?_ | refine r_exit ?_ | refine And.intro rfl ?_ | intro b)); conv => whnf)
 | ((with_reducible refine WrapK.i64 ?_ ?_); (focus omega); conv => whnf)
 | (apply in101; rfl; rfl; rfl; intro A; conv => whnf)
 | ((with_reducible refine CallK.at 63 ?_); refine sortedCall142 (show (0 : Nat) < 1 from Nat.zero_lt_one) (Sel.cons (by repeat (first | with_reducible apply Rm.head | apply Rm.tail)) (Sel.cons (by repeat (first | with_reducible apply Rm.head | apply Rm.tail)) Sel.nil)) (fun z => ?_); conv => whnf)
 | ((with_reducible refine OpK.id ?_); (first | refine OpK.idx (k := 1) rfl rfl rfl rfl rfl rfl rfl (Sees.ext (by repeat (first | with_reducible apply At.head | apply At.tail))) (by omega) (by omega) (i1 _) (fun b off hp => ?_) | refine OpK.ldp rfl rfl hp (List.cons_ne_nil _ _) ?_ | refine OpK.lk1 rfl rfl rfl rfl rfl rfl rfl (by repeat (first | with_reducible apply At.head | apply At.tail)) ?_); conv => whnf)
 | with_reducible (first | refine Rounds.step (fun KL hL => ?_) | refine r_rounds 100 ?_)
 | (apply r_quiet; refine mixed; kernel_rfl; kernel_rfl; kernel_rfl; conv => whnf)
 | (refine if_decT (by omega) ?_; conv => whnf)
 | with_reducible apply_assumption -symm -exfalso)
  exact FinK.frL rfl (HSub.trans ((HSub.join (i := 0)).app2 (A := [.ext 100 A0, .blk 3 d [.v (.int .i64 n), .v (.int .i64 gs), .v (.int .i64 tk), .v (.map (some mp))] 81, .ext 4 (MpA mp [⟨.int .i64 num, .agg #[.int .i64 al, .int .i64 ll], b0⟩] clk), .ext 5 (MpA th [⟨.int .i64 num, iv, 0⟩] 1), .ext 9 (X 0)]) (HSub.refl _)) (by (try dsimp only [List.cons_append, List.nil_append, den, denL]); refine SelI.spec ?_; (repeat (first | refine SelI.blk (by repeat (first | with_reducible apply Rm.head | apply Rm.tail)) ?_ | refine SelI.ext (by repeat (first | with_reducible apply Rm.head | apply Rm.tail)) ?_ | (refine SelI.blk' (by repeat (first | with_reducible apply Rm.head | apply Rm.tail)) ?_ ?_; focus rfl) | (refine SelI.ext' (by repeat (first | with_reducible apply Rm.head | apply Rm.tail)) ?_ ?_; focus rfl))); exact SelI.nil))
theorem dueAgain100 {num n gs tk : Int} {iv : Value} {d mp th bth bd clk b0 : Nat} {al ll : Int} (hw : 4 ≤ tk - ll) (hr : -1000 ≤ ll) (htk : 0 ≤ tk ∧ tk ≤ 1000000) (X : Nat → Ass) (HH : Nat → List Blk) (h0 : HH 0 = [.blk 3 d (DC n gs tk mp) 81, .ext 4 (MpA mp [⟨.int .i64 num, .agg #[.int .i64 al, .int .i64 ll], b0⟩] clk), .ext 5 (MpA th [⟨.int .i64 num, iv, 0⟩] 1), .ext 9 (X 0)]) (A0 : Ass) (yv : Value) (hy : YS Tryz.prog yv [.int .i64 num, .agg #[.int .i64 al, .int .i64 ll]] (AssL (.ext 100 A0 :: HH 0)) (AssL (.ext 100 A0 :: HH 1))) (w : World) :
    Fr Tryz.prog 100 (yv :: denL [.loc bth 1 0, .loc bd 2 0]).toArray w (AssL (.ext 0 (AssL (.ext 100 A0 :: HH 0)) :: [.blk 1 bth [.v (.map (some th))] 116, .blk 2 bd [.loc d 3 0] 32])) (.tuple #[]) (AssL (.ext 0 (AssL (.ext 100 A0 :: HH 1)) :: [.blk 1 bth [.v (.map (some th))] 116, .blk 2 bd [.loc d 3 0] 32])) := by
  rw [h0] at hy ⊢
  show Fr Tryz.prog 100 (denL [.v yv, .loc bth 1 0, .loc bd 2 0]).toArray w _ _ _
  refine enter_fr TBok (H := .ext 0 (AssL (.ext 100 A0 :: [.blk 3 d (DC n gs tk mp) 81, .ext 4 (MpA mp [⟨.int .i64 num, .agg #[.int .i64 al, .int .i64 ll], b0⟩] clk), .ext 5 (MpA th [⟨.int .i64 num, iv, 0⟩] 1), .ext 9 (X 0)])) :: [.blk 1 bth [.v (.map (some th))] 116, .blk 2 bd [.loc d 3 0] 32]) all_foot Tryz.func100 rfl rfl Tryz.ntmps100 [.v yv, .loc bth 1 0, .loc bd 2 0] rfl rfl ?_
  intro S
  refine Run.unj ?_
  unfold DC
  conv => whnf
  repeat' (first
 | with_reducible ((first | refine r_seq (fun KS hS => ?_) | (refine hS _ _ ?_; clear hS KS) | (refine hA _ ?_; clear hA KA) | (refine hB _ ?_; clear hB KB) | refine r_block ?_))
 | ((with_reducible (first | refine r_region ?_ | refine r_cond (fun KA hA KB hB => ?_) | refine r_ret ?_ | refine r_skip ?_ | refine r_exit ?_ | refine And.intro rfl ?_ | intro b)); conv => whnf)
 | ((with_reducible refine WrapK.i64 ?_ ?_); (focus omega); conv => whnf)
 | (apply in101; rfl; rfl; rfl; intro A; conv => whnf)
 | ((with_reducible refine CallK.at 63 ?_); refine sortedCall142 (show (0 : Nat) < 1 from Nat.zero_lt_one) (Sel.cons (by repeat (first | with_reducible apply Rm.head | apply Rm.tail)) (Sel.cons (by repeat (first | with_reducible apply Rm.head | apply Rm.tail)) Sel.nil)) (fun z => ?_); conv => whnf)
 | ((with_reducible refine OpK.id ?_); (first | refine OpK.idx (k := 1) rfl rfl rfl rfl rfl rfl rfl (Sees.ext (by repeat (first | with_reducible apply At.head | apply At.tail))) (by omega) (by omega) (i1 _) (fun b off hp => ?_) | refine OpK.ldp rfl rfl hp (List.cons_ne_nil _ _) ?_ | refine OpK.lk1 rfl rfl rfl rfl rfl rfl rfl (by repeat (first | with_reducible apply At.head | apply At.tail)) ?_); conv => whnf)
 | ((with_reducible refine CallV.id ?_); refine CallV.weak (H' := .ext 0 (AssL (.ext 100 A0 :: [.blk 3 d [.v (.int .i64 n), .v (.int .i64 gs), .v (.int .i64 tk), .v (.map (some mp))] 81, .ext 4 (MpA mp [⟨.int .i64 num, .agg #[.int .i64 al, .int .i64 ll], b0⟩] clk), .ext 5 (MpA th [⟨.int .i64 num, iv, 0⟩] 1), .ext 9 (X 0)])) :: [.blk 1 bth [.v (.map (some th))] 116, .blk 2 bd [.loc d 3 0] 32]) (HSub.trans ((HSub.join (i := 0)).app2 (A := [_, _, _, _, _]) (HSub.refl _)) (by (try dsimp only [List.cons_append, List.nil_append, den, denL]); refine SelI.spec ?_; (repeat (first | refine SelI.blk (by repeat (first | with_reducible apply Rm.head | apply Rm.tail)) ?_ | refine SelI.ext (by repeat (first | with_reducible apply Rm.head | apply Rm.tail)) ?_ | (refine SelI.blk' (by repeat (first | with_reducible apply Rm.head | apply Rm.tail)) ?_ ?_; focus rfl) | (refine SelI.ext' (by repeat (first | with_reducible apply Rm.head | apply Rm.tail)) ?_ ?_; focus rfl))); exact SelI.nil)) ?_; refine CallV.fr .head (v := .bool true) (y := .ext 0 (AssL (.ext 100 A0 :: HH 1))) (fun w S h1 h2 => hy w S h1 h2) ?_; conv => whnf)
 | with_reducible (first | refine Rounds.step (fun KL hL => ?_) | refine r_rounds 100 ?_)
 | (apply r_quiet; refine mixed; kernel_rfl; kernel_rfl; kernel_rfl; conv => whnf)
 | (refine if_decF (by omega) ?_; conv => whnf)
 | with_reducible apply_assumption -symm -exfalso)
  exact FinK.frL rfl (by (try dsimp only [List.cons_append, List.nil_append, den, denL]); refine SelI.spec ?_; (repeat (first | refine SelI.blk (by repeat (first | with_reducible apply Rm.head | apply Rm.tail)) ?_ | refine SelI.ext (by repeat (first | with_reducible apply Rm.head | apply Rm.tail)) ?_ | (refine SelI.blk' (by repeat (first | with_reducible apply Rm.head | apply Rm.tail)) ?_ ?_; focus rfl) | (refine SelI.ext' (by repeat (first | with_reducible apply Rm.head | apply Rm.tail)) ?_ ?_; focus rfl))); exact SelI.nil)
end Go.Proofs.YtbgnoibellfojaaGreatDoor

namespace Go.Proofs.YtbgnoibellfojaaGreatDoor
open Go Go.X
set_option maxRecDepth 100000
set_option maxHeartbeats 0
theorem effOk119 {s t p : Int} (h : EffOk s t p) (w : World) : Pu Tryz.prog 119 #[.agg #[.int .i64 s, .int .i64 t, .int .i64 p]] w (.int .i64 0) := by
  obtain ⟨h1, h2, h3, h4, h5, h6⟩ := h
  refine enter_sound TBok Tryz.func119 rfl rfl Tryz.ntmps119 [.agg [.v (.int .i64 s), .v (.int .i64 t), .v (.int .i64 p)]] (Kn.start w noS) rfl rfl ?_
  conv => whnf
  repeat' (first
 | with_reducible ((first | refine r_seq (fun KS hS => ?_) | (refine hS _ _ ?_; clear hS KS) | (refine hB _ ?_; clear hB KB)))
 | ((with_reducible (first | refine r_region ?_ | refine r_cond (fun KA hA KB hB => ?_) | refine r_ret ?_ | refine r_skip ?_ | refine And.intro rfl ?_ | intro b)); conv => whnf)
 | (refine if_decF (by omega) ?_; conv => whnf)
 | with_reducible apply_assumption -symm -exfalso)
  exact FinK.pu rfl
theorem itemOk74 {s t p m : Int} {i : Bool} {g : Int} (h : ItemOk s t p m i g) (w : World) : Pu Tryz.prog 74 #[.agg #[.int .i64 s, .int .i64 t, .int .i64 p, .int .i64 m, .bool i, .int .i64 g]] w (.int .i64 0) := by
  obtain ⟨h1, h2, h3⟩ := h
  refine enter_sound TBok Tryz.func74 rfl rfl Tryz.ntmps74 [.agg [.v (.int .i64 s), .v (.int .i64 t), .v (.int .i64 p), .v (.int .i64 m), .v (.bool i), .v (.int .i64 g)]] (Kn.start w noS) rfl rfl ?_
  rcases h3 with ⟨rfl, rfl, h3⟩ | ⟨h3, h4, rfl, rfl, rfl⟩
  · conv => whnf
    repeat' (first
 | with_reducible ((first | refine r_seq (fun KS hS => ?_) | (refine hS _ _ ?_; clear hS KS) | (refine hA _ ?_; clear hA KA) | (refine hB _ ?_; clear hB KB)))
 | ((with_reducible (first | refine r_region ?_ | refine r_cond (fun KA hA KB hB => ?_) | refine r_ret ?_ | refine r_skip ?_ | refine And.intro rfl ?_ | intro b)); conv => whnf)
 | ((with_reducible refine CallK.at 119 ?_); refine CallK.pu (fun w => effOk119 h3 w) ?_; conv => whnf)
 | (refine if_decF (by omega) ?_; conv => whnf)
 | with_reducible apply_assumption -symm -exfalso)
    exact FinK.pu rfl
  · conv => whnf
    repeat' (first
 | with_reducible ((first | refine r_seq (fun KS hS => ?_) | (refine hS _ _ ?_; clear hS KS) | (refine hB _ ?_; clear hB KB)))
 | ((with_reducible (first | refine r_region ?_ | refine r_cond (fun KA hA KB hB => ?_) | refine r_ret ?_ | refine r_skip ?_ | refine And.intro rfl ?_ | intro b)); conv => whnf)
 | ((with_reducible apply OpK.more); (focus refine sok); (conv => whnf); fail_if_success guard_target =ₛ False)
 | (refine if_decF (by omega) ?_; conv => whnf)
 | with_reducible apply_assumption -symm -exfalso)
    exact FinK.pu rfl
theorem numOk38 {s t p m : Int} {i : Bool} {g : Int} (h : ItemOk s t p m i g) (w : World) : Pu Tryz.prog 38 #[.agg #[.int .i64 s, .int .i64 t, .int .i64 p, .int .i64 m, .bool i, .int .i64 g]] w (.tuple #[.int .i64 (itemNum s t p m i g), .int .i64 0]) := by
  have h' := h
  obtain ⟨h1, h2, h3⟩ := h
  refine enter_sound TBok Tryz.func38 rfl rfl Tryz.ntmps38 [.agg [.v (.int .i64 s), .v (.int .i64 t), .v (.int .i64 p), .v (.int .i64 m), .v (.bool i), .v (.int .i64 g)]] (Kn.start w noS) rfl rfl ?_
  rcases h3 with ⟨rfl, rfl, h3⟩ | ⟨h3, h4, rfl, rfl, rfl⟩
  · unfold EffOk at h3
    conv => whnf
    repeat' (first
 | with_reducible ((first | refine r_seq (fun KS hS => ?_) | (refine hS _ _ ?_; clear hS KS) | (refine hA _ ?_; clear hA KA) | (refine hB _ ?_; clear hB KB)))
 | ((with_reducible (first | refine r_region ?_ | refine r_cond (fun KA hA KB hB => ?_) | refine r_ret ?_ | refine r_skip ?_ | refine And.intro rfl ?_ | intro b)); conv => whnf)
 | ((with_reducible refine WrapK.i64 ?_ ?_); (focus omega); conv => whnf)
 | ((with_reducible refine CallK.at 74 ?_); refine CallK.pu (fun w => itemOk74 h' w) ?_; conv => whnf)
 | with_reducible apply_assumption -symm -exfalso)
    refine FinK.pu ?_
    simp only [den, denL, itemNum, if_pos]
    congr 4
    omega
  · have hm : ¬ m = 0 := by omega
    cases i with
    | false =>
      conv => whnf
      repeat' (first
 | with_reducible ((first | refine r_seq (fun KS hS => ?_) | (refine hS _ _ ?_; clear hS KS) | (refine hB _ ?_; clear hB KB)))
 | ((with_reducible (first | refine r_region ?_ | refine r_cond (fun KA hA KB hB => ?_) | refine r_ret ?_ | refine r_skip ?_ | refine And.intro rfl ?_ | intro b)); conv => whnf)
 | ((with_reducible refine WrapK.i64 ?_ ?_); (focus omega); conv => whnf)
 | ((with_reducible refine CallK.at 74 ?_); refine CallK.pu (fun w => itemOk74 h' w) ?_; conv => whnf)
 | (refine if_decF (by omega) ?_; conv => whnf)
 | with_reducible apply_assumption -symm -exfalso)
      refine FinK.pu ?_
      simp only [den, denL, itemNum, if_neg hm]
      congr 3
      simp
      try omega
    | true =>
      conv => whnf
      repeat' (first
 | with_reducible ((first | refine r_seq (fun KS hS => ?_) | (refine hS _ _ ?_; clear hS KS) | (refine hA _ ?_; clear hA KA) | (refine hB _ ?_; clear hB KB)))
 | ((with_reducible (first | refine r_region ?_ | refine r_cond (fun KA hA KB hB => ?_) | refine r_ret ?_ | refine r_skip ?_ | refine And.intro rfl ?_ | intro b)); conv => whnf)
 | ((with_reducible refine WrapK.i64 ?_ ?_); (focus omega); conv => whnf)
 | ((with_reducible refine CallK.at 74 ?_); refine CallK.pu (fun w => itemOk74 h' w) ?_; conv => whnf)
 | (refine if_decF (by omega) ?_; conv => whnf)
 | with_reducible apply_assumption -symm -exfalso)
      refine FinK.pu ?_
      simp only [den, denL, itemNum, if_neg hm]
      congr 3
      simp
      try omega
def CAt (w : World) (b : Nat) : Prop := w.heap[b]? = some (.cells (denL [.v (.int .u8 9)]).toArray 5 (0, 0))
theorem cmdEff72 {s t p g : Int} {w : World} {b : Nat} (hb : CAt w b) (h : EffOk s t p) (hg : 1 ≤ g ∧ g ≤ 7) : Pu Tryz.prog 72 #[.agg #[.int .i64 s, .int .i64 t, .int .i64 p, .int .i64 0, .bool false, .int .i64 g], pv b] w (.tuple #[.agg #[.int .i64 1, .int .i64 0, .int .i64 0, .int .i64 s, .int .i64 t, .int .i64 p, .string ⟨#[107]⟩, .int .i64 (1 + t), .int .i64 0, .string ⟨#[]⟩, .string ⟨#[]⟩, .int .i64 0, .string ⟨#[]⟩, .int .i64 0, .int .i64 0, .slice none 0 0, .int .i64 0, .int .i64 0, .int .i64 0, .int .i64 0, .bool false, .int .i64 0, .int .i64 0, .string ⟨#[]⟩], .bool true]) := by
  have h2 := h
  unfold EffOk at h2
  have hok : ItemOk s t p 0 false g := ⟨hg.1, hg.2, .inl ⟨rfl, rfl, h⟩⟩
  have hnum : 0 ≤ itemNum s t p 0 false g := by unfold itemNum; simp only [if_true]; omega
  have h7 : itemNum s t p 0 false g % 7 < 7 := Int.emod_lt_of_pos _ (by omega)
  have h70 : 0 ≤ itemNum s t p 0 false g % 7 := Int.emod_nonneg _ (by omega)
  refine Pu.ofFrZ (enter_ro TBok (cs := [.v (.int .u8 9)]) hb Tryz.func72 rfl rfl Tryz.ntmps72 [.agg [.v (.int .i64 s), .v (.int .i64 t), .v (.int .i64 p), .v (.int .i64 0), .v (.bool false), .v (.int .i64 g)], .loc b 10 0] rfl rfl ?_)
  conv => whnf
  repeat' (first
 | with_reducible ((first | refine r_seq (fun KS hS => ?_) | (refine hS _ _ ?_; clear hS KS) | (refine hA _ ?_; clear hA KA) | (refine hB _ ?_; clear hB KB)))
 | ((with_reducible (first | refine r_region ?_ | refine r_cond (fun KA hA KB hB => ?_) | refine r_ret ?_ | refine r_skip ?_ | refine And.intro rfl ?_ | intro b)); conv => whnf)
 | ((with_reducible refine WrapK.i64 ?_ ?_); (focus omega); conv => whnf)
 | ((with_reducible refine CallK.at 38 ?_); refine CallK.pu (fun w => numOk38 hok w) ?_; conv => whnf)
 | ((with_reducible refine RemK.id ?_); refine RemK.eq (by omega) (IntWalk.rem_in _ _ hnum) ?_; conv => whnf)
 | (refine if_ndecT (by omega) ?_; conv => whnf)
 | with_reducible apply_assumption -symm -exfalso)
  all_goals exact FinK.ro0 rfl (HSub.pick (by repeat (first | with_reducible apply At.head | apply At.tail)))
end Go.Proofs.YtbgnoibellfojaaGreatDoor

namespace Go.Proofs.YtbgnoibellfojaaGreatDoor
open Go Go.X
set_option maxRecDepth 100000
set_option maxHeartbeats 0
theorem made45 {d : Nat} {n gs tk : Int} {mp : Nat} {w : World} (hd : DAt w d n gs tk mp) : Pu Tryz.prog 45 #[pv d] w (.bool true) := by
  refine Pu.ofFrZ (enter_ro TBok (cs := DC n gs tk mp) hd Tryz.func45 rfl rfl Tryz.ntmps45 [.loc d 10 0] rfl rfl ?_)
  unfold DC
  conv => whnf
  repeat' (first
 | with_reducible ((first | refine r_seq (fun KS hS => ?_) | (refine hS _ _ ?_; clear hS KS)))
 | ((with_reducible (first | refine r_region ?_ | refine r_ret ?_ | refine And.intro rfl ?_)); conv => whnf)
 | ((with_reducible apply OpK.more); (focus refine sok); (conv => whnf); fail_if_success guard_target =ₛ False))
  all_goals exact FinK.ro0 rfl (HSub.pick (by repeat (first | with_reducible apply At.head | apply At.tail)))
theorem BxA.openI {w : World} {S : Nat → Prop} {X Y : List Blk} {ty e k p n j : Nat} {cs : List Value} (i1 i2 : Nat) (h : Holds w (X ++ .ext j (BxA ty e k p n cs) :: Y) S) :
    ∃ (z : Option Addr × Nat) (S' : Nat → Prop), Holds w (X ++ .blk i1 p [.v (.slice z.1 n z.2)] ty :: .ext i2 (SlA e k z.1 n z.2 cs) :: Y) S' ∧ ∀ k, S' k → S k := by
  obtain ⟨z, S', h1, h2⟩ := BxA.open h
  obtain ⟨S'', h3, h4⟩ := (HSub.app2 (HSub.refl X) (HSub.keep (i := i1) rfl (HSub.ext (i := i2) (fun _ _ h => h) (HSub.refl Y)))) w S' h1
  exact ⟨z, S'', h3, fun k hk => h2 k (h4 k hk)⟩
theorem tickFirstEff24 {s t p : Nat} {g num : Nat} {n gs tk me : Int} {d mp bi bn clk : Nat} (h : EffOk s t p) (hg : 1 ≤ g ∧ g ≤ 7) (hn7 : 1 ≤ n ∧ n ≤ 7) (hgs : g < gs) (hme : 0 ≤ me ∧ me < n) (htk : 0 ≤ tk ∧ tk ≤ 999999) (hnum : (num : Int) = itemNum s t p 0 false g)  (w : World) :
    FrZ Tryz.prog 24 #[pv d, .int .i64 me, .slice (some ⟨bi, 0, none⟩) 1 1, .func (.func 72) #[] #[pv bn]] w (AssL [.blk 9 bi [.v (.int .i64 (s : Nat)), .v (.int .i64 (t : Nat)), .v (.int .i64 (p : Nat)), .v (.int .i64 0), .v (.bool false), .v (.int .i64 (g : Nat))] 48, .blk 8 bn [.v (.int .u8 9)] 5, .ext 4 (MpA mp [] clk), .blk 3 d (DC n gs tk mp) 81]) (fun z : Option Addr × Nat => .slice z.1 1 z.2) (fun z => AssL [.ext 70 (SlA 26 9 z.1 1 z.2 [.int .i64 10, .int .i64 me, .int .i64 ((g : Int) * n + 0 % n), .int .i64 0, .int .i64 0, .int .i64 0, .int .i64 (num : Nat), .string ⟨(uvar 1 ++ uvar s ++ uvar t ++ uvar p ++ uvar 1 ++ [107] ++ uvar (zigN (1 + (t : Int)))).toArray⟩, .slice none 0 0]), .blk 9 bi [.v (.int .i64 (s : Nat)), .v (.int .i64 (t : Nat)), .v (.int .i64 (p : Nat)), .v (.int .i64 0), .v (.bool false), .v (.int .i64 (g : Nat))] 48, .blk 8 bn [.v (.int .u8 9)] 5, .ext 4 (MpA mp [⟨.int .i64 num, .agg #[.int .i64 (0 + 1), .int .i64 (tk + 1)], clk⟩] (clk + 1)), .blk 3 d (DC n gs (tk + 1) mp) 81]) := by
  have hk0 : nameOk ⟨#[107]⟩ = true := by decide +kernel
  have h0 := h
  unfold EffOk at h0
  have hn0 : NumOk (1 + (t : Int)) := by unfold NumOk; omega
  have hl0 : (uvar 1 ++ uvar s ++ uvar t ++ uvar p ++ uvar 1 ++ [107] ++ uvar (zigN (1 + (t : Int)))).length ≤ 65536 := by
    have h1 := uvar_len s 1 (by omega); have h2 := uvar_len t 0 (by omega); have h3 := uvar_len p 0 (by omega); have h4 := uvar_len (zigN (1 + (t : Int))) 0 (by unfold zigN; rw [if_pos (by omega)]; omega); have h5 := uvar_len 1 0 (by omega)
    simp only [List.length_append, List.length_cons, List.length_nil]; omega
  have hok : ItemOk s t p 0 false g := okEff h hg hk0 (by decide) (show (1 + (t : Int)) ≠ 0 by unfold EffOk at h; omega) hn0
  refine enter_frZ TBok (H := [.blk 9 bi [.v (.int .i64 (s : Nat)), .v (.int .i64 (t : Nat)), .v (.int .i64 (p : Nat)), .v (.int .i64 0), .v (.bool false), .v (.int .i64 (g : Nat))] 48, .blk 8 bn [.v (.int .u8 9)] 5, .ext 4 (MpA mp [] clk), .blk 3 d (DC n gs tk mp) 81]) all_foot Tryz.func24 rfl rfl Tryz.ntmps24 [.loc d 3 0, .v (.int .i64 me), .slc bi 9 0 1 1, .fn 72 [.loc bn 8 0]] rfl rfl ?_
  intro S _ _
  unfold DC
  conv => whnf
  repeat' (first
 | with_reducible ((first | refine r_seq (fun KS hS => ?_) | (refine hS _ _ ?_; clear hS KS) | (refine hA _ ?_; clear hA KA) | (refine hB _ ?_; clear hB KB) | refine r_block ?_))
 | ((with_reducible (first | refine r_region ?_ | refine r_cond (fun KA hA KB hB => ?_) | refine r_ret ?_ | refine r_skip ?_ | refine r_exit ?_ | refine And.intro rfl ?_ | intro b)); conv => whnf)
 | ((with_reducible refine WrapK.i64 ?_ ?_); (focus omega); conv => whnf)
 | ((with_reducible refine CallK.id ?_); (first | apply in57 | apply in58 | apply in60); rfl; rfl; rfl; intro A; conv => whnf)
 | ((with_reducible refine CallQ.at 45 ?_); refine CallQ.puW (fun ms w hk => made45 (hk.got (by repeat (first | constructor | apply List.Mem.tail)))) ?_; conv => whnf)
 | ((with_reducible refine IK.id ?_); (refine IK.eqV sok rfl rfl rfl ?_); conv => whnf)
 | ((with_reducible refine OpK.id ?_); refine OpK.mkM rfl ?_; conv => whnf)
 | ((with_reducible refine CallK.at 20 ?_); refine CallK.puW (fun ms w hk => target20 (hk.got (by repeat (first | constructor | apply List.Mem.tail))) hok hn7 hgs (by omega)) ?_; conv => whnf)
 | ((with_reducible refine CallK.at 70 ?_); refine CallK.pu (fun w => numOk70 hok w) ?_; rw [← hnum]; conv => whnf)
 | ((with_reducible refine OpK.id ?_); (first | refine OpK.upE rfl rfl rfl rfl rfl rfl rfl rfl (by repeat (first | with_reducible apply At.head | apply At.tail)) ?_ | refine OpK.rngM rfl rfl rfl rfl (by repeat (first | with_reducible apply At.head | apply At.tail)) ?_ | refine OpK.nxE rfl rfl (by repeat (first | with_reducible apply At.head | apply At.tail)) (by repeat (first | with_reducible apply At.head | apply At.tail)) ?_); conv => whnf)
 | ((with_reducible apply OpK.more); (focus refine sok); (conv => whnf); fail_if_success guard_target =ₛ False)
 | with_reducible (first | refine Rounds.step (fun KL hL => ?_) | refine r_rounds 100 ?_)
 | (apply r_quiet; refine mixed; kernel_rfl; kernel_rfl; kernel_rfl; conv => whnf)
 | (refine if_decF (by omega) ?_; conv => whnf)
 | with_reducible apply_assumption -symm -exfalso)
  rename_i b8 b7 b6 _ _ _ _ _ _ _ b5 _ _ _ _ _ _ _ _ _ _ b4 _ _ _ _ _ _ b3 _ _ _ b2 _ _ b1 b0
  let X : Nat → Ass := fun i => AssL (.ext 17 (BxA 66 26 9 b1 i (([.int .i64 10, .int .i64 me, .int .i64 ((g : Int) * n + 0 % n), .int .i64 0, .int .i64 0, .int .i64 0, .int .i64 (num : Nat), .string ⟨(uvar 1 ++ uvar s ++ uvar t ++ uvar p ++ uvar 1 ++ [107] ++ uvar (zigN (1 + (t : Int)))).toArray⟩, .slice none 0 0] : List Value).take (9 * i))) :: [.blk 15 b3 [.v (.map (some b5))] 116, .blk 12 b6 [.fn 72 [.loc bn 8 0]] 64, .blk 11 b7 [.v (.int .i64 me)] 3, .blk 10 b8 [.loc d 3 0] 32, .blk 9 bi [.v (.int .i64 (s : Nat)), .v (.int .i64 (t : Nat)), .v (.int .i64 (p : Nat)), .v (.int .i64 0), .v (.bool false), .v (.int .i64 (g : Nat))] 48, .blk 8 bn [.v (.int .u8 9)] 5])
  let HH : Nat → List Blk := fun i => [.blk 3 d (DC n gs (tk + 1) mp) 81, .ext 4 (if i = 0 then MpA mp [] clk else MpA mp [⟨.int .i64 num, .agg #[.int .i64 (0 + 1), .int .i64 (tk + 1)], clk⟩] (clk + 1)), .ext 5 (MpA b5 [⟨.int .i64 num, .agg #[.int .i64 (s : Nat), .int .i64 (t : Nat), .int .i64 (p : Nat), .int .i64 0, .bool false, .int .i64 (g : Nat)], 0⟩] (0 + 1)), .ext 9 (X i)]
  refine r_rangeFuncH (HH := HH) (xs := [[.v (.int .i64 num), .v (wv 0 0)]]) 100 rfl ?_ (fun A0 yv hyv w => dueFirst100 (al := 0) (ll := 0) (b0 := 0) X HH rfl A0 yv (hyv 0 _ rfl) w) (by simp) (by decide) ?_ ?_
  · show HSub ([.blk 1 b [.v (.map (some b5))] 116, .blk 2 b0 [.loc d 3 0] 32] ++ ([.blk 3 d [.v (.int .i64 n), .v (.int .i64 gs), .v (.int .i64 (tk + 1)), .v (.map (some mp))] 81, .ext 4 (MpA mp [] clk), .ext 5 (MpA b5 [⟨.int .i64 num, .agg #[.int .i64 (s : Nat), .int .i64 (t : Nat), .int .i64 (p : Nat), .int .i64 0, .bool false, .int .i64 (g : Nat)], 0⟩] (0 + 1))] ++ [.ext 9 (X 0)])) _
    refine HSub.trans ((HSub.refl _).app2 ((HSub.refl _).app2 HSub.join)) ?_
    show HSub (([.blk 1 b [.v (.map (some b5))] 116, .blk 2 b0 [.loc d 3 0] 32] ++ [.blk 3 d [.v (.int .i64 n), .v (.int .i64 gs), .v (.int .i64 (tk + 1)), .v (.map (some mp))] 81, .ext 4 (MpA mp [] clk), .ext 5 (MpA b5 [⟨.int .i64 num, .agg #[.int .i64 (s : Nat), .int .i64 (t : Nat), .int .i64 (p : Nat), .int .i64 0, .bool false, .int .i64 (g : Nat)], 0⟩] (0 + 1))]) ++ ([.ext 17 (BxA 66 26 9 b1 0 [])] ++ [.blk 15 b3 [.v (.map (some b5))] 116, .blk 12 b6 [.fn 72 [.loc bn 8 0]] 64, .blk 11 b7 [.v (.int .i64 me)] 3, .blk 10 b8 [.loc d 3 0] 32, .blk 9 bi [.v (.int .i64 (s : Nat)), .v (.int .i64 (t : Nat)), .v (.int .i64 (p : Nat)), .v (.int .i64 0), .v (.bool false), .v (.int .i64 (g : Nat))] 48, .blk 8 bn [.v (.int .u8 9)] 5])) _
    refine HSub.trans ((HSub.refl _).app2 (HSub.app2 (BxA.nil (i1 := 17)) (HSub.refl _))) ?_
    exact (by (try dsimp only [List.cons_append, List.nil_append, den, denL, ti66]); refine SelI.spec ?_; (repeat (first | refine SelI.blk (by repeat (first | with_reducible apply Rm.head | apply Rm.tail)) ?_ | refine SelI.ext (by repeat (first | with_reducible apply Rm.head | apply Rm.tail)) ?_ | (refine SelI.blk' (by repeat (first | with_reducible apply Rm.head | apply Rm.tail)) ?_ ?_; focus rfl) | (refine SelI.ext' (by repeat (first | with_reducible apply Rm.head | apply Rm.tail)) ?_ ?_; focus rfl))); exact SelI.nil)
  · intro i x hx lp rc W' S'
    obtain ⟨rfl, rfl⟩ : i = 0 ∧ [SV.v (.int .i64 num), SV.v (wv 0 0)] = x := by
      cases i with
      | zero => simpa using hx
      | succ i => simp at hx
    refine Run.lax ?_
    show Run _ _ _ (.ext 100 (lrA lp rc) :: [.blk 3 d [.v (.int .i64 n), .v (.int .i64 gs), .v (.int .i64 (tk + 1)), .v (.map (some mp))] 81, .ext 4 (MpA mp [] clk), .ext 5 (MpA b5 [⟨.int .i64 num, .agg #[.int .i64 (s : Nat), .int .i64 (t : Nat), .int .i64 (p : Nat), .int .i64 0, .bool false, .int .i64 (g : Nat)], 0⟩] (0 + 1)), .ext 9 (X 0)]) _
    conv => whnf
    repeat' (first
 | with_reducible ((first | refine r_seq (fun KS hS => ?_) | (refine hS _ _ ?_; clear hS KS)))
 | ((with_reducible (first | refine r_region ?_ | refine And.intro rfl ?_ | intro b)); conv => whnf))
    refine ⟨_, HSub.perm (List.Perm.swap _ _ _), _, rfl, ?_⟩
    refine r_block ?_
    refine Run.hsub (HSub.perm (List.Perm.swap _ _ _)) ?_
    show Run _ _ _ ([.blk 101 b [.v (.int .i64 0), .v (.int .i64 0)] 120, .ext 100 (lrA lp { rc with state := .busy }), .blk 3 d [.v (.int .i64 n), .v (.int .i64 gs), .v (.int .i64 (tk + 1)), .v (.map (some mp))] 81, .ext 4 (MpA mp [] clk), .ext 5 (MpA b5 [⟨.int .i64 num, .agg #[.int .i64 (s : Nat), .int .i64 (t : Nat), .int .i64 (p : Nat), .int .i64 0, .bool false, .int .i64 (g : Nat)], 0⟩] (0 + 1))] ++ [.ext 9 (X 0)]) _
    refine Run.hsub ((HSub.refl _).app2 HSub.unjoin) ?_
    refine Run.open (α := Option Addr × Nat) (A := []) (B := []) (fun z => [.blk 101 b [.v (.int .i64 0), .v (.int .i64 0)] 120, .ext 100 (lrA lp { rc with state := .busy }), .blk 3 d [.v (.int .i64 n), .v (.int .i64 gs), .v (.int .i64 (tk + 1)), .v (.map (some mp))] 81, .ext 4 (MpA mp [] clk), .ext 5 (MpA b5 [⟨.int .i64 num, .agg #[.int .i64 (s : Nat), .int .i64 (t : Nat), .int .i64 (p : Nat), .int .i64 0, .bool false, .int .i64 (g : Nat)], 0⟩] (0 + 1)), .blk 17 b1 [.v (.slice z.1 0 z.2)] 66, .ext 16 (SlA 26 9 z.1 0 z.2 [])] ++ [.blk 15 b3 [.v (.map (some b5))] 116, .blk 12 b6 [.fn 72 [.loc bn 8 0]] 64, .blk 11 b7 [.v (.int .i64 me)] 3, .blk 10 b8 [.loc d 3 0] 32, .blk 9 bi [.v (.int .i64 (s : Nat)), .v (.int .i64 (t : Nat)), .v (.int .i64 (p : Nat)), .v (.int .i64 0), .v (.bool false), .v (.int .i64 (g : Nat))] 48, .blk 8 bn [.v (.int .u8 9)] 5]) (fun w S h => BxA.openI 17 16 (X := [_, _, _, _, _]) (Y := [.blk 15 b3 [.v (.map (some b5))] 116, .blk 12 b6 [.fn 72 [.loc bn 8 0]] 64, .blk 11 b7 [.v (.int .i64 me)] 3, .blk 10 b8 [.loc d 3 0] 32, .blk 9 bi [.v (.int .i64 (s : Nat)), .v (.int .i64 (t : Nat)), .v (.int .i64 (p : Nat)), .v (.int .i64 0), .v (.bool false), .v (.int .i64 (g : Nat))] 48, .blk 8 bn [.v (.int .u8 9)] 5]) h) ?_
    rintro ⟨a, cap⟩
    dsimp only [List.cons_append, List.nil_append]
    repeat' (first
 | with_reducible ((first | refine r_seq (fun KS hS => ?_) | (refine hS _ _ ?_; clear hS KS) | (refine hB _ ?_; clear hB KB)))
 | ((with_reducible (first | refine r_region ?_ | refine r_cond (fun KA hA KB hB => ?_) | refine r_skip ?_ | refine And.intro rfl ?_ | intro b)); conv => whnf)
 | ((with_reducible refine WrapK.i64 ?_ ?_); (focus omega); conv => whnf)
 | ((with_reducible refine QK.id ?_); refine QK.bld rfl ?_; conv => whnf)
 | ((with_reducible refine CallK.at 72 ?_); refine CallK.puW (fun ms w hk => cmdEff72 (hk.got (by repeat (first | constructor | apply List.Mem.tail))) h (by omega)) ?_; conv => whnf)
 | ((with_reducible refine CallK.at 61 ?_); refine CallK.pu (fun w => fitsEff61 h hg hk0 (by decide) (by omega) hn0 w) ?_; conv => whnf)
 | ((with_reducible refine CallK.id ?_); refine CallK.fresh (fun ms w hk => encEff62 h hk0 (by decide) (by omega) hn0 hl0 w) ?_; conv => whnf)
 | ((with_reducible refine CallK.at 20 ?_); refine CallK.puW (fun ms w hk => target20 (hk.got (by repeat (first | constructor | apply List.Mem.tail))) hok hn7 hgs (by omega)) ?_; conv => whnf)
 | ((with_reducible refine OpK.id ?_); (first | refine OpK.lk1 rfl rfl rfl rfl rfl rfl rfl (by repeat (first | with_reducible apply At.head | apply At.tail)) ?_ | refine OpK.cvBS' rfl rfl rfl rfl rfl rfl rfl rfl (Sees.ext (by repeat (first | with_reducible apply At.head | apply At.tail))) rfl ?_ | (refine OpK.app (k := 9) rfl rfl rfl rfl rfl rfl rfl rfl (by repeat (first | with_reducible apply At.head | apply At.tail)) (SrcK.slc rfl rfl (by repeat (first | constructor | apply List.Mem.tail)) (Nat.le_refl _) rfl) (by show (0 + 1) * (_ + 1) ≤ 140737488355328; decide) (fun a' cap' => ?_))); conv => whnf)
 | (apply r_split 13 (id := 16); refine mixed; kernel_rfl; kernel_rfl; kernel_rfl; intro K' hK; conv => whnf)
 | ((with_reducible refine OpK.id ?_); refine OpK.upE rfl rfl rfl rfl rfl rfl rfl rfl (by repeat (first | with_reducible apply At.head | apply At.tail)) ?_; conv => whnf)
 | ((with_reducible ((first | refine AnyAt.mk (fun K' hK => ?_) | (refine hK _ ?_; clear hK K') | (refine hK _ _ ?_; clear hK K')))); conv => whnf)
 | with_reducible apply_assumption -symm -exfalso)
    refine ⟨?_⟩
    show HSub ([.ext 100 (lrA lp { rc with state := .busy }), .blk 3 d [.v (.int .i64 n), .v (.int .i64 gs), .v (.int .i64 (tk + 1)), .v (.map (some mp))] 81, .ext 4 (MpA mp [⟨.int .i64 num, .agg #[.int .i64 (0 + 1), .int .i64 (tk + 1)], clk⟩] (clk + 1)), .ext 5 (MpA b5 [⟨.int .i64 num, .agg #[.int .i64 (s : Nat), .int .i64 (t : Nat), .int .i64 (p : Nat), .int .i64 0, .bool false, .int .i64 (g : Nat)], 0⟩] (0 + 1))] ++ [.ext 9 (X 1)]) _
    refine HSub.trans ((HSub.refl _).app2 HSub.join) ?_
    show HSub ([.ext 100 (lrA lp { rc with state := .busy }), .blk 3 d [.v (.int .i64 n), .v (.int .i64 gs), .v (.int .i64 (tk + 1)), .v (.map (some mp))] 81, .ext 4 (MpA mp [⟨.int .i64 num, .agg #[.int .i64 (0 + 1), .int .i64 (tk + 1)], clk⟩] (clk + 1)), .ext 5 (MpA b5 [⟨.int .i64 num, .agg #[.int .i64 (s : Nat), .int .i64 (t : Nat), .int .i64 (p : Nat), .int .i64 0, .bool false, .int .i64 (g : Nat)], 0⟩] (0 + 1))] ++ ([.ext 17 (BxA 66 26 9 b1 1 [.int .i64 10, .int .i64 me, .int .i64 ((g : Int) * n + 0 % n), .int .i64 0, .int .i64 0, .int .i64 0, .int .i64 (num : Nat), .string ⟨(uvar 1 ++ uvar s ++ uvar t ++ uvar p ++ uvar 1 ++ [107] ++ uvar (zigN (1 + (t : Int)))).toArray⟩, .slice none 0 0])] ++ [.blk 15 b3 [.v (.map (some b5))] 116, .blk 12 b6 [.fn 72 [.loc bn 8 0]] 64, .blk 11 b7 [.v (.int .i64 me)] 3, .blk 10 b8 [.loc d 3 0] 32, .blk 9 bi [.v (.int .i64 (s : Nat)), .v (.int .i64 (t : Nat)), .v (.int .i64 (p : Nat)), .v (.int .i64 0), .v (.bool false), .v (.int .i64 (g : Nat))] 48, .blk 8 bn [.v (.int .u8 9)] 5])) _
    refine HSub.trans ((HSub.refl _).app2 (HSub.app2 (BxA.close (a := a') (cap := cap') (i1 := 17) (i2 := 16)) (HSub.refl _))) ?_
    exact (by (try dsimp only [List.cons_append, List.nil_append, den, denL]); refine SelI.spec ?_; (repeat (first | refine SelI.blk (by repeat (first | with_reducible apply Rm.head | apply Rm.tail)) ?_ | refine SelI.ext (by repeat (first | with_reducible apply Rm.head | apply Rm.tail)) ?_ | (refine SelI.blk' (by repeat (first | with_reducible apply Rm.head | apply Rm.tail)) ?_ ?_; focus rfl) | (refine SelI.ext' (by repeat (first | with_reducible apply Rm.head | apply Rm.tail)) ?_ ?_; focus rfl))); exact SelI.nil)
  · refine hS _ _ ?_
    clear hS KS
    show Run _ _ _ ([.blk 1 b [.v (.map (some b5))] 116, .blk 2 b0 [.loc d 3 0] 32, .blk 3 d [.v (.int .i64 n), .v (.int .i64 gs), .v (.int .i64 (tk + 1)), .v (.map (some mp))] 81, .ext 4 (MpA mp [⟨.int .i64 num, .agg #[.int .i64 (0 + 1), .int .i64 (tk + 1)], clk⟩] (clk + 1)), .ext 5 (MpA b5 [⟨.int .i64 num, .agg #[.int .i64 (s : Nat), .int .i64 (t : Nat), .int .i64 (p : Nat), .int .i64 0, .bool false, .int .i64 (g : Nat)], 0⟩] (0 + 1))] ++ [.ext 9 (X 1)]) _
    refine Run.hsub ((HSub.refl _).app2 HSub.unjoin) ?_
    refine Run.open (α := Option Addr × Nat) (A := []) (B := []) (fun z => [.blk 1 b [.v (.map (some b5))] 116, .blk 2 b0 [.loc d 3 0] 32, .blk 3 d [.v (.int .i64 n), .v (.int .i64 gs), .v (.int .i64 (tk + 1)), .v (.map (some mp))] 81, .ext 4 (MpA mp [⟨.int .i64 num, .agg #[.int .i64 (0 + 1), .int .i64 (tk + 1)], clk⟩] (clk + 1)), .ext 5 (MpA b5 [⟨.int .i64 num, .agg #[.int .i64 (s : Nat), .int .i64 (t : Nat), .int .i64 (p : Nat), .int .i64 0, .bool false, .int .i64 (g : Nat)], 0⟩] (0 + 1)), .blk 17 b1 [.v (.slice z.1 1 z.2)] 66, .ext 16 (SlA 26 9 z.1 1 z.2 [.int .i64 10, .int .i64 me, .int .i64 ((g : Int) * n + 0 % n), .int .i64 0, .int .i64 0, .int .i64 0, .int .i64 (num : Nat), .string ⟨(uvar 1 ++ uvar s ++ uvar t ++ uvar p ++ uvar 1 ++ [107] ++ uvar (zigN (1 + (t : Int)))).toArray⟩, .slice none 0 0])] ++ [.blk 15 b3 [.v (.map (some b5))] 116, .blk 12 b6 [.fn 72 [.loc bn 8 0]] 64, .blk 11 b7 [.v (.int .i64 me)] 3, .blk 10 b8 [.loc d 3 0] 32, .blk 9 bi [.v (.int .i64 (s : Nat)), .v (.int .i64 (t : Nat)), .v (.int .i64 (p : Nat)), .v (.int .i64 0), .v (.bool false), .v (.int .i64 (g : Nat))] 48, .blk 8 bn [.v (.int .u8 9)] 5]) (fun w S h => BxA.openI 17 16 (X := [_, _, _, _, _]) (Y := [.blk 15 b3 [.v (.map (some b5))] 116, .blk 12 b6 [.fn 72 [.loc bn 8 0]] 64, .blk 11 b7 [.v (.int .i64 me)] 3, .blk 10 b8 [.loc d 3 0] 32, .blk 9 bi [.v (.int .i64 (s : Nat)), .v (.int .i64 (t : Nat)), .v (.int .i64 (p : Nat)), .v (.int .i64 0), .v (.bool false), .v (.int .i64 (g : Nat))] 48, .blk 8 bn [.v (.int .u8 9)] 5]) h) ?_
    rintro ⟨a, cap⟩
    dsimp only [List.cons_append, List.nil_append]
    repeat' (first
 | with_reducible ((first | refine r_seq (fun KS hS => ?_) | (refine hS _ _ ?_; clear hS KS)))
 | ((with_reducible (first | refine r_region ?_ | refine r_ret ?_ | refine And.intro rfl ?_)); conv => whnf))
    exact FinK.frZL (a, cap) rfl (by (try dsimp only [List.cons_append, List.nil_append, den, denL]); refine SelI.spec ?_; (repeat (first | refine SelI.blk (by repeat (first | with_reducible apply Rm.head | apply Rm.tail)) ?_ | refine SelI.ext (by repeat (first | with_reducible apply Rm.head | apply Rm.tail)) ?_ | (refine SelI.blk' (by repeat (first | with_reducible apply Rm.head | apply Rm.tail)) ?_ ?_; focus rfl) | (refine SelI.ext' (by repeat (first | with_reducible apply Rm.head | apply Rm.tail)) ?_ ?_; focus rfl))); exact SelI.nil)
theorem tickNotEff24 {s t p : Nat} {g num : Nat} {n gs tk me al ll : Int} {d mp bi bn clk bo : Nat} (h : EffOk s t p) (hg : 1 ≤ g ∧ g ≤ 7) (hn7 : 1 ≤ n ∧ n ≤ 7) (hgs : g < gs) (hme : 0 ≤ me ∧ me < n) (htk : 0 ≤ tk ∧ tk ≤ 999999) (hnum : (num : Int) = itemNum s t p 0 false g) (hw : tk + 1 - ll < 4) (hr : -1000 ≤ tk + 1 - ll) (hbc : bo < clk) (w : World) :
    FrZ Tryz.prog 24 #[pv d, .int .i64 me, .slice (some ⟨bi, 0, none⟩) 1 1, .func (.func 72) #[] #[pv bn]] w (AssL [.blk 9 bi [.v (.int .i64 (s : Nat)), .v (.int .i64 (t : Nat)), .v (.int .i64 (p : Nat)), .v (.int .i64 0), .v (.bool false), .v (.int .i64 (g : Nat))] 48, .blk 8 bn [.v (.int .u8 9)] 5, .ext 4 (MpA mp [⟨.int .i64 num, .agg #[.int .i64 al, .int .i64 ll], bo⟩] clk), .blk 3 d (DC n gs tk mp) 81]) (fun z : Option Addr × Nat => .slice z.1 0 z.2) (fun z => AssL [.ext 70 (SlA 26 9 z.1 0 z.2 []), .blk 9 bi [.v (.int .i64 (s : Nat)), .v (.int .i64 (t : Nat)), .v (.int .i64 (p : Nat)), .v (.int .i64 0), .v (.bool false), .v (.int .i64 (g : Nat))] 48, .blk 8 bn [.v (.int .u8 9)] 5, .ext 4 (MpA mp [⟨.int .i64 num, .agg #[.int .i64 al, .int .i64 ll], bo⟩] clk), .blk 3 d (DC n gs (tk + 1) mp) 81]) := by
  have hk0 : nameOk ⟨#[107]⟩ = true := by decide +kernel
  have h0 := h
  unfold EffOk at h0
  have hn0 : NumOk (1 + (t : Int)) := by unfold NumOk; omega
  have hl0 : (uvar 1 ++ uvar s ++ uvar t ++ uvar p ++ uvar 1 ++ [107] ++ uvar (zigN (1 + (t : Int)))).length ≤ 65536 := by
    have h1 := uvar_len s 1 (by omega); have h2 := uvar_len t 0 (by omega); have h3 := uvar_len p 0 (by omega); have h4 := uvar_len (zigN (1 + (t : Int))) 0 (by unfold zigN; rw [if_pos (by omega)]; omega); have h5 := uvar_len 1 0 (by omega)
    simp only [List.length_append, List.length_cons, List.length_nil]; omega
  have hok : ItemOk s t p 0 false g := okEff h hg hk0 (by decide) (show (1 + (t : Int)) ≠ 0 by unfold EffOk at h; omega) hn0
  refine enter_frZ TBok (H := [.blk 9 bi [.v (.int .i64 (s : Nat)), .v (.int .i64 (t : Nat)), .v (.int .i64 (p : Nat)), .v (.int .i64 0), .v (.bool false), .v (.int .i64 (g : Nat))] 48, .blk 8 bn [.v (.int .u8 9)] 5, .ext 4 (MpA mp [⟨.int .i64 num, .agg #[.int .i64 al, .int .i64 ll], bo⟩] clk), .blk 3 d (DC n gs tk mp) 81]) all_foot Tryz.func24 rfl rfl Tryz.ntmps24 [.loc d 3 0, .v (.int .i64 me), .slc bi 9 0 1 1, .fn 72 [.loc bn 8 0]] rfl rfl ?_
  intro S _ _
  unfold DC
  conv => whnf
  repeat' (first
 | with_reducible ((first | refine r_seq (fun KS hS => ?_) | (refine hS _ _ ?_; clear hS KS) | (refine hA _ ?_; clear hA KA) | (refine hB _ ?_; clear hB KB) | refine r_block ?_))
 | ((with_reducible (first | refine r_region ?_ | refine r_cond (fun KA hA KB hB => ?_) | refine r_ret ?_ | refine r_skip ?_ | refine r_exit ?_ | refine And.intro rfl ?_ | intro b)); conv => whnf)
 | ((with_reducible refine WrapK.i64 ?_ ?_); (focus omega); conv => whnf)
 | ((with_reducible refine CallK.id ?_); (first | apply in57 | apply in58 | apply in59 | apply in60); rfl; rfl; rfl; intro A; conv => whnf)
 | ((with_reducible refine CallQ.at 45 ?_); refine CallQ.puW (fun ms w hk => made45 (hk.got (by repeat (first | constructor | apply List.Mem.tail)))) ?_; conv => whnf)
 | ((with_reducible refine IK.id ?_); (refine IK.eqV sok rfl rfl rfl ?_); conv => whnf)
 | ((with_reducible refine OpK.id ?_); refine OpK.mkM rfl ?_; conv => whnf)
 | ((with_reducible refine CallK.at 20 ?_); refine CallK.puW (fun ms w hk => target20 (hk.got (by repeat (first | constructor | apply List.Mem.tail))) hok hn7 hgs (by omega)) ?_; conv => whnf)
 | ((with_reducible refine CallK.at 70 ?_); refine CallK.pu (fun w => numOk70 hok w) ?_; rw [← hnum]; conv => whnf)
 | ((with_reducible refine OpK.id ?_); (first | refine OpK.upE rfl rfl rfl rfl rfl rfl rfl rfl (by repeat (first | with_reducible apply At.head | apply At.tail)) ?_ | refine OpK.rngM rfl rfl rfl rfl (by repeat (first | with_reducible apply At.head | apply At.tail)) ?_); conv => whnf)
 | ((with_reducible refine OpK.id ?_); (first | refine OpK.nx1 rfl rfl (by repeat (first | with_reducible apply At.head | apply At.tail)) (by repeat (first | with_reducible apply At.head | apply At.tail)) hbc ?_ | refine OpK.nxD rfl rfl (by repeat (first | with_reducible apply At.head | apply At.tail)) (by repeat (first | with_reducible apply At.head | apply At.tail)) hbc ?_ | refine OpK.ent1 rfl rfl (by repeat (first | with_reducible apply At.head | apply At.tail)) (by repeat (first | with_reducible apply At.head | apply At.tail)) ?_ | refine OpK.lk1 rfl rfl rfl rfl rfl rfl rfl (by repeat (first | with_reducible apply At.head | apply At.tail)) ?_); conv => whnf)
 | ((with_reducible apply OpK.more); (focus refine sok); (conv => whnf); fail_if_success guard_target =ₛ False)
 | with_reducible (first | refine Rounds.step (fun KL hL => ?_) | refine r_rounds 100 ?_)
 | (apply r_quiet; refine mixed; kernel_rfl; kernel_rfl; kernel_rfl; conv => whnf)
 | (refine if_decF (by omega) ?_; conv => whnf)
 | with_reducible apply_assumption -symm -exfalso)
  rename_i b8 b7 b6 _ _ _ _ _ _ _ b5 _ _ _ _ _ _ _ _ _ _ _ _ _ _ _ _ _ _ _ b3 _ _ _ _ _ _ _ _ _ _ _ _ _ _ _ _ b1 b0
  let X : Nat → Ass := fun i => AssL (.ext 20 (BxA 66 26 9 b1 i (([] : List Value).take (9 * i))) :: [.blk 15 b3 [.v (.map (some b5))] 116, .blk 12 b6 [.fn 72 [.loc bn 8 0]] 64, .blk 11 b7 [.v (.int .i64 me)] 3, .blk 10 b8 [.loc d 3 0] 32, .blk 9 bi [.v (.int .i64 (s : Nat)), .v (.int .i64 (t : Nat)), .v (.int .i64 (p : Nat)), .v (.int .i64 0), .v (.bool false), .v (.int .i64 (g : Nat))] 48, .blk 8 bn [.v (.int .u8 9)] 5])
  let HH : Nat → List Blk := fun i => [.blk 3 d (DC n gs (tk + 1) mp) 81, .ext 4 (if i = 0 then MpA mp [⟨.int .i64 num, .agg #[.int .i64 al, .int .i64 ll], bo⟩] clk else MpA mp [⟨.int .i64 num, .agg #[.int .i64 al, .int .i64 ll], bo⟩] clk), .ext 5 (MpA b5 [⟨.int .i64 num, .agg #[.int .i64 (s : Nat), .int .i64 (t : Nat), .int .i64 (p : Nat), .int .i64 0, .bool false, .int .i64 (g : Nat)], 0⟩] (0 + 1)), .ext 9 (X i)]
  refine r_rangeFuncH (HH := HH) (xs := []) 100 rfl ?_ (fun A0 yv hyv w => dueNot100 (by omega) (by omega) (by omega) X HH rfl A0 yv w) (by simp) (by decide) ?_ ?_
  · show HSub ([.blk 1 b [.v (.map (some b5))] 116, .blk 2 b0 [.loc d 3 0] 32] ++ ([.blk 3 d [.v (.int .i64 n), .v (.int .i64 gs), .v (.int .i64 (tk + 1)), .v (.map (some mp))] 81, .ext 4 (MpA mp [⟨.int .i64 num, .agg #[.int .i64 al, .int .i64 ll], bo⟩] clk), .ext 5 (MpA b5 [⟨.int .i64 num, .agg #[.int .i64 (s : Nat), .int .i64 (t : Nat), .int .i64 (p : Nat), .int .i64 0, .bool false, .int .i64 (g : Nat)], 0⟩] (0 + 1))] ++ [.ext 9 (X 0)])) _
    refine HSub.trans ((HSub.refl _).app2 ((HSub.refl _).app2 HSub.join)) ?_
    show HSub (([.blk 1 b [.v (.map (some b5))] 116, .blk 2 b0 [.loc d 3 0] 32] ++ [.blk 3 d [.v (.int .i64 n), .v (.int .i64 gs), .v (.int .i64 (tk + 1)), .v (.map (some mp))] 81, .ext 4 (MpA mp [⟨.int .i64 num, .agg #[.int .i64 al, .int .i64 ll], bo⟩] clk), .ext 5 (MpA b5 [⟨.int .i64 num, .agg #[.int .i64 (s : Nat), .int .i64 (t : Nat), .int .i64 (p : Nat), .int .i64 0, .bool false, .int .i64 (g : Nat)], 0⟩] (0 + 1))]) ++ ([.ext 20 (BxA 66 26 9 b1 0 [])] ++ [.blk 15 b3 [.v (.map (some b5))] 116, .blk 12 b6 [.fn 72 [.loc bn 8 0]] 64, .blk 11 b7 [.v (.int .i64 me)] 3, .blk 10 b8 [.loc d 3 0] 32, .blk 9 bi [.v (.int .i64 (s : Nat)), .v (.int .i64 (t : Nat)), .v (.int .i64 (p : Nat)), .v (.int .i64 0), .v (.bool false), .v (.int .i64 (g : Nat))] 48, .blk 8 bn [.v (.int .u8 9)] 5])) _
    refine HSub.trans ((HSub.refl _).app2 (HSub.app2 (BxA.nil (i1 := 20)) (HSub.refl _))) ?_
    exact (by (try dsimp only [List.cons_append, List.nil_append, den, denL, ti66]); refine SelI.spec ?_; (repeat (first | refine SelI.blk (by repeat (first | with_reducible apply Rm.head | apply Rm.tail)) ?_ | refine SelI.ext (by repeat (first | with_reducible apply Rm.head | apply Rm.tail)) ?_ | (refine SelI.blk' (by repeat (first | with_reducible apply Rm.head | apply Rm.tail)) ?_ ?_; focus rfl) | (refine SelI.ext' (by repeat (first | with_reducible apply Rm.head | apply Rm.tail)) ?_ ?_; focus rfl))); exact SelI.nil)
  · intro i x hx
    simp at hx
  · refine hS _ _ ?_
    clear hS KS
    show Run _ _ _ ([.blk 1 b [.v (.map (some b5))] 116, .blk 2 b0 [.loc d 3 0] 32, .blk 3 d [.v (.int .i64 n), .v (.int .i64 gs), .v (.int .i64 (tk + 1)), .v (.map (some mp))] 81, .ext 4 (MpA mp [⟨.int .i64 num, .agg #[.int .i64 al, .int .i64 ll], bo⟩] clk), .ext 5 (MpA b5 [⟨.int .i64 num, .agg #[.int .i64 (s : Nat), .int .i64 (t : Nat), .int .i64 (p : Nat), .int .i64 0, .bool false, .int .i64 (g : Nat)], 0⟩] (0 + 1))] ++ [.ext 9 (X 0)]) _
    refine Run.hsub ((HSub.refl _).app2 HSub.unjoin) ?_
    refine Run.open (α := Option Addr × Nat) (A := []) (B := []) (fun z => [.blk 1 b [.v (.map (some b5))] 116, .blk 2 b0 [.loc d 3 0] 32, .blk 3 d [.v (.int .i64 n), .v (.int .i64 gs), .v (.int .i64 (tk + 1)), .v (.map (some mp))] 81, .ext 4 (MpA mp [⟨.int .i64 num, .agg #[.int .i64 al, .int .i64 ll], bo⟩] clk), .ext 5 (MpA b5 [⟨.int .i64 num, .agg #[.int .i64 (s : Nat), .int .i64 (t : Nat), .int .i64 (p : Nat), .int .i64 0, .bool false, .int .i64 (g : Nat)], 0⟩] (0 + 1)), .blk 20 b1 [.v (.slice z.1 0 z.2)] 66, .ext 16 (SlA 26 9 z.1 0 z.2 [])] ++ [.blk 15 b3 [.v (.map (some b5))] 116, .blk 12 b6 [.fn 72 [.loc bn 8 0]] 64, .blk 11 b7 [.v (.int .i64 me)] 3, .blk 10 b8 [.loc d 3 0] 32, .blk 9 bi [.v (.int .i64 (s : Nat)), .v (.int .i64 (t : Nat)), .v (.int .i64 (p : Nat)), .v (.int .i64 0), .v (.bool false), .v (.int .i64 (g : Nat))] 48, .blk 8 bn [.v (.int .u8 9)] 5]) (fun w S h => BxA.openI 20 16 (X := [_, _, _, _, _]) (Y := [.blk 15 b3 [.v (.map (some b5))] 116, .blk 12 b6 [.fn 72 [.loc bn 8 0]] 64, .blk 11 b7 [.v (.int .i64 me)] 3, .blk 10 b8 [.loc d 3 0] 32, .blk 9 bi [.v (.int .i64 (s : Nat)), .v (.int .i64 (t : Nat)), .v (.int .i64 (p : Nat)), .v (.int .i64 0), .v (.bool false), .v (.int .i64 (g : Nat))] 48, .blk 8 bn [.v (.int .u8 9)] 5]) h) ?_
    rintro ⟨a, cap⟩
    dsimp only [List.cons_append, List.nil_append]
    repeat' (first
 | with_reducible ((first | refine r_seq (fun KS hS => ?_) | (refine hS _ _ ?_; clear hS KS)))
 | ((with_reducible (first | refine r_region ?_ | refine r_ret ?_ | refine And.intro rfl ?_)); conv => whnf))
    exact FinK.frZL (a, cap) rfl (by (try dsimp only [List.cons_append, List.nil_append, den, denL]); refine SelI.spec ?_; (repeat (first | refine SelI.blk (by repeat (first | with_reducible apply Rm.head | apply Rm.tail)) ?_ | refine SelI.ext (by repeat (first | with_reducible apply Rm.head | apply Rm.tail)) ?_ | (refine SelI.blk' (by repeat (first | with_reducible apply Rm.head | apply Rm.tail)) ?_ ?_; focus rfl) | (refine SelI.ext' (by repeat (first | with_reducible apply Rm.head | apply Rm.tail)) ?_ ?_; focus rfl))); exact SelI.nil)
theorem tickAgainEff24 {s t p : Nat} {g num : Nat} {n gs tk me al ll : Int} {d mp bi bn clk bo : Nat} (h : EffOk s t p) (hg : 1 ≤ g ∧ g ≤ 7) (hn7 : 1 ≤ n ∧ n ≤ 7) (hgs : g < gs) (hme : 0 ≤ me ∧ me < n) (htk : 0 ≤ tk ∧ tk ≤ 999999) (hnum : (num : Int) = itemNum s t p 0 false g) (hw : 4 ≤ tk + 1 - ll) (hr : -1000 ≤ ll) (hbc : bo < clk) (hal : 0 ≤ al ∧ al ≤ 1000000) (w : World) :
    FrZ Tryz.prog 24 #[pv d, .int .i64 me, .slice (some ⟨bi, 0, none⟩) 1 1, .func (.func 72) #[] #[pv bn]] w (AssL [.blk 9 bi [.v (.int .i64 (s : Nat)), .v (.int .i64 (t : Nat)), .v (.int .i64 (p : Nat)), .v (.int .i64 0), .v (.bool false), .v (.int .i64 (g : Nat))] 48, .blk 8 bn [.v (.int .u8 9)] 5, .ext 4 (MpA mp [⟨.int .i64 num, .agg #[.int .i64 al, .int .i64 ll], bo⟩] clk), .blk 3 d (DC n gs tk mp) 81]) (fun z : Option Addr × Nat => .slice z.1 1 z.2) (fun z => AssL [.ext 70 (SlA 26 9 z.1 1 z.2 [.int .i64 10, .int .i64 me, .int .i64 ((g : Int) * n + al % n), .int .i64 0, .int .i64 0, .int .i64 0, .int .i64 (num : Nat), .string ⟨(uvar 1 ++ uvar s ++ uvar t ++ uvar p ++ uvar 1 ++ [107] ++ uvar (zigN (1 + (t : Int)))).toArray⟩, .slice none 0 0]), .blk 9 bi [.v (.int .i64 (s : Nat)), .v (.int .i64 (t : Nat)), .v (.int .i64 (p : Nat)), .v (.int .i64 0), .v (.bool false), .v (.int .i64 (g : Nat))] 48, .blk 8 bn [.v (.int .u8 9)] 5, .ext 4 (MpA mp [⟨.int .i64 num, .agg #[.int .i64 (al + 1), .int .i64 (tk + 1)], bo⟩] clk), .blk 3 d (DC n gs (tk + 1) mp) 81]) := by
  have hk0 : nameOk ⟨#[107]⟩ = true := by decide +kernel
  have h0 := h
  unfold EffOk at h0
  have hn0 : NumOk (1 + (t : Int)) := by unfold NumOk; omega
  have hl0 : (uvar 1 ++ uvar s ++ uvar t ++ uvar p ++ uvar 1 ++ [107] ++ uvar (zigN (1 + (t : Int)))).length ≤ 65536 := by
    have h1 := uvar_len s 1 (by omega); have h2 := uvar_len t 0 (by omega); have h3 := uvar_len p 0 (by omega); have h4 := uvar_len (zigN (1 + (t : Int))) 0 (by unfold zigN; rw [if_pos (by omega)]; omega); have h5 := uvar_len 1 0 (by omega)
    simp only [List.length_append, List.length_cons, List.length_nil]; omega
  have hok : ItemOk s t p 0 false g := okEff h hg hk0 (by decide) (show (1 + (t : Int)) ≠ 0 by unfold EffOk at h; omega) hn0
  refine enter_frZ TBok (H := [.blk 9 bi [.v (.int .i64 (s : Nat)), .v (.int .i64 (t : Nat)), .v (.int .i64 (p : Nat)), .v (.int .i64 0), .v (.bool false), .v (.int .i64 (g : Nat))] 48, .blk 8 bn [.v (.int .u8 9)] 5, .ext 4 (MpA mp [⟨.int .i64 num, .agg #[.int .i64 al, .int .i64 ll], bo⟩] clk), .blk 3 d (DC n gs tk mp) 81]) all_foot Tryz.func24 rfl rfl Tryz.ntmps24 [.loc d 3 0, .v (.int .i64 me), .slc bi 9 0 1 1, .fn 72 [.loc bn 8 0]] rfl rfl ?_
  intro S _ _
  unfold DC
  conv => whnf
  repeat' (first
 | with_reducible ((first | refine r_seq (fun KS hS => ?_) | (refine hS _ _ ?_; clear hS KS) | (refine hA _ ?_; clear hA KA) | (refine hB _ ?_; clear hB KB) | refine r_block ?_))
 | ((with_reducible (first | refine r_region ?_ | refine r_cond (fun KA hA KB hB => ?_) | refine r_ret ?_ | refine r_skip ?_ | refine r_exit ?_ | refine And.intro rfl ?_ | intro b)); conv => whnf)
 | ((with_reducible refine WrapK.i64 ?_ ?_); (focus omega); conv => whnf)
 | ((with_reducible refine CallK.id ?_); (first | apply in57 | apply in58 | apply in59 | apply in60); rfl; rfl; rfl; intro A; conv => whnf)
 | ((with_reducible refine CallQ.at 45 ?_); refine CallQ.puW (fun ms w hk => made45 (hk.got (by repeat (first | constructor | apply List.Mem.tail)))) ?_; conv => whnf)
 | ((with_reducible refine IK.id ?_); (refine IK.eqV sok rfl rfl rfl ?_); conv => whnf)
 | ((with_reducible refine OpK.id ?_); refine OpK.mkM rfl ?_; conv => whnf)
 | ((with_reducible refine CallK.at 20 ?_); refine CallK.puW (fun ms w hk => target20 (hk.got (by repeat (first | constructor | apply List.Mem.tail))) hok hn7 hgs (by omega)) ?_; conv => whnf)
 | ((with_reducible refine CallK.at 70 ?_); refine CallK.pu (fun w => numOk70 hok w) ?_; rw [← hnum]; conv => whnf)
 | ((with_reducible refine OpK.id ?_); (first | refine OpK.upE rfl rfl rfl rfl rfl rfl rfl rfl (by repeat (first | with_reducible apply At.head | apply At.tail)) ?_ | refine OpK.rngM rfl rfl rfl rfl (by repeat (first | with_reducible apply At.head | apply At.tail)) ?_); conv => whnf)
 | ((with_reducible refine OpK.id ?_); (first | refine OpK.nx1 rfl rfl (by repeat (first | with_reducible apply At.head | apply At.tail)) (by repeat (first | with_reducible apply At.head | apply At.tail)) hbc ?_ | refine OpK.nxD rfl rfl (by repeat (first | with_reducible apply At.head | apply At.tail)) (by repeat (first | with_reducible apply At.head | apply At.tail)) hbc ?_ | refine OpK.ent1 rfl rfl (by repeat (first | with_reducible apply At.head | apply At.tail)) (by repeat (first | with_reducible apply At.head | apply At.tail)) ?_ | refine OpK.lk1 rfl rfl rfl rfl rfl rfl rfl (by repeat (first | with_reducible apply At.head | apply At.tail)) ?_); conv => whnf)
 | ((with_reducible apply OpK.more); (focus refine sok); (conv => whnf); fail_if_success guard_target =ₛ False)
 | with_reducible (first | refine Rounds.step (fun KL hL => ?_) | refine r_rounds 100 ?_)
 | (apply r_quiet; refine mixed; kernel_rfl; kernel_rfl; kernel_rfl; conv => whnf)
 | (refine if_decF (by omega) ?_; conv => whnf)
 | with_reducible apply_assumption -symm -exfalso)
  rename_i b8 b7 b6 _ _ _ _ _ _ _ b5 _ _ _ _ _ _ _ _ _ _ _ _ _ _ _ _ _ _ _ b3 _ _ _ _ _ _ _ _ _ _ _ _ _ _ _ _ b1 b0
  let X : Nat → Ass := fun i => AssL (.ext 20 (BxA 66 26 9 b1 i (([.int .i64 10, .int .i64 me, .int .i64 ((g : Int) * n + al % n), .int .i64 0, .int .i64 0, .int .i64 0, .int .i64 (num : Nat), .string ⟨(uvar 1 ++ uvar s ++ uvar t ++ uvar p ++ uvar 1 ++ [107] ++ uvar (zigN (1 + (t : Int)))).toArray⟩, .slice none 0 0] : List Value).take (9 * i))) :: [.blk 15 b3 [.v (.map (some b5))] 116, .blk 12 b6 [.fn 72 [.loc bn 8 0]] 64, .blk 11 b7 [.v (.int .i64 me)] 3, .blk 10 b8 [.loc d 3 0] 32, .blk 9 bi [.v (.int .i64 (s : Nat)), .v (.int .i64 (t : Nat)), .v (.int .i64 (p : Nat)), .v (.int .i64 0), .v (.bool false), .v (.int .i64 (g : Nat))] 48, .blk 8 bn [.v (.int .u8 9)] 5])
  let HH : Nat → List Blk := fun i => [.blk 3 d (DC n gs (tk + 1) mp) 81, .ext 4 (if i = 0 then MpA mp [⟨.int .i64 num, .agg #[.int .i64 al, .int .i64 ll], bo⟩] clk else MpA mp [⟨.int .i64 num, .agg #[.int .i64 (al + 1), .int .i64 (tk + 1)], bo⟩] clk), .ext 5 (MpA b5 [⟨.int .i64 num, .agg #[.int .i64 (s : Nat), .int .i64 (t : Nat), .int .i64 (p : Nat), .int .i64 0, .bool false, .int .i64 (g : Nat)], 0⟩] (0 + 1)), .ext 9 (X i)]
  refine r_rangeFuncH (HH := HH) (xs := [[.v (.int .i64 num), .v (.agg #[.int .i64 al, .int .i64 ll])]]) 100 rfl ?_ (fun A0 yv hyv w => dueAgain100 (by omega) hr (by omega) X HH rfl A0 yv (hyv 0 _ rfl) w) (by simp) (by decide) ?_ ?_
  · show HSub ([.blk 1 b [.v (.map (some b5))] 116, .blk 2 b0 [.loc d 3 0] 32] ++ ([.blk 3 d [.v (.int .i64 n), .v (.int .i64 gs), .v (.int .i64 (tk + 1)), .v (.map (some mp))] 81, .ext 4 (MpA mp [⟨.int .i64 num, .agg #[.int .i64 al, .int .i64 ll], bo⟩] clk), .ext 5 (MpA b5 [⟨.int .i64 num, .agg #[.int .i64 (s : Nat), .int .i64 (t : Nat), .int .i64 (p : Nat), .int .i64 0, .bool false, .int .i64 (g : Nat)], 0⟩] (0 + 1))] ++ [.ext 9 (X 0)])) _
    refine HSub.trans ((HSub.refl _).app2 ((HSub.refl _).app2 HSub.join)) ?_
    show HSub (([.blk 1 b [.v (.map (some b5))] 116, .blk 2 b0 [.loc d 3 0] 32] ++ [.blk 3 d [.v (.int .i64 n), .v (.int .i64 gs), .v (.int .i64 (tk + 1)), .v (.map (some mp))] 81, .ext 4 (MpA mp [⟨.int .i64 num, .agg #[.int .i64 al, .int .i64 ll], bo⟩] clk), .ext 5 (MpA b5 [⟨.int .i64 num, .agg #[.int .i64 (s : Nat), .int .i64 (t : Nat), .int .i64 (p : Nat), .int .i64 0, .bool false, .int .i64 (g : Nat)], 0⟩] (0 + 1))]) ++ ([.ext 20 (BxA 66 26 9 b1 0 [])] ++ [.blk 15 b3 [.v (.map (some b5))] 116, .blk 12 b6 [.fn 72 [.loc bn 8 0]] 64, .blk 11 b7 [.v (.int .i64 me)] 3, .blk 10 b8 [.loc d 3 0] 32, .blk 9 bi [.v (.int .i64 (s : Nat)), .v (.int .i64 (t : Nat)), .v (.int .i64 (p : Nat)), .v (.int .i64 0), .v (.bool false), .v (.int .i64 (g : Nat))] 48, .blk 8 bn [.v (.int .u8 9)] 5])) _
    refine HSub.trans ((HSub.refl _).app2 (HSub.app2 (BxA.nil (i1 := 20)) (HSub.refl _))) ?_
    exact (by (try dsimp only [List.cons_append, List.nil_append, den, denL, ti66]); refine SelI.spec ?_; (repeat (first | refine SelI.blk (by repeat (first | with_reducible apply Rm.head | apply Rm.tail)) ?_ | refine SelI.ext (by repeat (first | with_reducible apply Rm.head | apply Rm.tail)) ?_ | (refine SelI.blk' (by repeat (first | with_reducible apply Rm.head | apply Rm.tail)) ?_ ?_; focus rfl) | (refine SelI.ext' (by repeat (first | with_reducible apply Rm.head | apply Rm.tail)) ?_ ?_; focus rfl))); exact SelI.nil)
  · intro i x hx lp rc W' S'
    obtain ⟨rfl, rfl⟩ : i = 0 ∧ [SV.v (.int .i64 num), SV.v (.agg #[.int .i64 al, .int .i64 ll])] = x := by
      cases i with
      | zero => simpa using hx
      | succ i => simp at hx
    refine Run.lax ?_
    show Run _ _ _ (.ext 100 (lrA lp rc) :: [.blk 3 d [.v (.int .i64 n), .v (.int .i64 gs), .v (.int .i64 (tk + 1)), .v (.map (some mp))] 81, .ext 4 (MpA mp [⟨.int .i64 num, .agg #[.int .i64 al, .int .i64 ll], bo⟩] clk), .ext 5 (MpA b5 [⟨.int .i64 num, .agg #[.int .i64 (s : Nat), .int .i64 (t : Nat), .int .i64 (p : Nat), .int .i64 0, .bool false, .int .i64 (g : Nat)], 0⟩] (0 + 1)), .ext 9 (X 0)]) _
    conv => whnf
    repeat' (first
 | with_reducible ((first | refine r_seq (fun KS hS => ?_) | (refine hS _ _ ?_; clear hS KS)))
 | ((with_reducible (first | refine r_region ?_ | refine And.intro rfl ?_ | intro b)); conv => whnf))
    refine ⟨_, HSub.perm (List.Perm.swap _ _ _), _, rfl, ?_⟩
    refine r_block ?_
    refine Run.hsub (HSub.perm (List.Perm.swap _ _ _)) ?_
    show Run _ _ _ ([.blk 101 b [.v (.int .i64 al), .v (.int .i64 ll)] 120, .ext 100 (lrA lp { rc with state := .busy }), .blk 3 d [.v (.int .i64 n), .v (.int .i64 gs), .v (.int .i64 (tk + 1)), .v (.map (some mp))] 81, .ext 4 (MpA mp [⟨.int .i64 num, .agg #[.int .i64 al, .int .i64 ll], bo⟩] clk), .ext 5 (MpA b5 [⟨.int .i64 num, .agg #[.int .i64 (s : Nat), .int .i64 (t : Nat), .int .i64 (p : Nat), .int .i64 0, .bool false, .int .i64 (g : Nat)], 0⟩] (0 + 1))] ++ [.ext 9 (X 0)]) _
    refine Run.hsub ((HSub.refl _).app2 HSub.unjoin) ?_
    refine Run.open (α := Option Addr × Nat) (A := []) (B := []) (fun z => [.blk 101 b [.v (.int .i64 al), .v (.int .i64 ll)] 120, .ext 100 (lrA lp { rc with state := .busy }), .blk 3 d [.v (.int .i64 n), .v (.int .i64 gs), .v (.int .i64 (tk + 1)), .v (.map (some mp))] 81, .ext 4 (MpA mp [⟨.int .i64 num, .agg #[.int .i64 al, .int .i64 ll], bo⟩] clk), .ext 5 (MpA b5 [⟨.int .i64 num, .agg #[.int .i64 (s : Nat), .int .i64 (t : Nat), .int .i64 (p : Nat), .int .i64 0, .bool false, .int .i64 (g : Nat)], 0⟩] (0 + 1)), .blk 20 b1 [.v (.slice z.1 0 z.2)] 66, .ext 16 (SlA 26 9 z.1 0 z.2 [])] ++ [.blk 15 b3 [.v (.map (some b5))] 116, .blk 12 b6 [.fn 72 [.loc bn 8 0]] 64, .blk 11 b7 [.v (.int .i64 me)] 3, .blk 10 b8 [.loc d 3 0] 32, .blk 9 bi [.v (.int .i64 (s : Nat)), .v (.int .i64 (t : Nat)), .v (.int .i64 (p : Nat)), .v (.int .i64 0), .v (.bool false), .v (.int .i64 (g : Nat))] 48, .blk 8 bn [.v (.int .u8 9)] 5]) (fun w S h => BxA.openI 20 16 (X := [_, _, _, _, _]) (Y := [.blk 15 b3 [.v (.map (some b5))] 116, .blk 12 b6 [.fn 72 [.loc bn 8 0]] 64, .blk 11 b7 [.v (.int .i64 me)] 3, .blk 10 b8 [.loc d 3 0] 32, .blk 9 bi [.v (.int .i64 (s : Nat)), .v (.int .i64 (t : Nat)), .v (.int .i64 (p : Nat)), .v (.int .i64 0), .v (.bool false), .v (.int .i64 (g : Nat))] 48, .blk 8 bn [.v (.int .u8 9)] 5]) h) ?_
    rintro ⟨a, cap⟩
    dsimp only [List.cons_append, List.nil_append]
    repeat' (first
 | with_reducible ((first | refine r_seq (fun KS hS => ?_) | (refine hS _ _ ?_; clear hS KS) | (refine hB _ ?_; clear hB KB)))
 | ((with_reducible (first | refine r_region ?_ | refine r_cond (fun KA hA KB hB => ?_) | refine r_skip ?_ | refine And.intro rfl ?_ | intro b)); conv => whnf)
 | ((with_reducible refine WrapK.i64 ?_ ?_); (focus omega); conv => whnf)
 | ((with_reducible refine QK.id ?_); refine QK.bld rfl ?_; conv => whnf)
 | ((with_reducible refine CallK.at 72 ?_); refine CallK.puW (fun ms w hk => cmdEff72 (hk.got (by repeat (first | constructor | apply List.Mem.tail))) h (by omega)) ?_; conv => whnf)
 | ((with_reducible refine CallK.at 61 ?_); refine CallK.pu (fun w => fitsEff61 h hg hk0 (by decide) (by omega) hn0 w) ?_; conv => whnf)
 | ((with_reducible refine CallK.id ?_); refine CallK.fresh (fun ms w hk => encEff62 h hk0 (by decide) (by omega) hn0 hl0 w) ?_; conv => whnf)
 | ((with_reducible refine CallK.at 20 ?_); refine CallK.puW (fun ms w hk => target20 (hk.got (by repeat (first | constructor | apply List.Mem.tail))) hok hn7 hgs (by omega)) ?_; conv => whnf)
 | ((with_reducible refine OpK.id ?_); (first | refine OpK.lk1 rfl rfl rfl rfl rfl rfl rfl (by repeat (first | with_reducible apply At.head | apply At.tail)) ?_ | refine OpK.cvBS' rfl rfl rfl rfl rfl rfl rfl rfl (Sees.ext (by repeat (first | with_reducible apply At.head | apply At.tail))) rfl ?_ | (refine OpK.app (k := 9) rfl rfl rfl rfl rfl rfl rfl rfl (by repeat (first | with_reducible apply At.head | apply At.tail)) (SrcK.slc rfl rfl (by repeat (first | constructor | apply List.Mem.tail)) (Nat.le_refl _) rfl) (by show (0 + 1) * (_ + 1) ≤ 140737488355328; decide) (fun a' cap' => ?_))); conv => whnf)
 | (apply r_split 13 (id := 16); refine mixed; kernel_rfl; kernel_rfl; kernel_rfl; intro K' hK; conv => whnf)
 | ((with_reducible refine OpK.id ?_); refine OpK.up1 rfl rfl rfl rfl rfl rfl rfl rfl (by repeat (first | with_reducible apply At.head | apply At.tail)) ?_; conv => whnf)
 | ((with_reducible ((first | refine AnyAt.mk (fun K' hK => ?_) | (refine hK _ ?_; clear hK K') | (refine hK _ _ ?_; clear hK K')))); conv => whnf)
 | with_reducible apply_assumption -symm -exfalso)
    refine ⟨?_⟩
    show HSub ([.ext 100 (lrA lp { rc with state := .busy }), .blk 3 d [.v (.int .i64 n), .v (.int .i64 gs), .v (.int .i64 (tk + 1)), .v (.map (some mp))] 81, .ext 4 (MpA mp [⟨.int .i64 num, .agg #[.int .i64 (al + 1), .int .i64 (tk + 1)], bo⟩] clk), .ext 5 (MpA b5 [⟨.int .i64 num, .agg #[.int .i64 (s : Nat), .int .i64 (t : Nat), .int .i64 (p : Nat), .int .i64 0, .bool false, .int .i64 (g : Nat)], 0⟩] (0 + 1))] ++ [.ext 9 (X 1)]) _
    refine HSub.trans ((HSub.refl _).app2 HSub.join) ?_
    show HSub ([.ext 100 (lrA lp { rc with state := .busy }), .blk 3 d [.v (.int .i64 n), .v (.int .i64 gs), .v (.int .i64 (tk + 1)), .v (.map (some mp))] 81, .ext 4 (MpA mp [⟨.int .i64 num, .agg #[.int .i64 (al + 1), .int .i64 (tk + 1)], bo⟩] clk), .ext 5 (MpA b5 [⟨.int .i64 num, .agg #[.int .i64 (s : Nat), .int .i64 (t : Nat), .int .i64 (p : Nat), .int .i64 0, .bool false, .int .i64 (g : Nat)], 0⟩] (0 + 1))] ++ ([.ext 20 (BxA 66 26 9 b1 1 [.int .i64 10, .int .i64 me, .int .i64 ((g : Int) * n + al % n), .int .i64 0, .int .i64 0, .int .i64 0, .int .i64 (num : Nat), .string ⟨(uvar 1 ++ uvar s ++ uvar t ++ uvar p ++ uvar 1 ++ [107] ++ uvar (zigN (1 + (t : Int)))).toArray⟩, .slice none 0 0])] ++ [.blk 15 b3 [.v (.map (some b5))] 116, .blk 12 b6 [.fn 72 [.loc bn 8 0]] 64, .blk 11 b7 [.v (.int .i64 me)] 3, .blk 10 b8 [.loc d 3 0] 32, .blk 9 bi [.v (.int .i64 (s : Nat)), .v (.int .i64 (t : Nat)), .v (.int .i64 (p : Nat)), .v (.int .i64 0), .v (.bool false), .v (.int .i64 (g : Nat))] 48, .blk 8 bn [.v (.int .u8 9)] 5])) _
    refine HSub.trans ((HSub.refl _).app2 (HSub.app2 (BxA.close (a := a') (cap := cap') (i1 := 20) (i2 := 16)) (HSub.refl _))) ?_
    exact (by (try dsimp only [List.cons_append, List.nil_append, den, denL]); refine SelI.spec ?_; (repeat (first | refine SelI.blk (by repeat (first | with_reducible apply Rm.head | apply Rm.tail)) ?_ | refine SelI.ext (by repeat (first | with_reducible apply Rm.head | apply Rm.tail)) ?_ | (refine SelI.blk' (by repeat (first | with_reducible apply Rm.head | apply Rm.tail)) ?_ ?_; focus rfl) | (refine SelI.ext' (by repeat (first | with_reducible apply Rm.head | apply Rm.tail)) ?_ ?_; focus rfl))); exact SelI.nil)
  · refine hS _ _ ?_
    clear hS KS
    show Run _ _ _ ([.blk 1 b [.v (.map (some b5))] 116, .blk 2 b0 [.loc d 3 0] 32, .blk 3 d [.v (.int .i64 n), .v (.int .i64 gs), .v (.int .i64 (tk + 1)), .v (.map (some mp))] 81, .ext 4 (MpA mp [⟨.int .i64 num, .agg #[.int .i64 (al + 1), .int .i64 (tk + 1)], bo⟩] clk), .ext 5 (MpA b5 [⟨.int .i64 num, .agg #[.int .i64 (s : Nat), .int .i64 (t : Nat), .int .i64 (p : Nat), .int .i64 0, .bool false, .int .i64 (g : Nat)], 0⟩] (0 + 1))] ++ [.ext 9 (X 1)]) _
    refine Run.hsub ((HSub.refl _).app2 HSub.unjoin) ?_
    refine Run.open (α := Option Addr × Nat) (A := []) (B := []) (fun z => [.blk 1 b [.v (.map (some b5))] 116, .blk 2 b0 [.loc d 3 0] 32, .blk 3 d [.v (.int .i64 n), .v (.int .i64 gs), .v (.int .i64 (tk + 1)), .v (.map (some mp))] 81, .ext 4 (MpA mp [⟨.int .i64 num, .agg #[.int .i64 (al + 1), .int .i64 (tk + 1)], bo⟩] clk), .ext 5 (MpA b5 [⟨.int .i64 num, .agg #[.int .i64 (s : Nat), .int .i64 (t : Nat), .int .i64 (p : Nat), .int .i64 0, .bool false, .int .i64 (g : Nat)], 0⟩] (0 + 1)), .blk 20 b1 [.v (.slice z.1 1 z.2)] 66, .ext 16 (SlA 26 9 z.1 1 z.2 [.int .i64 10, .int .i64 me, .int .i64 ((g : Int) * n + al % n), .int .i64 0, .int .i64 0, .int .i64 0, .int .i64 (num : Nat), .string ⟨(uvar 1 ++ uvar s ++ uvar t ++ uvar p ++ uvar 1 ++ [107] ++ uvar (zigN (1 + (t : Int)))).toArray⟩, .slice none 0 0])] ++ [.blk 15 b3 [.v (.map (some b5))] 116, .blk 12 b6 [.fn 72 [.loc bn 8 0]] 64, .blk 11 b7 [.v (.int .i64 me)] 3, .blk 10 b8 [.loc d 3 0] 32, .blk 9 bi [.v (.int .i64 (s : Nat)), .v (.int .i64 (t : Nat)), .v (.int .i64 (p : Nat)), .v (.int .i64 0), .v (.bool false), .v (.int .i64 (g : Nat))] 48, .blk 8 bn [.v (.int .u8 9)] 5]) (fun w S h => BxA.openI 20 16 (X := [_, _, _, _, _]) (Y := [.blk 15 b3 [.v (.map (some b5))] 116, .blk 12 b6 [.fn 72 [.loc bn 8 0]] 64, .blk 11 b7 [.v (.int .i64 me)] 3, .blk 10 b8 [.loc d 3 0] 32, .blk 9 bi [.v (.int .i64 (s : Nat)), .v (.int .i64 (t : Nat)), .v (.int .i64 (p : Nat)), .v (.int .i64 0), .v (.bool false), .v (.int .i64 (g : Nat))] 48, .blk 8 bn [.v (.int .u8 9)] 5]) h) ?_
    rintro ⟨a, cap⟩
    dsimp only [List.cons_append, List.nil_append]
    repeat' (first
 | with_reducible ((first | refine r_seq (fun KS hS => ?_) | (refine hS _ _ ?_; clear hS KS)))
 | ((with_reducible (first | refine r_region ?_ | refine r_ret ?_ | refine And.intro rfl ?_)); conv => whnf))
    exact FinK.frZL (a, cap) rfl (by (try dsimp only [List.cons_append, List.nil_append, den, denL]); refine SelI.spec ?_; (repeat (first | refine SelI.blk (by repeat (first | with_reducible apply Rm.head | apply Rm.tail)) ?_ | refine SelI.ext (by repeat (first | with_reducible apply Rm.head | apply Rm.tail)) ?_ | (refine SelI.blk' (by repeat (first | with_reducible apply Rm.head | apply Rm.tail)) ?_ ?_; focus rfl) | (refine SelI.ext' (by repeat (first | with_reducible apply Rm.head | apply Rm.tail)) ?_ ?_; focus rfl))); exact SelI.nil)
end Go.Proofs.YtbgnoibellfojaaGreatDoor

namespace Go.Proofs.YtbgnoibellfojaaGreatDoor
open Go Go.X
set_option maxRecDepth 100000
set_option maxHeartbeats 0
theorem waiting25 {num n gs tk : Int} {v : Value} {d mp clk bo : Nat} (hb : bo < clk) (w : World) :
    FrZ Tryz.prog 25 #[pv d] w (AssL [.ext 4 (MpA mp [⟨.int .i64 num, v, bo⟩] clk), .blk 3 d (DC n gs tk mp) 81]) (fun z : Option Addr × Nat => .slice z.1 1 z.2) (fun z => AssL [.ext 60 (SlA 3 1 z.1 1 z.2 [.int .i64 num]), .ext 4 (MpA mp [⟨.int .i64 num, v, bo⟩] clk), .blk 3 d (DC n gs tk mp) 81]) := by
  refine enter_frZ TBok (H := [.ext 4 (MpA mp [⟨.int .i64 num, v, bo⟩] clk), .blk 3 d (DC n gs tk mp) 81]) all_foot Tryz.func25 rfl rfl Tryz.ntmps25 [.loc d 3 0] rfl rfl ?_
  intro S _ _
  unfold DC
  conv => whnf
  repeat' (first
 | with_reducible ((first | refine r_seq (fun KS hS => ?_) | (refine hS _ _ ?_; clear hS KS) | (refine hB _ ?_; clear hB KB)))
 | ((with_reducible (first | refine r_region ?_ | refine r_cond (fun KA hA KB hB => ?_) | refine r_ret ?_ | refine r_skip ?_ | refine And.intro rfl ?_ | intro b)); conv => whnf)
 | (apply in64; rfl; rfl; rfl; intro A; conv => whnf)
 | ((with_reducible refine CallK.at 45 ?_); refine CallK.puW (fun ms w hk => made45 (hk.got (by repeat (first | constructor | apply List.Mem.tail)))) ?_; conv => whnf)
 | ((with_reducible refine CallK.at 63 ?_); refine sortedCall106 hb (Sel.cons (by repeat (first | with_reducible apply Rm.head | apply Rm.tail)) (Sel.cons (by repeat (first | with_reducible apply Rm.head | apply Rm.tail)) Sel.nil)) (fun z => ?_); conv => whnf)
 | with_reducible apply_assumption -symm -exfalso)
  exact FinK.frZL z rfl (by (try dsimp only [List.cons_append, List.nil_append, den, denL]); refine SelI.spec ?_; (repeat (first | refine SelI.blk (by repeat (first | with_reducible apply Rm.head | apply Rm.tail)) ?_ | refine SelI.ext (by repeat (first | with_reducible apply Rm.head | apply Rm.tail)) ?_ | (refine SelI.blk' (by repeat (first | with_reducible apply Rm.head | apply Rm.tail)) ?_ ?_; focus rfl) | (refine SelI.ext' (by repeat (first | with_reducible apply Rm.head | apply Rm.tail)) ?_ ?_; focus rfl))); exact SelI.nil)
theorem new11 {n gs : Int} (hn : 1 ≤ n ∧ n ≤ 7) (hg : 2 ≤ gs ∧ gs ≤ 8) (w : World) :
    FrZ Tryz.prog 11 #[.int .i64 n, .int .i64 gs] w emp (fun z : Nat × Nat => .tuple #[pv z.1, .int .i64 0]) (fun z => AssL [.blk 3 z.1 (DC n gs 0 z.2) 81, .ext 4 (MpA z.2 [] 0)]) := by
  refine enter_frZ TBok (H := []) emp_foot Tryz.func11 rfl rfl Tryz.ntmps11 [.v (.int .i64 n), .v (.int .i64 gs)] rfl rfl ?_
  intro S _ _
  conv => whnf
  repeat' (first
 | with_reducible ((first | refine r_seq (fun KS hS => ?_) | (refine hS _ _ ?_; clear hS KS) | (refine hB _ ?_; clear hB KB)))
 | ((with_reducible (first | refine r_region ?_ | refine r_cond (fun KA hA KB hB => ?_) | refine r_ret ?_ | refine r_skip ?_ | intro b)); conv => whnf)
 | ((with_reducible refine OpK.id ?_); refine OpK.mkM rfl ?_; conv => whnf)
 | (refine if_decF (by omega) ?_; conv => whnf)
 | with_reducible apply_assumption -symm -exfalso)
  rename_i m
  exact FinK.frZL (b, m) rfl (by (try dsimp only [List.cons_append, List.nil_append, den, denL]); refine SelI.spec ?_; (repeat (first | refine SelI.blk (by repeat (first | with_reducible apply Rm.head | apply Rm.tail)) ?_ | refine SelI.ext (by repeat (first | with_reducible apply Rm.head | apply Rm.tail)) ?_ | (refine SelI.blk' (by repeat (first | with_reducible apply Rm.head | apply Rm.tail)) ?_ ?_; focus rfl) | (refine SelI.ext' (by repeat (first | with_reducible apply Rm.head | apply Rm.tail)) ?_ ?_; focus rfl))); exact SelI.nil)
theorem equal39 {x : Int} {a b : Option Addr} {n1 n2 : Nat} {w : World} (ha : RdS w 3 1 a 1 n1 [.int .i64 x]) (hb : RdS w 3 1 b 1 n2 [.int .i64 x]) : Pu Tryz.prog 39 #[.slice a 1 n1, .slice b 1 n2] w (.bool true) := by
  have sa := fun n' r H => Sees.old (c := ⟨Tryz.prog, TB, n', w, noS, r, TBok⟩) (H := H) ha.old
  have sb := fun n' r H => Sees.old (c := ⟨Tryz.prog, TB, n', w, noS, r, TBok⟩) (H := H) hb.old
  refine enter_sound TBok Tryz.func39 rfl rfl Tryz.ntmps39 [.v (.slice a 1 n1), .v (.slice b 1 n2)] (Kn.start w noS) rfl rfl ?_
  conv => whnf
  repeat' (first
 | with_reducible ((first | refine r_seq (fun KS hS => ?_) | (refine hS _ _ ?_; clear hS KS) | (refine hA _ ?_; clear hA KA) | (refine hB _ ?_; clear hB KB) | refine r_block ?_))
 | ((with_reducible (first | refine r_region ?_ | refine r_cond (fun KA hA KB hB => ?_) | refine r_ret ?_ | refine r_skip ?_ | refine r_exit ?_)); conv => whnf)
 | ((with_reducible refine WrapK.i64 ?_ ?_); (focus omega); conv => whnf)
 | ((with_reducible refine QK.id ?_); (first | refine QK.idx (k := 1) rfl rfl rfl rfl rfl rfl rfl (sa _ _ _) (by omega) (by omega) (i1 _) (fun b off hp => ?_) | refine QK.idx (k := 1) rfl rfl rfl rfl rfl rfl rfl (sb _ _ _) (by omega) (by omega) (i1 _) (fun b off hp => ?_) | refine QK.ldp rfl rfl hp (List.cons_ne_nil _ _) ?_); conv => whnf)
 | with_reducible (first | refine Rounds.step (fun KL hL => ?_) | refine r_rounds 100 ?_)
 | (apply r_quiet; refine mixed; kernel_rfl; kernel_rfl; kernel_rfl; conv => whnf)
 | (refine if_ndecF (by omega) ?_; conv => whnf)
 | with_reducible apply_assumption -symm -exfalso)
  exact FinK.pu rfl
theorem KAt.off {w : World} (h : KAt w) {b : Nat} {l : List SV} {t : Nat} (hb : w.heap[b]? = some (.cells (denL l).toArray t (0, 0))) (hl : l.length ≤ 50) : ¬ (0 : Nat) = b := by
  rintro rfl
  obtain ⟨_, C, t, f, h1, h2, _⟩ := h
  rw [h1] at hb
  simp only [Option.some.injEq, Obj.cells.injEq] at hb
  have := h2 0 _ rfl
  rw [hb.1] at this
  have h3 := (Array.getElem?_eq_some_iff.1 this).1
  simp only [List.size_toArray, denL_length] at h3
  omega
theorem KAt.offL {w : World} (h : KAt w) : ∀ {L : List Blk} {S : Nat → Prop}, Rdd w L S → (∀ i b cs t, Blk.blk i b cs t ∈ L → cs.length ≤ 50) → ¬ S 0
  | [], _, hr, _ => hr 0
  | .blk i b cs t :: L, _, ⟨h1, T, h2, h3, h4⟩, hl => fun hs => by
    rcases (h4 0).1 hs with e | e
    · exact h.off h1 (hl i b cs t (by simp)) e
    · exact h.offL h2 (fun i b cs t hm => hl i b cs t (List.mem_cons_of_mem _ hm)) e
  | .ext _ _ :: _, _, hr, _ => hr.elim
theorem answerToEff18 {s t p g : Nat} {k : ByteArray} {dl : Int} (h : EffOk s t p) (hg : 1 ≤ g ∧ g ≤ 7) (hk : nameOk k = true) (hks : k.size ≤ 16) (hdl : dl ≠ 0) (hn : NumOk dl) {w : World} {d f to num e : Nat} {n gs tk rn : Int} {mp : Nat} {v rx : ByteArray} (hd : DAt w d n gs tk mp) (hka : KAt w) (hn7 : 1 ≤ n ∧ n ≤ 7) (hgs : g < gs) (hf : f < n) (hto : (to : Int) / n = g) (hto2 : to ≤ 55) (hft : f < to ∨ to < f) (hnum : (num : Int) = ((((s : Int) - 1) * 8 + t) * 3 + p - 1) * 7 + g) (hv : v.data.toList = uvar 1 ++ (uvar s ++ (uvar t ++ (uvar p ++ (uvar k.size ++ k.data.toList ++ (uvar (zigN dl) ++ [])))))) (hvs : v.size ≤ 65536) (he : 0 ≤ (e : Int) ∧ (e : Int) ≤ 18) (hrn : NumOk rn) (hrx : rx.size ≤ 65536) (hrl : (uvar e ++ uvar (zigN rn) ++ uvar rx.size ++ rx.data.toList).length ≤ 65536) : Pu Tryz.prog 18 #[pv d, .agg #[.int .i64 10, .int .i64 (f : Nat), .int .i64 (to : Nat), .int .i64 0, .int .i64 0, .int .i64 0, .int .i64 (num : Nat), .string v, .slice none 0 0], .agg #[.int .i64 (e : Nat), .int .i64 rn, .string rx]] w (.tuple #[.agg #[.int .i64 11, .int .i64 (to : Nat), .int .i64 (f : Nat), .int .i64 0, .int .i64 0, .int .i64 0, .int .i64 (num : Nat), .string ⟨(uvar e ++ uvar (zigN rn) ++ uvar rx.size ++ rx.data.toList).toArray⟩, .slice none 0 0], .int .i64 0]) := by
  have h0 := h
  unfold EffOk at h0
  have hne := hka.ne hd
  refine Pu.ofFrZ (enter_ro TBok (cs := DC n gs tk mp) hd Tryz.func18 rfl rfl Tryz.ntmps18 [.loc d 10 0, .agg [.v (.int .i64 10), .v (.int .i64 (f : Nat)), .v (.int .i64 (to : Nat)), .v (.int .i64 0), .v (.int .i64 0), .v (.int .i64 0), .v (.int .i64 (num : Nat)), .v (.string v), .v (.slice none 0 0)], .agg [.v (.int .i64 (e : Nat)), .v (.int .i64 rn), .v (.string rx)]] rfl rfl ?_)
  unfold DC
  conv => whnf
  repeat' (first
 | with_reducible ((first | refine r_seq (fun KS hS => ?_) | (refine hS _ _ ?_; clear hS KS) | (refine hB _ ?_; clear hB KB)))
 | ((with_reducible (first | refine r_region ?_ | refine r_cond (fun KA hA KB hB => ?_) | refine r_ret ?_ | refine r_skip ?_ | refine And.intro rfl ?_ | intro b)); conv => whnf)
 | ((with_reducible refine CallK.at 45 ?_); refine CallK.puW (fun ms w hk => made45 (hk.got (by repeat (first | constructor | apply List.Mem.tail)))) ?_; conv => whnf)
 | ((with_reducible refine CallK.at 41 ?_); refine CallK.puW (fun ms w hkn => questionEff41 h hg hk hks hdl hn (hkn.got (by repeat (first | constructor | apply List.Mem.tail))) (hka.now hne hkn) hn7 hgs hf hto hto2 hft hnum hv hvs) ?_; conv => whnf)
 | ((with_reducible refine CallK.id ?_); refine CallK.fresh (fun ms w hk => reply46 he hrn hrx hrl w) ?_; conv => whnf)
 | ((with_reducible refine OpK.id ?_); refine OpK.cvBS' rfl rfl rfl rfl rfl rfl rfl rfl (Sees.ext (by repeat (first | with_reducible apply At.head | apply At.tail))) rfl ?_; conv => whnf)
 | with_reducible apply_assumption -symm -exfalso)
  all_goals exact FinK.ro0 rfl (HSub.pick (by repeat (first | with_reducible apply At.head | apply At.tail)))
theorem serveEff14 {s t p g : Nat} {k : ByteArray} {dl : Int} (h : EffOk s t p) (hg : 1 ≤ g ∧ g ≤ 7) (hk : nameOk k = true) (hks : k.size ≤ 16) (hdl : dl ≠ 0) (hn : NumOk dl) {w : World} {d f to num : Nat} {n gs tk : Int} {mp : Nat} {v : ByteArray} (hd : DAt w d n gs tk mp) (hka : KAt w) (hn7 : 1 ≤ n ∧ n ≤ 7) (hgs : g < gs) (hf : f < n) (hto : (to : Int) / n = g) (hto2 : to ≤ 55) (hft : f < to ∨ to < f) (hnum : (num : Int) = ((((s : Int) - 1) * 8 + t) * 3 + p - 1) * 7 + g) (hv : v.data.toList = uvar 1 ++ (uvar s ++ (uvar t ++ (uvar p ++ (uvar k.size ++ k.data.toList ++ (uvar (zigN dl) ++ [])))))) (hvs : v.size ≤ 65536) : Pu Tryz.prog 14 #[pv d, .agg #[.int .i64 10, .int .i64 (f : Nat), .int .i64 (to : Nat), .int .i64 0, .int .i64 0, .int .i64 0, .int .i64 (num : Nat), .string v, .slice none 0 0], .nilFunc] w (.tuple #[.agg #[.int .i64 1, .int .i64 0, .int .i64 0, .int .i64 (s : Nat), .int .i64 (t : Nat), .int .i64 (p : Nat), .string k, .int .i64 dl, .int .i64 0, .string ⟨#[]⟩, .string ⟨#[]⟩, .int .i64 0, .string ⟨#[]⟩, .int .i64 0, .int .i64 0, .slice none 0 0, .int .i64 0, .int .i64 0, .int .i64 0, .int .i64 0, .bool false, .int .i64 0, .int .i64 0, .string ⟨#[]⟩], .agg #[.int .i64 0, .int .i64 0, .int .i64 0, .int .i64 0, .int .i64 0, .int .i64 0, .int .i64 0, .string ⟨#[]⟩, .slice none 0 0], .bool true, .bool false]) := by
  have h0 := h
  unfold EffOk at h0
  have hne := hka.ne hd
  refine Pu.ofFrZ (enter_ro TBok (cs := DC n gs tk mp) hd Tryz.func14 rfl rfl Tryz.ntmps14 [.loc d 10 0, .agg [.v (.int .i64 10), .v (.int .i64 (f : Nat)), .v (.int .i64 (to : Nat)), .v (.int .i64 0), .v (.int .i64 0), .v (.int .i64 0), .v (.int .i64 (num : Nat)), .v (.string v), .v (.slice none 0 0)], .v .nilFunc] rfl rfl ?_)
  unfold DC
  conv => whnf
  repeat' (first
 | with_reducible ((first | refine r_seq (fun KS hS => ?_) | (refine hS _ _ ?_; clear hS KS) | (refine hB _ ?_; clear hB KB)))
 | ((with_reducible (first | refine r_region ?_ | refine r_cond (fun KA hA KB hB => ?_) | refine r_ret ?_ | refine r_skip ?_ | refine And.intro rfl ?_ | intro b)); conv => whnf)
 | ((with_reducible refine CallK.at 41 ?_); refine CallK.puW (fun ms w hkn => questionEff41 h hg hk hks hdl hn (hkn.got (by repeat (first | constructor | apply List.Mem.tail))) (hka.now hne hkn) hn7 hgs hf hto hto2 hft hnum hv hvs) ?_; conv => whnf)
 | ((with_reducible apply OpK.more); (focus refine sok); (conv => whnf); fail_if_success guard_target =ₛ False)
 | with_reducible apply_assumption -symm -exfalso)
  all_goals exact FinK.ro0 rfl (HSub.pick (by repeat (first | with_reducible apply At.head | apply At.tail)))
theorem serveDoneEff14 {s t p g : Nat} {k : ByteArray} {dl : Int} (h : EffOk s t p) (hg : 1 ≤ g ∧ g ≤ 7) (hk : nameOk k = true) (hks : k.size ≤ 16) (hdl : dl ≠ 0) (hn : NumOk dl) {w : World} {d f to num e F : Nat} {n gs tk rn : Int} {mp : Nat} {v rx : ByteArray} (hd : DAt w d n gs tk mp) (hka : KAt w) (hn7 : 1 ≤ n ∧ n ≤ 7) (hgs : g < gs) (hf : f < n) (hto : (to : Int) / n = g) (hto2 : to ≤ 55) (hft : f < to ∨ to < f) (hnum : (num : Int) = ((((s : Int) - 1) * 8 + t) * 3 + p - 1) * 7 + g) (hv : v.data.toList = uvar 1 ++ (uvar s ++ (uvar t ++ (uvar p ++ (uvar k.size ++ k.data.toList ++ (uvar (zigN dl) ++ [])))))) (hvs : v.size ≤ 65536) (hF : ∀ w, Pu Tryz.prog F #[.agg #[.int .i64 (s : Nat), .int .i64 (t : Nat), .int .i64 (p : Nat)]] w (.tuple #[.agg #[.int .i64 (e : Nat), .int .i64 rn, .string rx], .bool true])) (he : 0 ≤ (e : Int) ∧ (e : Int) ≤ 18) (hrn : NumOk rn) (hrx : rx.size ≤ 65536) (hrl : (uvar e ++ uvar (zigN rn) ++ uvar rx.size ++ rx.data.toList).length ≤ 65536) : Pu Tryz.prog 14 #[pv d, .agg #[.int .i64 10, .int .i64 (f : Nat), .int .i64 (to : Nat), .int .i64 0, .int .i64 0, .int .i64 0, .int .i64 (num : Nat), .string v, .slice none 0 0], .func (.func F) #[] #[]] w (.tuple #[.agg #[.int .i64 0, .int .i64 0, .int .i64 0, .int .i64 0, .int .i64 0, .int .i64 0, .string ⟨#[]⟩, .int .i64 0, .int .i64 0, .string ⟨#[]⟩, .string ⟨#[]⟩, .int .i64 0, .string ⟨#[]⟩, .int .i64 0, .int .i64 0, .slice none 0 0, .int .i64 0, .int .i64 0, .int .i64 0, .int .i64 0, .bool false, .int .i64 0, .int .i64 0, .string ⟨#[]⟩], .agg #[.int .i64 11, .int .i64 (to : Nat), .int .i64 (f : Nat), .int .i64 0, .int .i64 0, .int .i64 0, .int .i64 (num : Nat), .string ⟨(uvar e ++ uvar (zigN rn) ++ uvar rx.size ++ rx.data.toList).toArray⟩, .slice none 0 0], .bool false, .bool true]) := by
  have h0 := h
  unfold EffOk at h0
  have hne := hka.ne hd
  refine Pu.ofFrZ (enter_ro TBok (cs := DC n gs tk mp) hd Tryz.func14 rfl rfl Tryz.ntmps14 [.loc d 10 0, .agg [.v (.int .i64 10), .v (.int .i64 (f : Nat)), .v (.int .i64 (to : Nat)), .v (.int .i64 0), .v (.int .i64 0), .v (.int .i64 0), .v (.int .i64 (num : Nat)), .v (.string v), .v (.slice none 0 0)], .fn F []] rfl rfl ?_)
  unfold DC
  conv => whnf
  repeat' (first
 | with_reducible ((first | refine r_seq (fun KS hS => ?_) | (refine hS _ _ ?_; clear hS KS) | (refine hA _ ?_; clear hA KA) | (refine hB _ ?_; clear hB KB)))
 | ((with_reducible (first | refine r_region ?_ | refine r_cond (fun KA hA KB hB => ?_) | refine r_ret ?_ | refine r_skip ?_ | refine And.intro rfl ?_ | intro b)); conv => whnf)
 | (apply r_any (id := 9); refine mixed; kernel_rfl; kernel_rfl; conv => whnf)
 | ((with_reducible refine CallK.at 41 ?_); refine CallK.puW (fun ms w hkn => questionEff41 h hg hk hks hdl hn (hkn.got (by repeat (first | constructor | apply List.Mem.tail))) (hka.now hne hkn) hn7 hgs hf hto hto2 hft hnum hv hvs) ?_; conv => whnf)
 | ((with_reducible refine CallK.at 18 ?_); refine CallK.puW (fun ms w hkn => answerToEff18 h hg hk hks hdl hn (hkn.got (by repeat (first | constructor | apply List.Mem.tail))) (hka.now hne hkn) hn7 hgs hf hto hto2 hft hnum hv hvs he hrn hrx hrl) ?_; conv => whnf)
 | ((with_reducible refine CallK.id ?_); refine CallK.pu (fun w => (hF w)) ?_; conv => whnf)
 | ((with_reducible refine IK.id ?_); (refine IK.bld rfl ?_); conv => whnf)
 | ((with_reducible apply OpK.more); (focus refine sok); (conv => whnf); fail_if_success guard_target =ₛ False)
 | ((with_reducible ((first | refine InAt.mk (fun K' hK => ?_) | refine AnyAt.mk (fun K' hK => ?_) | (refine hK _ ?_; clear hK K') | (refine hK _ _ ?_; clear hK K')))); conv => whnf)
 | (refine And.intro ?_ ?_; all_goals (conv => whnf))
 | with_reducible apply_assumption -symm -exfalso)
  all_goals exact FinK.ro0 rfl (HSub.pick (by repeat (first | with_reducible apply At.head | apply At.tail)))
theorem answerEff31 {s t p g : Nat} {k : ByteArray} {dl : Int} (h : EffOk s t p) (hg : 1 ≤ g ∧ g ≤ 7) (hk : nameOk k = true) (hks : k.size ≤ 16) (hdl : dl ≠ 0) (hn : NumOk dl) {w : World} {d bi f to num e : Nat} {n gs tk rn : Int} {mp : Nat} {rx : ByteArray} {S0 : Nat → Prop} (hd : Rdd w [.blk 9 bi [.v (.int .i64 (s : Nat)), .v (.int .i64 (t : Nat)), .v (.int .i64 (p : Nat)), .v (.int .i64 0), .v (.bool false), .v (.int .i64 (g : Nat))] 48, .blk 3 d (DC n gs tk mp) 81] S0) (hka : KAt w) (hn7 : 1 ≤ n ∧ n ≤ 7) (hgs : g < gs) (hf : f < n) (hto : (to : Int) / n = g) (hto2 : to ≤ 55) (hft : f < to ∨ to < f) (hnum : (num : Int) = ((((s : Int) - 1) * 8 + t) * 3 + p - 1) * 7 + g) (he : 0 ≤ (e : Int) ∧ (e : Int) ≤ 18) (hrn : NumOk rn) (hrx : rx.size ≤ 65536) (hrl : (uvar e ++ uvar (zigN rn) ++ uvar rx.size ++ rx.data.toList).length ≤ 65536) : Pu Tryz.prog 31 #[pv d, .agg #[.int .i64 11, .int .i64 (to : Nat), .int .i64 (f : Nat), .int .i64 0, .int .i64 0, .int .i64 0, .int .i64 (num : Nat), .string ⟨(uvar e ++ uvar (zigN rn) ++ uvar rx.size ++ rx.data.toList).toArray⟩, .slice none 0 0], .slice (some ⟨bi, 0, none⟩) 1 1] w (.tuple #[.agg #[.int .i64 15, .int .i64 0, .int .i64 0, .int .i64 0, .int .i64 0, .int .i64 0, .string ⟨#[]⟩, .int .i64 0, .int .i64 0, .string ⟨#[]⟩, .string ⟨#[]⟩, .int .i64 0, .string ⟨#[]⟩, .int .i64 0, .int .i64 0, .slice none 0 0, .int .i64 (s : Nat), .int .i64 (t : Nat), .int .i64 (p : Nat), .int .i64 0, .bool false, .int .i64 (g : Nat), .int .i64 (e : Nat), .string ⟨#[]⟩], .bool true]) := by
  have h0 := h
  unfold EffOk at h0
  have hne := hka.offL hd (by simp [DC]; rintro i b cs t (⟨-, -, rfl, -⟩ | ⟨-, -, rfl, -⟩) <;> simp)
  have hok : ItemOk s t p 0 false g := okEff h hg hk hks hdl hn
  have hq : IntKind.i64.wrap ((to : Int).tdiv n) = (g : Int) := by rw [IntWalk.i64_quo _ _ (by omega), hto]
  have hnum' : itemNum s t p 0 false g = (num : Int) := by rw [hnum]; unfold itemNum; rw [if_pos rfl]
  have hv' : (ByteArray.mk (uvar e ++ uvar (zigN rn) ++ uvar rx.size ++ rx.data.toList).toArray).data.toList = uvar e ++ (uvar (zigN rn) ++ (uvar rx.size ++ rx.data.toList ++ [])) := by simp
  refine Pu.ofFrZ (enter_roL TBok hd Tryz.func31 rfl rfl Tryz.ntmps31 [.loc d 3 0, .agg [.v (.int .i64 11), .v (.int .i64 (to : Nat)), .v (.int .i64 (f : Nat)), .v (.int .i64 0), .v (.int .i64 0), .v (.int .i64 0), .v (.int .i64 (num : Nat)), .v (.string ⟨(uvar e ++ uvar (zigN rn) ++ uvar rx.size ++ rx.data.toList).toArray⟩), .v (.slice none 0 0)], .slc bi 9 0 1 1] rfl rfl ?_)
  unfold DC
  conv => whnf
  repeat' (first
 | with_reducible ((first | refine r_seq (fun KS hS => ?_) | (refine hS _ _ ?_; clear hS KS) | (refine hA _ ?_; clear hA KA) | (refine hB _ ?_; clear hB KB) | refine r_block ?_))
 | ((with_reducible (first | refine r_region ?_ | refine r_cond (fun KA hA KB hB => ?_) | refine r_ret ?_ | refine r_skip ?_ | refine And.intro rfl ?_ | intro b)); conv => whnf)
 | ((with_reducible refine CallK.id ?_); (first | apply in68 | apply in69); rfl; rfl; rfl; intro A; conv => whnf)
 | ((with_reducible refine CallK.at 28 ?_); refine CallK.puW (fun ms w hkn => check_ans28 (hka.now hne hkn) (by omega) (by omega) (by omega) (by omega) (by show List.length _ ≤ _; exact hrl)) ?_; conv => whnf)
 | ((with_reducible refine CallK.at 45 ?_); refine CallK.puW (fun ms w hkn => made45 (hkn.got (by repeat (first | constructor | apply List.Mem.tail)))) ?_; conv => whnf)
 | ((with_reducible refine CallK.at 70 ?_); refine CallK.pu (fun w => numOk70 hok w) ?_; rw [hnum']; conv => whnf)
 | ((with_reducible refine QuoK.id ?_); refine QuoK.eq (by omega) hq ?_; conv => whnf)
 | ((with_reducible refine OpK.id ?_); refine OpK.cvSB rfl rfl rfl rfl rfl rfl rfl rfl ?_; rw [hv']; conv => whnf)
 | ((with_reducible refine CallK.at 71 ?_); refine CallK.puW (fun ms w hkn => parse71 (Sees.rd (Sees.ext (by repeat (first | with_reducible apply At.head | apply At.tail))) hkn) he hrn hrx (by exact hrl)) ?_; conv => whnf)
 | ((with_reducible apply OpK.more); (focus refine sok); (conv => whnf); fail_if_success guard_target =ₛ False)
 | with_reducible (first | refine Rounds.step (fun KL hL => ?_) | refine r_rounds 100 ?_)
 | (apply r_quiet; refine mixed; kernel_rfl; kernel_rfl; kernel_rfl; conv => whnf)
 | (refine if_decT (by omega) ?_; conv => whnf)
 | with_reducible apply_assumption -symm -exfalso)
  all_goals exact FinK.roL0 rfl (by (try dsimp only [List.cons_append, List.nil_append, den, denL]); refine SelI.spec ?_; (repeat (first | refine SelI.blk (by repeat (first | with_reducible apply Rm.head | apply Rm.tail)) ?_ | refine SelI.ext (by repeat (first | with_reducible apply Rm.head | apply Rm.tail)) ?_ | (refine SelI.blk' (by repeat (first | with_reducible apply Rm.head | apply Rm.tail)) ?_ ?_; focus rfl) | (refine SelI.ext' (by repeat (first | with_reducible apply Rm.head | apply Rm.tail)) ?_ ?_; focus rfl))); exact SelI.nil)
end Go.Proofs.YtbgnoibellfojaaGreatDoor

namespace Go.Proofs.YtbgnoibellfojaaGreatDoor
open Go Go.X
set_option maxRecDepth 100000
set_option maxHeartbeats 0
def qv : ByteArray := ⟨(uvar 1 ++ uvar 7 ++ uvar 0 ++ uvar 1 ++ uvar 1 ++ [107] ++ uvar (zigN (1 + ((0 : Nat) : Int)))).toArray⟩
theorem qvEq : qv = ⟨#[1, 7, 0, 1, 1, 107, 2]⟩ := by decide +kernel
def rv : ByteArray := ⟨(uvar 0 ++ uvar (zigN 8) ++ uvar (ByteArray.mk #[]).size ++ (ByteArray.mk #[]).data.toList).toArray⟩
theorem eff701 : EffOk 7 0 1 := by unfold EffOk; omega
theorem item701 : ItemOk 7 0 1 0 false 1 := ⟨by omega, by omega, .inl ⟨rfl, rfl, eff701⟩⟩
def qM (to : Int) : List Value := [.int .i64 10, .int .i64 1, .int .i64 to, .int .i64 0, .int .i64 0, .int .i64 0, .int .i64 1009, .string qv, .slice none 0 0]
def itW : List SV := [.v (.int .i64 7), .v (.int .i64 0), .v (.int .i64 1), .v (.int .i64 0), .v (.bool false), .v (.int .i64 1)]
section
variable {nn : Nat} {W : World} {S : Nat → Prop} {r : Option Nat} {H R : List Blk} {nx : K1}
theorem wTickFirst {d mp bi bn i1 i1' i2 i2' i3 i4 : Nat} {c1 c2 c3 : List SV} (hs : Sel H [.blk i1 bi c1 48, .blk i2 bn c2 5, .ext i4 (MpA mp [] 0), .blk i3 d c3 81] R) (e1 : denL c1 = denL itW) (e2 : denL c2 = denL [.v (.int .u8 9)]) (e3 : denL c3 = denL (DC 3 3 0 mp))
    (hn : ∀ z : Option Addr × Nat, nx (.v (.slice z.1 1 z.2)) (.ext 70 (SlA 26 9 z.1 1 z.2 (qM 3)) :: .blk i1 bi c1 48 :: .blk i2 bn c2 5 :: .ext i4 (MpA mp [⟨.int .i64 1009, .agg #[.int .i64 1, .int .i64 1], 0⟩] 1) :: .blk i3 d (DC 3 3 1 mp) 81 :: R)) : CallK ⟨Tryz.prog, TB, nn, W, S, r, TBok⟩ 24 [.v (pv d), .v (.int .i64 1), .slc bi i1' 0 1 1, .fn 72 [.loc bn i2' 0]] H nx :=
  CallK.frL (v := fun z : Option Addr × Nat => .slice z.1 1 z.2) (L0 := [.blk 9 bi itW 48, .blk 8 bn [.v (.int .u8 9)] 5, .ext 4 (MpA mp [] 0), .blk 3 d (DC 3 3 0 mp) 81]) hs (HSub.keep e1 (HSub.keep e2 (HSub.ext (fun _ _ h => h) (HSub.keep e3 HSub.nil)))) (fun _ w _ => tickFirstEff24 (s := 7) (t := 0) (p := 1) (g := 1) (num := 1009) (n := 3) (gs := 3) (tk := 0) (me := 1) (clk := 0) eff701 (by omega) (by omega) (by omega) (by omega) (by omega) (by unfold itemNum; rfl) w)
    (M' := fun z => [.ext 70 (SlA 26 9 z.1 1 z.2 (qM 3)), .blk i1 bi c1 48, .blk i2 bn c2 5, .ext i4 (MpA mp [⟨.int .i64 1009, .agg #[.int .i64 1, .int .i64 1], 0⟩] 1), .blk i3 d (DC 3 3 1 mp) 81]) (fun z => HSub.ext (fun _ _ h => h) (HSub.keep e1.symm (HSub.keep e2.symm (HSub.ext (fun _ _ h => h) (HSub.keep rfl HSub.nil))))) hn
theorem wTickNot {d mp bi bn i1 i1' i2 i2' i3 i4 : Nat} {tk : Int} (htk : 1 ≤ tk ∧ tk ≤ 3) {c1 c2 c3 : List SV} (hs : Sel H [.blk i1 bi c1 48, .blk i2 bn c2 5, .ext i4 (MpA mp [⟨.int .i64 1009, .agg #[.int .i64 1, .int .i64 1], 0⟩] 1), .blk i3 d c3 81] R) (e1 : denL c1 = denL itW) (e2 : denL c2 = denL [.v (.int .u8 9)]) (e3 : denL c3 = denL (DC 3 3 tk mp))
    (hn : ∀ z : Option Addr × Nat, nx (.v (.slice z.1 0 z.2)) (.ext 70 (SlA 26 9 z.1 0 z.2 []) :: .blk i1 bi c1 48 :: .blk i2 bn c2 5 :: .ext i4 (MpA mp [⟨.int .i64 1009, .agg #[.int .i64 1, .int .i64 1], 0⟩] 1) :: .blk i3 d (DC 3 3 (tk + 1) mp) 81 :: R)) : CallK ⟨Tryz.prog, TB, nn, W, S, r, TBok⟩ 24 [.v (pv d), .v (.int .i64 1), .slc bi i1' 0 1 1, .fn 72 [.loc bn i2' 0]] H nx :=
  CallK.frL (v := fun z : Option Addr × Nat => .slice z.1 0 z.2) (L0 := [.blk 9 bi itW 48, .blk 8 bn [.v (.int .u8 9)] 5, .ext 4 (MpA mp [⟨.int .i64 1009, .agg #[.int .i64 1, .int .i64 1], 0⟩] 1), .blk 3 d (DC 3 3 tk mp) 81]) hs (HSub.keep e1 (HSub.keep e2 (HSub.ext (fun _ _ h => h) (HSub.keep e3 HSub.nil)))) (fun _ w _ => tickNotEff24 (s := 7) (t := 0) (p := 1) (g := 1) (num := 1009) (n := 3) (gs := 3) (tk := tk) (me := 1) (al := 1) (ll := 1) (clk := 1) (bo := 0) eff701 (by omega) (by omega) (by omega) (by omega) (by omega) (by unfold itemNum; rfl) (by omega) (by omega) (by omega) w)
    (M' := fun z => [.ext 70 (SlA 26 9 z.1 0 z.2 []), .blk i1 bi c1 48, .blk i2 bn c2 5, .ext i4 (MpA mp [⟨.int .i64 1009, .agg #[.int .i64 1, .int .i64 1], 0⟩] 1), .blk i3 d (DC 3 3 (tk + 1) mp) 81]) (fun z => HSub.ext (fun _ _ h => h) (HSub.keep e1.symm (HSub.keep e2.symm (HSub.ext (fun _ _ h => h) (HSub.keep rfl HSub.nil))))) hn
theorem wTickAgain {d mp bi bn i1 i1' i2 i2' i3 i4 : Nat} {c1 c2 c3 : List SV} (hs : Sel H [.blk i1 bi c1 48, .blk i2 bn c2 5, .ext i4 (MpA mp [⟨.int .i64 1009, .agg #[.int .i64 1, .int .i64 1], 0⟩] 1), .blk i3 d c3 81] R) (e1 : denL c1 = denL itW) (e2 : denL c2 = denL [.v (.int .u8 9)]) (e3 : denL c3 = denL (DC 3 3 4 mp))
    (hn : ∀ z : Option Addr × Nat, nx (.v (.slice z.1 1 z.2)) (.ext 70 (SlA 26 9 z.1 1 z.2 (qM 4)) :: R)) : CallK ⟨Tryz.prog, TB, nn, W, S, r, TBok⟩ 24 [.v (pv d), .v (.int .i64 1), .slc bi i1' 0 1 1, .fn 72 [.loc bn i2' 0]] H nx :=
  CallK.frL (v := fun z : Option Addr × Nat => .slice z.1 1 z.2) (L0 := [.blk 9 bi itW 48, .blk 8 bn [.v (.int .u8 9)] 5, .ext 4 (MpA mp [⟨.int .i64 1009, .agg #[.int .i64 1, .int .i64 1], 0⟩] 1), .blk 3 d (DC 3 3 4 mp) 81]) hs (HSub.keep e1 (HSub.keep e2 (HSub.ext (fun _ _ h => h) (HSub.keep e3 HSub.nil)))) (fun _ w _ => tickAgainEff24 (s := 7) (t := 0) (p := 1) (g := 1) (num := 1009) (n := 3) (gs := 3) (tk := 4) (me := 1) (al := 1) (ll := 1) (clk := 1) (bo := 0) eff701 (by omega) (by omega) (by omega) (by omega) (by omega) (by unfold itemNum; rfl) (by omega) (by omega) (by omega) (by omega) w)
    (M' := fun z => [.ext 70 (SlA 26 9 z.1 1 z.2 (qM 4))]) (fun z => HSub.ext (fun _ _ h => h) (HSub.drop (HSub.drop (HSub.drop (HSub.drop HSub.nil))))) hn
theorem wNew (hn : ∀ z : Nat × Nat, nx (.v (.tuple #[pv z.1, .int .i64 0])) (.blk 3 z.1 (DC 3 3 0 z.2) 81 :: .ext 4 (MpA z.2 [] 0) :: H)) : CallK ⟨Tryz.prog, TB, nn, W, S, r, TBok⟩ 11 [.v (.int .i64 3), .v (.int .i64 3)] H nx :=
  CallK.frL (v := fun z : Nat × Nat => .tuple #[pv z.1, .int .i64 0]) (L0 := []) (L := []) (R := H) Sel.nil HSub.nil (fun _ w _ => FrZ.pre (new11 (n := 3) (gs := 3) (by omega) (by omega) w) (fun S h => by cases h; exact fun _ h => h))
    (M' := fun z => [.blk 3 z.1 (DC 3 3 0 z.2) 81, .ext 4 (MpA z.2 [] 0)]) (fun z => HSub.keep rfl (HSub.ext (fun _ _ h => h) HSub.nil)) hn
theorem wWait {d mp i3 i4 : Nat} {c3 : List SV} (hs : Sel H [.ext i4 (MpA mp [⟨.int .i64 1009, .agg #[.int .i64 1, .int .i64 1], 0⟩] 1), .blk i3 d c3 81] R) (e3 : denL c3 = denL (DC 3 3 1 mp))
    (hn : ∀ z : Option Addr × Nat, nx (.v (.slice z.1 1 z.2)) (.ext 60 (SlA 3 1 z.1 1 z.2 [.int .i64 1009]) :: .ext i4 (MpA mp [⟨.int .i64 1009, .agg #[.int .i64 1, .int .i64 1], 0⟩] 1) :: .blk i3 d c3 81 :: R)) : CallK ⟨Tryz.prog, TB, nn, W, S, r, TBok⟩ 25 [.v (pv d)] H nx :=
  CallK.frL (v := fun z : Option Addr × Nat => .slice z.1 1 z.2) (L0 := [.ext 4 (MpA mp [⟨.int .i64 1009, .agg #[.int .i64 1, .int .i64 1], 0⟩] 1), .blk 3 d (DC 3 3 1 mp) 81]) hs (HSub.ext (fun _ _ h => h) (HSub.keep e3 HSub.nil)) (fun _ w _ => waiting25 (by omega) w)
    (M' := fun z => [.ext 60 (SlA 3 1 z.1 1 z.2 [.int .i64 1009]), .ext i4 (MpA mp [⟨.int .i64 1009, .agg #[.int .i64 1, .int .i64 1], 0⟩] 1), .blk i3 d c3 81]) (fun z => HSub.ext (fun _ _ h => h) (HSub.ext (fun _ _ h => h) (HSub.keep e3.symm HSub.nil))) hn
end
theorem wNum (w : World) : Pu Tryz.prog 38 #[.agg #[.int .i64 7, .int .i64 0, .int .i64 1, .int .i64 0, .bool false, .int .i64 1]] w (.tuple #[.int .i64 1009, .int .i64 0]) := numOk38 item701 w
theorem i9M (to : Int) : (List.drop ((0 : Int).toNat * 9) (qM to)).take 9 = denL [.v (.int .i64 10), .v (.int .i64 1), .v (.int .i64 to), .v (.int .i64 0), .v (.int .i64 0), .v (.int .i64 0), .v (.int .i64 1009), .v (.string qv), .v (.slice none 0 0)] := rfl
theorem wServe {w : World} {d mp : Nat} (hd : DAt w d 3 3 4 mp) (hka : KAt w) : Pu Tryz.prog 14 #[pv d, .agg #[.int .i64 10, .int .i64 1, .int .i64 3, .int .i64 0, .int .i64 0, .int .i64 0, .int .i64 1009, .string qv, .slice none 0 0], .nilFunc] w (.tuple #[.agg #[.int .i64 1, .int .i64 0, .int .i64 0, .int .i64 7, .int .i64 0, .int .i64 1, .string ⟨#[107]⟩, .int .i64 1, .int .i64 0, .string ⟨#[]⟩, .string ⟨#[]⟩, .int .i64 0, .string ⟨#[]⟩, .int .i64 0, .int .i64 0, .slice none 0 0, .int .i64 0, .int .i64 0, .int .i64 0, .int .i64 0, .bool false, .int .i64 0, .int .i64 0, .string ⟨#[]⟩], .agg #[.int .i64 0, .int .i64 0, .int .i64 0, .int .i64 0, .int .i64 0, .int .i64 0, .int .i64 0, .string ⟨#[]⟩, .slice none 0 0], .bool true, .bool false]) :=
  serveEff14 (s := 7) (t := 0) (p := 1) (g := 1) (k := ⟨#[107]⟩) (dl := 1) (f := 1) (to := 3) (num := 1009) eff701 (by omega) (by decide +kernel) (by decide) (by omega) (by unfold NumOk; omega) hd hka (by omega) (by omega) (by omega) (by decide) (by omega) (by omega) (by omega) (by rw [qvEq]; decide +kernel) (by rw [qvEq]; decide)
theorem wDone (w : World) : Pu Tryz.prog 40 #[.agg #[.int .i64 ((7 : Nat) : Int), .int .i64 ((0 : Nat) : Int), .int .i64 ((1 : Nat) : Int)]] w (.tuple #[.agg #[.int .i64 ((0 : Nat) : Int), .int .i64 8, .string ⟨#[]⟩], .bool true]) := by
  refine enter_sound TBok Tryz.func40 rfl rfl Tryz.ntmps40 [.agg [.v (.int .i64 7), .v (.int .i64 0), .v (.int .i64 1)]] (Kn.start w noS) rfl rfl ?_
  conv => whnf
  repeat' (first
 | with_reducible ((first | refine r_seq (fun KS hS => ?_) | (refine hS _ _ ?_; clear hS KS)))
 | ((with_reducible (first | refine r_region ?_ | refine r_ret ?_ | refine And.intro rfl ?_ | intro b)); conv => whnf))
  exact FinK.pu rfl
theorem wServeDone {w : World} {d mp : Nat} (hd : DAt w d 3 3 4 mp) (hka : KAt w) : Pu Tryz.prog 14 #[pv d, .agg #[.int .i64 10, .int .i64 1, .int .i64 3, .int .i64 0, .int .i64 0, .int .i64 0, .int .i64 1009, .string qv, .slice none 0 0], .func (.func 40) #[] #[]] w (.tuple #[.agg #[.int .i64 0, .int .i64 0, .int .i64 0, .int .i64 0, .int .i64 0, .int .i64 0, .string ⟨#[]⟩, .int .i64 0, .int .i64 0, .string ⟨#[]⟩, .string ⟨#[]⟩, .int .i64 0, .string ⟨#[]⟩, .int .i64 0, .int .i64 0, .slice none 0 0, .int .i64 0, .int .i64 0, .int .i64 0, .int .i64 0, .bool false, .int .i64 0, .int .i64 0, .string ⟨#[]⟩], .agg #[.int .i64 11, .int .i64 3, .int .i64 1, .int .i64 0, .int .i64 0, .int .i64 0, .int .i64 1009, .string rv, .slice none 0 0], .bool false, .bool true]) :=
  serveDoneEff14 (s := 7) (t := 0) (p := 1) (g := 1) (k := ⟨#[107]⟩) (dl := 1) (f := 1) (to := 3) (num := 1009) (e := 0) (rn := 8) (rx := ⟨#[]⟩) eff701 (by omega) (by decide +kernel) (by decide) (by omega) (by unfold NumOk; omega) hd hka (by omega) (by omega) (by omega) (by decide) (by omega) (by omega) (by omega) (by rw [qvEq]; decide +kernel) (by rw [qvEq]; decide) wDone (by omega) (by unfold NumOk; omega) (by decide) (by decide +kernel)
theorem wAnswer {w : World} {d bi mp : Nat} {S0 : Nat → Prop} (hd : Rdd w [.blk 9 bi itW 48, .blk 3 d (DC 3 3 4 mp) 81] S0) (hka : KAt w) : Pu Tryz.prog 31 #[pv d, .agg #[.int .i64 11, .int .i64 3, .int .i64 1, .int .i64 0, .int .i64 0, .int .i64 0, .int .i64 1009, .string rv, .slice none 0 0], .slice (some ⟨bi, 0, none⟩) 1 1] w (.tuple #[.agg #[.int .i64 15, .int .i64 0, .int .i64 0, .int .i64 0, .int .i64 0, .int .i64 0, .string ⟨#[]⟩, .int .i64 0, .int .i64 0, .string ⟨#[]⟩, .string ⟨#[]⟩, .int .i64 0, .string ⟨#[]⟩, .int .i64 0, .int .i64 0, .slice none 0 0, .int .i64 7, .int .i64 0, .int .i64 1, .int .i64 0, .bool false, .int .i64 1, .int .i64 0, .string ⟨#[]⟩], .bool true]) :=
  answerEff31 (s := 7) (t := 0) (p := 1) (g := 1) (k := ⟨#[107]⟩) (dl := 1) (f := 1) (to := 3) (num := 1009) (e := 0) (rn := 8) (rx := ⟨#[]⟩) eff701 (by omega) (by decide +kernel) (by decide) (by omega) (by unfold NumOk; omega) hd hka (by omega) (by omega) (by omega) (by decide) (by omega) (by omega) (by omega) (by omega) (by unfold NumOk; omega) (by decide) (by decide +kernel)
end Go.Proofs.YtbgnoibellfojaaGreatDoor

namespace Go.Proofs.YtbgnoibellfojaaGreatDoor
open Go Go.X
set_option maxRecDepth 100000
theorem in36 : InSt 36 Tryz.f36 4 := InSt.mk' Tryz.func36 rfl Tryz.ntmps36
theorem in44 : InSt 44 Tryz.f44 80 := InSt.mk' Tryz.func44 rfl Tryz.ntmps44
end Go.Proofs.YtbgnoibellfojaaGreatDoor

namespace Go.Proofs.YtbgnoibellfojaaGreatDoor
open Go Go.X
set_option maxRecDepth 100000
set_option maxHeartbeats 0
theorem Kn.rdSlc {W : World} {S : Nat → Prop} {ms : List Nat} {H : List Blk} {w : World} {i b t len k : Nat} {cs : List SV} (hk : Kn W S ms H w) (hm : .blk i b cs t ∈ H) (hl : cs.length = len * k) : RdS w t k (some ⟨b, 0, none⟩) len len (denL cs) :=
  ⟨fun x => x = b, slc_SlA hl ⟨rfl, hk.got hm⟩, fun _ hx => hx ▸ (Array.getElem?_eq_some_iff.1 (hk.got hm)).1⟩
theorem works10 {w : World} (hka : KAt w) : Pu Tryz.prog 10 #[] w (.bool true) := by
  refine enter_sound TBok Tryz.func10 rfl rfl Tryz.ntmps10 [] (Kn.start w noS) rfl rfl ?_
  conv => whnf
  repeat' (first
 | with_reducible refine r_stop 6 ?_
 | with_reducible ((first | refine r_seq (fun KS hS => ?_) | (refine hS _ _ ?_; clear hS KS) | (refine hB _ ?_; clear hB KB)))
 | ((with_reducible (first | refine r_region ?_ | refine r_cond (fun KA hA KB hB => ?_) | refine r_skip ?_ | refine And.intro rfl ?_ | intro b)); conv => whnf)
 | (refine wNew (fun z => ?_); conv => whnf)
 | ((with_reducible refine CallK.id ?_); refine CallK.pu (fun w => wNum w) ?_; conv => whnf)
 | with_reducible apply_assumption -symm -exfalso)
  refine ⟨?_⟩
  rename Nat => bi
  refine r_cut (α := Option Addr × Nat) (fun y => [(0, .v (.bool false)), (1, .v (pv z.1)), (3, .loc bi 4 0), (4, .v (.int .i64 1009)), (6, .v (.slice y.1 1 y.2))]) (fun y => [.ext 70 (SlA 26 9 y.1 1 y.2 (qM 3)), .blk 4 bi [.v (.int .i64 7), .v (.int .i64 0), .v (.int .i64 1), .v (.int .i64 0), .v (.bool false), .v (.int .i64 1)] 48, .ext 4 (MpA z.2 [⟨.int .i64 1009, .agg #[.int .i64 1, .int .i64 1], 0⟩] 1), .blk 3 z.1 (DC 3 3 1 z.2) 81]) (fun _ => True) ?_ ?_
  · intro KL hL
    repeat' (first
 | with_reducible ((first | refine r_seq (fun KS hS => ?_) | (refine hS _ _ ?_; clear hS KS)))
 | ((with_reducible (first | refine r_region ?_ | refine r_ret ?_ | refine And.intro rfl ?_ | intro b)); conv => whnf)
 | (apply r_any (id := 6); refine mixed; kernel_rfl; kernel_rfl; conv => whnf)
 | (apply in36; rfl; rfl; rfl; intro A; conv => whnf)
 | (refine wTickFirst (Sel.cons (by repeat (first | with_reducible apply Rm.head | apply Rm.tail)) (Sel.cons (by repeat (first | with_reducible apply Rm.head | apply Rm.tail)) (Sel.cons (by repeat (first | with_reducible apply Rm.head | apply Rm.tail)) (Sel.cons (by repeat (first | with_reducible apply Rm.head | apply Rm.tail)) Sel.nil)))) ?_ ?_ ?_ (fun y => ?_); rfl; rfl; rfl; conv => whnf)
 | (refine hL _ _ _ trivial (by repeat' (first | exact Sub.nil | (refine Sub.cons rfl rfl ?_))) (by (try dsimp only [List.cons_append, List.nil_append, den, denL]); refine SelI.spec ?_; (repeat (first | refine SelI.blk (by repeat (first | with_reducible apply Rm.head | apply Rm.tail)) ?_ | refine SelI.ext (by repeat (first | with_reducible apply Rm.head | apply Rm.tail)) ?_ | (refine SelI.blk' (by repeat (first | with_reducible apply Rm.head | apply Rm.tail)) ?_ ?_; focus rfl) | (refine SelI.ext' (by repeat (first | with_reducible apply Rm.head | apply Rm.tail)) ?_ ?_; focus rfl))); exact SelI.nil))
 | ((with_reducible ((first | refine InAt.mk (fun K' hK => ?_) | refine AnyAt.mk (fun K' hK => ?_) | (refine hK _ ?_; clear hK K') | (refine hK _ _ ?_; clear hK K')))); conv => whnf)
 | (refine And.intro ?_ ?_; all_goals (conv => whnf)))
  intro y _
  skip
  repeat' (first
 | with_reducible ((first | refine r_seq (fun KS hS => ?_) | (refine hS _ _ ?_; clear hS KS) | (refine hB _ ?_; clear hB KB) | refine r_block ?_))
 | ((with_reducible (first | refine r_region ?_ | refine r_cond (fun KA hA KB hB => ?_) | refine r_skip ?_ | intro b)); conv => whnf)
 | (refine wWait (Sel.cons (by repeat (first | with_reducible apply Rm.head | apply Rm.tail)) (Sel.cons (by repeat (first | with_reducible apply Rm.head | apply Rm.tail)) Sel.nil)) ?_ (fun q => ?_); rfl; conv => whnf)
 | ((with_reducible refine CallK.at 39 ?_); refine CallK.puW (fun ms w hk => equal39 (Sees.rd (Sees.ext (by repeat (first | with_reducible apply At.head | apply At.tail))) hk) (Kn.rdSlc hk (by repeat (first | constructor | apply List.Mem.tail)) rfl)) ?_; conv => whnf)
 | ((with_reducible refine OpK.id ?_); (first | refine OpK.idx (k := 9) rfl rfl rfl rfl rfl rfl rfl (Sees.ext (by repeat (first | with_reducible apply At.head | apply At.tail))) (by omega) (by omega) (i9M _) (fun b off hp => ?_) | refine OpK.fap rfl rfl (by assumption) ?_ | refine OpK.ldp rfl rfl (by assumption) (List.cons_ne_nil _ _) ?_); conv => whnf)
 | with_reducible apply_assumption -symm -exfalso)
  refine r_loop (α := Nat) (fun k => [(0, .v (.bool false)), (1, .v (pv z.1)), (3, .loc bi 4 0), (4, .v (.int .i64 1009)), (6, .v (.slice y.1 1 y.2)), (80, .v (.int .i64 k))]) (fun k => [.ext 70 (SlA 26 9 y.1 1 y.2 (qM 3)), .blk 4 bi [.v (.int .i64 7), .v (.int .i64 0), .v (.int .i64 1), .v (.int .i64 0), .v (.bool false), .v (.int .i64 1)] 48, .ext 4 (MpA z.2 [⟨.int .i64 1009, .agg #[.int .i64 1, .int .i64 1], 0⟩] 1), .blk 3 z.1 (DC 3 3 ((k : Int) + 1) z.2) 81]) (fun k => k ≤ 3) (fun k => 3 - k) 0 (by omega) (by repeat' (first | exact Sub.nil | (refine Sub.cons rfl rfl ?_))) (by (try dsimp only [List.cons_append, List.nil_append, den, denL]); refine SelI.spec ?_; (repeat (first | refine SelI.blk (by repeat (first | with_reducible apply Rm.head | apply Rm.tail)) ?_ | refine SelI.ext (by repeat (first | with_reducible apply Rm.head | apply Rm.tail)) ?_ | (refine SelI.blk' (by repeat (first | with_reducible apply Rm.head | apply Rm.tail)) ?_ ?_; focus rfl) | (refine SelI.ext' (by repeat (first | with_reducible apply Rm.head | apply Rm.tail)) ?_ ?_; focus rfl))); exact SelI.nil) ?_
  intro k hk KL hL
  by_cases hlt : k < 3
  · repeat' (first
 | with_reducible ((first | refine r_seq (fun KS hS => ?_) | (refine hS _ _ ?_; clear hS KS) | (refine hA _ ?_; clear hA KA) | (refine hB _ ?_; clear hB KB) | refine r_block ?_))
 | ((with_reducible (first | refine r_region ?_ | refine r_cond (fun KA hA KB hB => ?_) | refine r_ret ?_ | refine r_skip ?_ | refine And.intro rfl ?_ | intro b)); conv => whnf)
 | ((with_reducible refine WrapK.i64 ?_ ?_); (focus omega); conv => whnf)
 | (apply r_any (id := 11); refine mixed; kernel_rfl; kernel_rfl; conv => whnf)
 | (apply in36; rfl; rfl; rfl; intro A; conv => whnf)
 | (refine wTickNot (tk := (k : Int) + 1) (by omega) (Sel.cons (by repeat (first | with_reducible apply Rm.head | apply Rm.tail)) (Sel.cons (by repeat (first | with_reducible apply Rm.head | apply Rm.tail)) (Sel.cons (by repeat (first | with_reducible apply Rm.head | apply Rm.tail)) (Sel.cons (by repeat (first | with_reducible apply Rm.head | apply Rm.tail)) Sel.nil)))) ?_ ?_ ?_ (fun y => ?_); rfl; rfl; rfl; conv => whnf)
 | (refine hL (k + 1) _ _ (by omega) (by omega) (by repeat' (first | exact Sub.nil | (refine Sub.cons rfl rfl ?_))) (by (try dsimp only [List.cons_append, List.nil_append, den, denL]); refine SelI.spec ?_; (repeat (first | refine SelI.blk (by repeat (first | with_reducible apply Rm.head | apply Rm.tail)) ?_ | refine SelI.ext (by repeat (first | with_reducible apply Rm.head | apply Rm.tail)) ?_ | (refine SelI.blk' (by repeat (first | with_reducible apply Rm.head | apply Rm.tail)) ?_ ?_; focus rfl) | (refine SelI.ext' (by repeat (first | with_reducible apply Rm.head | apply Rm.tail)) ?_ ?_; focus rfl))); exact SelI.nil))
 | ((with_reducible ((first | refine InAt.mk (fun K' hK => ?_) | refine AnyAt.mk (fun K' hK => ?_) | (refine hK _ ?_; clear hK K') | (refine hK _ _ ?_; clear hK K')))); conv => whnf)
 | (refine And.intro ?_ ?_; all_goals (conv => whnf))
 | (refine if_decT (by omega) ?_; conv => whnf)
 | with_reducible apply_assumption -symm -exfalso)
  obtain rfl : k = 3 := by omega
  repeat' (first
 | with_reducible ((first | refine r_seq (fun KS hS => ?_) | (refine hS _ _ ?_; clear hS KS) | (refine hB _ ?_; clear hB KB)))
 | ((with_reducible (first | refine r_region ?_ | refine r_cond (fun KA hA KB hB => ?_) | refine r_ret ?_ | refine r_exit ?_ | refine And.intro rfl ?_ | intro b)); conv => whnf)
 | ((with_reducible refine CallK.id ?_); (first | refine CallK.puW (fun ms w hk => wServe (hk.got (by repeat (first | constructor | apply List.Mem.tail))) (hka.now (fun h => h) hk)) ?_ | refine CallK.puW (fun ms w hk => wServeDone (hk.got (by repeat (first | constructor | apply List.Mem.tail))) (hka.now (fun h => h) hk)) ?_ | (refine CallK.puW (fun ms w hk => (Kn.rdd hk (L := [.blk 9 _ itW 48, .blk 3 _ (DC 3 3 4 _) 81]) trivial (by (try dsimp only [List.cons_append, List.nil_append, den, denL]); refine SelI.spec ?_; (repeat (first | refine SelI.blk (by repeat (first | with_reducible apply Rm.head | apply Rm.tail)) ?_ | refine SelI.ext (by repeat (first | with_reducible apply Rm.head | apply Rm.tail)) ?_ | (refine SelI.blk' (by repeat (first | with_reducible apply Rm.head | apply Rm.tail)) ?_ ?_; focus rfl) | (refine SelI.ext' (by repeat (first | with_reducible apply Rm.head | apply Rm.tail)) ?_ ?_; focus rfl))); exact SelI.nil)).elim fun S' h => wAnswer h (hka.now (fun h => h) hk)) ?_)); conv => whnf)
 | (apply r_any (id := 17); refine mixed; kernel_rfl; kernel_rfl; conv => whnf)
 | (apply in36; rfl; rfl; rfl; intro A; conv => whnf)
 | (refine wTickAgain (Sel.cons (by repeat (first | with_reducible apply Rm.head | apply Rm.tail)) (Sel.cons (by repeat (first | with_reducible apply Rm.head | apply Rm.tail)) (Sel.cons (by repeat (first | with_reducible apply Rm.head | apply Rm.tail)) (Sel.cons (by repeat (first | with_reducible apply Rm.head | apply Rm.tail)) Sel.nil)))) ?_ ?_ ?_ (fun y => ?_); rfl; rfl; rfl; conv => whnf)
 | ((with_reducible refine OpK.id ?_); (first | refine OpK.idx (k := 9) rfl rfl rfl rfl rfl rfl rfl (Sees.ext (by repeat (first | with_reducible apply At.head | apply At.tail))) (by omega) (by omega) (i9M _) (fun b off hp => ?_) | refine OpK.fap rfl rfl (by assumption) ?_ | refine OpK.ldp rfl rfl (by assumption) (List.cons_ne_nil _ _) ?_); conv => whnf)
 | ((with_reducible apply OpK.more); (focus refine sok); (conv => whnf); fail_if_success guard_target =ₛ False)
 | ((with_reducible ((first | refine InAt.mk (fun K' hK => ?_) | refine AnyAt.mk (fun K' hK => ?_) | (refine hK _ ?_; clear hK K') | (refine hK _ _ ?_; clear hK K')))); conv => whnf)
 | (refine And.intro ?_ ?_; all_goals (conv => whnf))
 | with_reducible apply_assumption -symm -exfalso)
  all_goals exact FinK.pu rfl
end Go.Proofs.YtbgnoibellfojaaGreatDoor

namespace Go.Proofs.YtbgnoibellfojaaGreatDoor
open Go Go.X Go.ChangeShapes Go.WideShapes Go.RowKit
set_option maxRecDepth 100000
set_option maxHeartbeats 0
section
variable {H : Type} {enc : TypeId × Value → H} {w : World} {base : Nat} {sp : Nat → Bool} {held : Bool}
theorem kind_cells {fuel : Nat} {cs : List Value} {b : List UInt8} {a1 a2 a3 a4 : Int} {p : List MemPlace} (h : DataW.trod enc Tryz.prog w base sp held fuel 179 cs = some (.agg [.lit (.string b), .lit (.int .i64 a1), .lit (.int .i64 a2), .lit (.int .i64 a3), .lit (.int .i64 a4)], p)) :
    cs = [.string ⟨b.toArray⟩, .int .i64 a1, .int .i64 a2, .int .i64 a3, .int .i64 a4] := by
  obtain ⟨xs, n, rfl, hx, hl, hxl, hall⟩ := DataW.trod_struct Tryz.underlying179 h
  have hC : Tryz.prog.cellsOf 179 = 5 := by kernel_rfl
  have hC9 : Tryz.prog.cellsOf 9 = 1 := by kernel_rfl
  have hC3 : Tryz.prog.cellsOf 3 = 1 := by kernel_rfl
  rw [hC] at hl
  match cs, hl with
  | [c0, c1, c2, c3, c4], _ =>
  match xs, hxl with
  | [y0, y1, y2, y3, y4], _ =>
  have q0 := hall 0 _ rfl
  have e0 : DataW.trod enc Tryz.prog w base sp held n 9 (([c0, c1, c2, c3, c4].drop 0).take (Tryz.prog.cellsOf 9)) = some y0 := q0
  rw [hC9] at e0
  have q1 := hall 1 _ rfl
  have e1 : DataW.trod enc Tryz.prog w base sp held n 3 (([c0, c1, c2, c3, c4].drop 1).take (Tryz.prog.cellsOf 3)) = some y1 := q1
  rw [hC3] at e1
  have q2 := hall 2 _ rfl
  have e2 : DataW.trod enc Tryz.prog w base sp held n 3 (([c0, c1, c2, c3, c4].drop 2).take (Tryz.prog.cellsOf 3)) = some y2 := q2
  rw [hC3] at e2
  have q3 := hall 3 _ rfl
  have e3 : DataW.trod enc Tryz.prog w base sp held n 3 (([c0, c1, c2, c3, c4].drop 3).take (Tryz.prog.cellsOf 3)) = some y3 := q3
  rw [hC3] at e3
  have q4 := hall 4 _ rfl
  have e4 : DataW.trod enc Tryz.prog w base sp held n 3 (([c0, c1, c2, c3, c4].drop 4).take (Tryz.prog.cellsOf 3)) = some y4 := q4
  rw [hC3] at e4
  obtain ⟨s, f0, g0, _⟩ := DataW.trod_string Tryz.underlying9 e0
  obtain ⟨z1, f1, g1, _⟩ := DataW.trod_int Tryz.underlying3 e1
  obtain ⟨z2, f2, g2, _⟩ := DataW.trod_int Tryz.underlying3 e2
  obtain ⟨z3, f3, g3, _⟩ := DataW.trod_int Tryz.underlying3 e3
  obtain ⟨z4, f4, g4, _⟩ := DataW.trod_int Tryz.underlying3 e4
  subst g0 g1 g2 g3 g4
  simp only [List.drop_zero, List.take_succ_cons, List.take_zero, List.drop_succ_cons, List.cons.injEq, and_true] at f0 f1 f2 f3 f4
  subst f0 f1 f2 f3 f4
  simp only [List.map_cons, List.map_nil, Prod.mk.injEq, DataW.agg.injEq, List.cons.injEq, DataW.lit.injEq, Lit.string.injEq, Lit.int.injEq, true_and, and_true] at hx
  obtain ⟨⟨rfl, rfl, rfl, rfl, rfl⟩, _⟩ := hx
  rfl
end
theorem KAt.of_laid {W : World} (h : laidMetH Tryz.prog Rows.driveNilRow.laid W) : KAt W := by
  rw [MakeChecks.laidMetH_plain _ _ _ (by kernel_rfl)] at h
  obtain ⟨g, t, cs, fuel, p, h1, h2, h3, h4⟩ := Lib.laidMet.reads h (n := "skald/msg.kinds") (d := Rows.laid_skald_msg_kinds) (by simp [Rows.driveNilRow])
  obtain rfl : 0 = g := Option.some.inj ((show Tryz.prog.globalNamed "skald/msg.kinds" = some 0 by kernel_rfl).symm.trans h1)
  obtain rfl : 225 = t := Option.some.inj ((show (Tryz.prog.globals[0]?).map (·.type) = some 225 by kernel_rfl).symm.trans h2)
  have hC : Tryz.prog.cellsOf 179 = 5 := by kernel_rfl
  obtain ⟨xs, m, rfl, hx, hl, hxl, hall⟩ := DataW.trod_array Tryz.underlying225 h4
  rw [hC] at hall
  have hx1 : xs.map (·.1) = _ := (DataW.agg.inj (Prod.mk.inj hx).1).symm
  have part : ∀ i (hi : i < 12) {b : List UInt8} {a1 a2 a3 a4 : Int}, (xs.map (·.1))[i]? = some (.agg [.lit (.string b), .lit (.int .i64 a1), .lit (.int .i64 a2), .lit (.int .i64 a3), .lit (.int .i64 a4)]) →
      (cs.toList.drop (i * 5)).take 5 = [.string ⟨b.toArray⟩, .int .i64 a1, .int .i64 a2, .int .i64 a3, .int .i64 a4] := by
    intro i hi b a1 a2 a3 a4 he
    rw [List.getElem?_map, Option.map_eq_some_iff] at he
    obtain ⟨y, hy, hy1⟩ := he
    have := hall i hi
    rw [hy] at this
    obtain ⟨yd, yp⟩ := y
    subst hy1
    exact kind_cells this
  have p10 := part 10 (by omega) (by rw [hx1]; rfl)
  have p11 := part 11 (by omega) (by rw [hx1]; rfl)
  unfold World.var? at h3
  rw [show Tryz.prog.globalNamed "skald/msg.kinds" = some 0 by kernel_rfl] at h3
  simp only [Option.bind_some] at h3
  split at h3
  · rename_i C t f hh
    cases h3
    have at5 : ∀ k (l : List Value), (cs.toList.drop k).take 5 = l → ∀ j v, l[j]? = some v → cs[k + j]? = some v := by
      intro k l e j v hv
      rw [← e, List.getElem?_take] at hv
      split at hv
      · rw [List.getElem?_drop, Array.getElem?_toList] at hv; exact hv
      · cases hv
    exact ⟨(Array.getElem?_eq_some_iff.1 hh).1, cs, t, f, hh, at5 50 _ p10, at5 55 _ p11⟩
  · cases h3
section
variable {H : Type} {enc : TypeId × Value → H} {P : Program}
theorem post_of_below {f : Func} {s : ChangeSpec} {apart fresh handsOn again : Bool} {W W' : World} {args : Array Value} {v : Value} {ds gs : List (DataW H)} {before pa pv : List MemPlace}
    (hW : DataW.Whole enc P f.params.toList s.vars apart W args.toList ds gs before)
    (hres : ∀ (b : Nat) (sp : Nat → Bool) (hd : Bool), DataW.TrodAll enc P W' b sp hd f.resultTypes.toList (v.resultList f.resultTypes.size) (s.fn H (ds ++ gs)).results [])
    (hargs : ∀ sp : Nat → Bool, (∀ p ∈ before, sp p.block = true) → DataW.TrodAll enc P W' 0 sp true f.params.toList args.toList (s.fn H (ds ++ gs)).args pa)
    (hvars : ∀ sp : Nat → Bool, (∀ p ∈ before, sp p.block = true) → DataW.TrodVars enc P W' sp s.vars (s.fn H (ds ++ gs)).vars pv)
    (hps : before = pa ++ pv) (hb : Below W.heap.size W W')
    (hok : ∀ (j : Nat) (t : TypeId) (r : Value), f.resultTypes[j]? = some t → (v.resultList f.resultTypes.size)[j]? = some r → Value.okWide P W' .any 0 t r) :
    s.post enc P f apart fresh handsOn again W args v W' := by
  have hlt : ∀ p ∈ before, p.block < W.heap.size := fun p hp => hW.lt p hp
  have hold : ∀ p ∈ before, (fun b => decide (b < W.heap.size)) p.block = true := fun p hp => by simpa using hlt p hp
  refine ⟨ds, gs, before, [], pa, pv, hW, hres _ _ _, hargs _ hold, hvars _ hold, World.keptBut_mono (fun p hp => ⟨hp, ?_⟩) (hb.frame (· ∈ before)), fun _ => ?_⟩
  · rw [hps, List.mem_append] at hp
    exact Or.inr hp
  · obtain ⟨_, _, _, _, _, hz, hn⟩ := hW
    refine ⟨hok, _, _, ([] ++ pa) ++ pv, ⟨[] ++ pa, pv, trodAll_append (hargs _ (fun _ _ => rfl)) (hres _ _ _), hvars _ (fun _ _ => rfl), rfl, ?_, ?_⟩, ?_⟩
    · intro b off hp
      have hin : MemPlace.cell b off ∈ before := by rw [hps]; simpa using hp
      rw [hb.frozen (hlt _ hin)]
      exact hz b off hin
    · intro ha
      have := hn ha
      rw [hps] at this
      simpa using this
    · intro p hp _
      rw [hps]
      simpa using hp
end
theorem and_t {a b : Bool} (h : a = true) (h' : b = true) : (a && b) = true := by rw [h, h']; rfl
theorem own : ownKnob Tryz.prog.godebug = none := by kernel_rfl
theorem laidOut : laidOutB Tryz.prog = true := by kernel_rfl
section
variable {H : Type} {enc : TypeId × Value → H} {P : Program} {W W' : World} {sp : Nat → Bool}
theorem trodAll_below (hl : laidOutB P = true) (hb : Below W.heap.size W W') : ∀ {ts : List TypeId} {vs : List Value} {ds : List (DataW H)} {ps : List MemPlace}, (ts.all fun t => P.readableRec t && decide (t < P.types.size)) = true →
    DataW.TrodAll enc P W 0 (fun _ => true) true ts vs ds ps → (∀ x ∈ ps, x.block < W.heap.size) → (∀ x ∈ ps, sp x.block = true) → DataW.TrodAll enc P W' 0 sp true ts vs ds ps := by
  intro ts
  induction ts with
  | nil =>
    intro vs ds ps _ h _ _
    obtain ⟨rfl, rfl, rfl⟩ := trodAll_nil h
    rfl
  | cons t ts ih =>
    intro vs ds ps hr h hlt hsp
    obtain ⟨v, vs', d, ds', p, q, rfl, rfl, rfl, h1, h2⟩ := trodAll_cons h
    rw [List.all_cons, Bool.and_eq_true, Bool.and_eq_true] at hr
    exact trodAll_cons_mk (WideElems.Trod_stays hl hr.1.1 (of_decide_eq_true hr.1.2) h1 (fun x hx => hb.same (hlt x (List.mem_append_left _ hx))) (fun x hx => hsp x (List.mem_append_left _ hx)))
      (ih hr.2 h2 (fun x hx => hlt x (List.mem_append_right _ hx)) (fun x hx => hsp x (List.mem_append_right _ hx)))
/-- A LAW's END: it answered true, and nothing that stood ahead of it has turned. -/
theorem law_post {f : Func} {s : ChangeSpec} {t4 : TypeId} {args : Array Value} {ds gs : List (DataW H)} {before : List MemPlace} (hl : laidOutB P = true) (h4 : P.underlying t4 = some .bool)
    (hr : (f.params.toList.all fun t => P.readableRec t && decide (t < P.types.size)) = true) (hres : f.resultTypes = #[t4]) (hv : s.vars = [])
    (hW : DataW.Whole enc P f.params.toList s.vars false W args.toList ds gs before) (hfn : s.fn H (ds ++ gs) = { results := [.lit (.bool true)], args := ds }) (hb : Below W.heap.size W W') :
    s.post enc P f false true false false W args (.bool true) W' := by
  have hlt : ∀ p ∈ before, p.block < W.heap.size := fun p hp => hW.lt p hp
  have hW2 := hW
  obtain ⟨p, q, hA, hV, hbef, _⟩ := hW2
  rw [hv] at hV
  obtain ⟨_, rfl⟩ := trodVars_none hV
  have hfa : (s.fn H (ds ++ gs)).args = ds := by rw [hfn]
  have hfr : (s.fn H (ds ++ gs)).results = [.lit (.bool true)] := by rw [hfn]
  have hfv : (s.fn H (ds ++ gs)).vars = [] := by rw [hfn]
  refine post_of_below (pa := p) (pv := []) hW (fun b sp hd => ?_) (fun sp hsp => ?_) (fun sp _ => ?_) hbef hb (ok_one hres rfl (okWide_bool_mk h4 _))
  · rw [hfr, hres]; exact trodAll_mk1 (shut_bool h4 _)
  · rw [hfa]
    exact trodAll_below hl hb hr hA (fun x hx => hlt x (by rw [hbef]; exact List.mem_append_left _ hx)) (fun x hx => hsp x (by rw [hbef]; exact List.mem_append_left _ hx))
  · rw [hfv, hv]; rfl
end
theorem metAll (os : Os) (args : Array Value) : laidMetH Tryz.prog Rows.driveNilRow.laid ((World.laidAll Tryz.prog os Rows.driveNilRow.laid).forCall (fun _ _ => 0) ⟨#[], args, []⟩).memory := by
  rw [MakeChecks.laidMetH_plain _ _ _ (by kernel_rfl)]; exact laidMet_laidAll _ (by kernel_rfl) (by kernel_rfl)
end Go.Proofs.YtbgnoibellfojaaGreatDoor

namespace Go.Proofs.YtbgnoibellfojaaGreatDoor
open Go Go.X Go.ChangeShapes Go.WideShapes Go.RowKit
theorem wf_u8 {n : Int} (h : (Lit.int .u8 n).wf = true) : 0 ≤ n ∧ n ≤ 255 := by
  simp [Lit.wf, IntKind.min, IntKind.max, IntKind.signed, IntKind.bits] at h; omega
end Go.Proofs.YtbgnoibellfojaaGreatDoor

namespace Go.X
open Go
theorem OpK.idxX {c : Cx} {o : Oper} {E : Env} {H : List Blk} {nx : K1} {t e : Nat} {x ix : Operand} {ti j : TI} (ho : o.op = .indexAddr t x ix) {b off n cap : Nat} {q : IntKind} {z : Int} (hx : opd E x = some (.v (.slice (some ⟨b, off, none⟩) n cap))) (hi : opd E ix = some (.v (.int q z)))
    (hti : c.T.get t = some ti) (hd : ti.desc = .slice e) (hj : c.T.get e = some j) {k : Nat} (hkk : j.size = k) (h0 : 0 ≤ z) (hlt : z < n)
    (h : nx (.v (.pointer (some ⟨b, off + z.toNat * k, none⟩))) H) : OpK c o E H nx := by
  subst hkk
  have hnd : ∀ cl, o.op ≠ .defer cl := by rw [ho]; intro cl e; cases e
  refine OpK.val hnd _ (fun ms ac w hac hk => ?_) h
  have hu := (c.ok t ti hti).1
  rw [hd] at hu
  have e1 := hac.opd hx
  have e2 := hac.opd hi
  simp only [den] at e1 e2
  simp [execOp, ho, e1, e2, Instr.indexAt, asIntOf, run_underlying hu, r_sizeOf (c.ok e j hj) w, hlt, h0, add_none, den]
theorem HSub.emp {i : Nat} (H : List Blk) : HSub [.ext i emp] H := fun _ _ _ =>
  ⟨fun _ => False ∨ False, .cons (x := .ext i X.emp) (S := fun _ => False) (fun _ h => h) (fun _ h => h.elim) .nil (fun _ h _ => h), fun _ hk => (hk.elim id id).elim⟩
end Go.X
namespace Go.Proofs.YtbgnoibellfojaaGreatDoor
open Go Go.X
set_option maxRecDepth 100000
set_option maxHeartbeats 0
/-- the entries of a list that came in -/
def EntAt (w : World) (a : Option Addr) (n : Nat) : Prop :=
  n = 0 ∨ ∃ b off C t f, a = some ⟨b, off, none⟩ ∧ w.heap[b]? = some (.cells C t f) ∧ ∀ i, i < n → ∃ (s r nd : Int) (v : ByteArray), v.size ≤ 9223372036854775807 ∧ ∀ j u, (denL [.v (.int .i64 s), .v (.int .i64 r), .v (.int .i64 nd), .v (.string v)])[j]? = some u → C[off + i * 4 + j]? = some u
theorem EntAt.pc {W : World} {a : Option Addr} {n : Nat} (h : EntAt W a n) (hn : 0 < n) : ∃ b off, a = some ⟨b, off, none⟩ ∧ ∀ i, i < n → ∃ (s r nd : Int) (v : ByteArray), v.size ≤ 9223372036854775807 ∧ ∀ (nt : Nat) (rr : Option Nat) (H : List Blk), PC ⟨Tryz.prog, TB, nt, W, noS, rr, TBok⟩ H b (off + i * 4) [.v (.int .i64 s), .v (.int .i64 r), .v (.int .i64 nd), .v (.string v)] := by
  rcases h with rfl | ⟨b, off, C, t, f, rfl, h1, h2⟩
  · omega
  refine ⟨b, off, rfl, fun i hi => ?_⟩
  obtain ⟨s, r, nd, v, h0, h3⟩ := h2 i hi
  refine ⟨s, r, nd, v, h0, fun nt rr H ms w hk => ⟨C, t, f, ?_, h3⟩⟩
  rw [Kn0.old hk b (Array.getElem?_eq_some_iff.1 h1).1 (fun h => h)]
  exact h1
theorem few9 {w : World} {k f t br bn sl nu : Int} {v : ByteArray} {a : Option Addr} {n cap : Nat} (hv : v.size ≤ 9223372036854775807) (h : EntAt w a n) (hn : n ≤ 9223372036854775807) :
    FrZ Tryz.prog 9 #[.agg #[.int .i64 k, .int .i64 f, .int .i64 t, .int .i64 br, .int .i64 bn, .int .i64 sl, .int .i64 nu, .string v, .slice a n cap]] w emp (fun b : Bool => .bool b) (fun _ => emp) := by
  refine enter_frZ TBok (H := []) emp_foot Tryz.func9 rfl rfl Tryz.ntmps9 [.agg [.v (.int .i64 k), .v (.int .i64 f), .v (.int .i64 t), .v (.int .i64 br), .v (.int .i64 bn), .v (.int .i64 sl), .v (.int .i64 nu), .v (.string v), .v (.slice a n cap)]] rfl rfl ?_
  intro S hS _
  obtain rfl : S = noS := by funext k; exact propext ⟨fun h => hS k h, fun h => h.elim⟩
  conv => whnf
  repeat' (first
 | with_reducible ((first | refine r_seq (fun KS hS => ?_) | (refine hS _ _ ?_; clear hS KS) | (refine hA _ ?_; clear hA KA) | (refine hB _ ?_; clear hB KB) | refine r_block ?_))
 | ((with_reducible (first | refine r_region ?_ | refine r_cond (fun KA hA KB hB => ?_) | refine r_ret ?_ | refine r_skip ?_ | refine And.intro rfl ?_ | intro b)); conv => whnf)
 | (refine if_dec (fun h => ?_) (fun h => ?_); all_goals (conv => whnf))
 | with_reducible apply_assumption -symm -exfalso)
  · exact FinK.frZ (i := 0) false rfl (HSub.emp _)
  refine r_loop (α := Nat × Int) (fun p => [(2, .v (.bool false)), (3, .v (.int .i64 p.2)), (14, .v (.slice a n cap)), (15, .v (.int .i64 n)), (16, .v (.int .i64 p.1))]) (fun _ => []) (fun p => p.1 ≤ n) (fun p => n - p.1) (0, _) (Nat.zero_le _) (by repeat' (first | exact Sub.nil | (refine Sub.cons rfl rfl ?_))) (HSub.none _) ?_
  rintro ⟨i, x⟩ hi KL hL
  dsimp only at hi
  by_cases hlt : i < n
  · obtain ⟨b, off, rfl, hp⟩ := EntAt.pc ‹_› (by omega)
    obtain ⟨s, r, nd, v', hv', hp⟩ := hp i hlt
    repeat' (first
 | with_reducible ((first | refine r_seq (fun KS hS => ?_) | (refine hS _ _ ?_; clear hS KS) | (refine hA _ ?_; clear hA KA) | refine r_block ?_))
 | ((with_reducible (first | refine r_region ?_ | refine r_cond (fun KA hA KB hB => ?_) | refine r_skip ?_ | refine And.intro rfl ?_ | intro b)); conv => whnf)
 | ((with_reducible refine WrapK.i64 ?_ ?_); (focus omega); conv => whnf)
 | ((with_reducible refine OpK.id ?_); (first | refine OpK.idxX (k := 4) rfl rfl rfl rfl rfl rfl rfl (by omega) (by omega) ?_ | refine OpK.ldp rfl rfl (hp _ _ _) (List.cons_ne_nil _ _) ?_); conv => whnf)
 | ((with_reducible refine WrapK.id ?_); refine WrapK.raw ?_; conv => whnf)
 | (refine hL (i + 1, _) _ _ (by show i + 1 ≤ n; omega) (by show n - (i + 1) < n - i; omega) (by repeat' (first | exact Sub.nil | (refine Sub.cons rfl rfl ?_))) (HSub.none _))
 | (refine if_decT (by omega) ?_; conv => whnf)
 | with_reducible apply_assumption -symm -exfalso)
  obtain rfl : i = n := by omega
  repeat' (first
 | with_reducible ((first | refine r_seq (fun KS hS => ?_) | (refine hS _ _ ?_; clear hS KS) | (refine hB _ ?_; clear hB KB)))
 | ((with_reducible (first | refine r_region ?_ | refine r_cond (fun KA hA KB hB => ?_) | refine r_ret ?_ | refine r_exit ?_)); conv => whnf)
 | (refine if_decF (by omega) ?_; conv => whnf)
 | with_reducible apply_assumption -symm -exfalso)
  exact FinK.frZ (i := 0) _ rfl (HSub.emp _)
end Go.Proofs.YtbgnoibellfojaaGreatDoor

namespace Go.Proofs.YtbgnoibellfojaaGreatDoor
open Go Go.X Go.ChangeShapes Go.WideShapes Go.RowKit
set_option maxRecDepth 100000
set_option maxHeartbeats 0
section
variable {H : Type} {enc : TypeId × Value → H} {w : World} {sp : Nat → Bool}
theorem bal_cells {fuel : Nat} {cs : List Value} {x : DataW H × List MemPlace} (h : DataW.trod enc Tryz.prog w 0 sp true fuel 23 cs = some x) : ∃ a b : Int, cs = [.int .i64 a, .int .i64 b] := by
  obtain ⟨xs, n, rfl, hx, hl, hxl, hall⟩ := DataW.trod_struct Tryz.underlying23 h
  have hC : Tryz.prog.cellsOf 23 = 2 := by kernel_rfl
  rw [hC] at hl
  match cs, hl with
  | [c0, c1], _ =>
  match xs, hxl with
  | [y0, y1], _ =>
  have q0 := hall 0 _ rfl
  have e0 : DataW.trod enc Tryz.prog w 0 sp true n 3 (([c0, c1].drop 0).take (Tryz.prog.cellsOf 3)) = some y0 := q0
  rw [show Tryz.prog.cellsOf 3 = 1 by kernel_rfl] at e0
  obtain ⟨z0, f0, _, _⟩ := DataW.trod_int Tryz.underlying3 e0
  simp only [List.drop_zero, List.take_succ_cons, List.take_zero, List.drop_succ_cons, List.cons.injEq, and_true] at f0
  have q1 := hall 1 _ rfl
  have e1 : DataW.trod enc Tryz.prog w 0 sp true n 3 (([c0, c1].drop 1).take (Tryz.prog.cellsOf 3)) = some y1 := q1
  rw [show Tryz.prog.cellsOf 3 = 1 by kernel_rfl] at e1
  obtain ⟨z1, f1, _, _⟩ := DataW.trod_int Tryz.underlying3 e1
  simp only [List.drop_zero, List.take_succ_cons, List.take_zero, List.drop_succ_cons, List.cons.injEq, and_true] at f1
  subst f0 f1
  exact ⟨_, _, rfl⟩
theorem ent_cells {fuel : Nat} {cs : List Value} {x : DataW H × List MemPlace} (h : DataW.trod enc Tryz.prog w 0 sp true fuel 87 cs = some x) : ∃ (a b c : Int) (v : ByteArray), cs = [.int .i64 a, .int .i64 b, .int .i64 c, .string v] ∧ v.size ≤ maxLen := by
  obtain ⟨xs, n, rfl, hx, hl, hxl, hall⟩ := DataW.trod_struct Tryz.underlying87 h
  have hC : Tryz.prog.cellsOf 87 = 4 := by kernel_rfl
  rw [hC] at hl
  match cs, hl with
  | [c0, c1, c2, c3], _ =>
  match xs, hxl with
  | [y0, y1, y2], _ =>
  have q0 := hall 0 _ rfl
  have e0 : DataW.trod enc Tryz.prog w 0 sp true n 3 (([c0, c1, c2, c3].drop 0).take (Tryz.prog.cellsOf 3)) = some y0 := q0
  rw [show Tryz.prog.cellsOf 3 = 1 by kernel_rfl] at e0
  obtain ⟨z0, f0, _, _⟩ := DataW.trod_int Tryz.underlying3 e0
  simp only [List.drop_zero, List.take_succ_cons, List.take_zero, List.drop_succ_cons, List.cons.injEq, and_true] at f0
  have q1 := hall 1 _ rfl
  have e1 : DataW.trod enc Tryz.prog w 0 sp true n 23 (([c0, c1, c2, c3].drop 1).take (Tryz.prog.cellsOf 23)) = some y1 := q1
  rw [show Tryz.prog.cellsOf 23 = 2 by kernel_rfl] at e1
  obtain ⟨za, zb, f1⟩ := bal_cells e1
  simp only [List.drop_zero, List.take_succ_cons, List.take_zero, List.drop_succ_cons, List.cons.injEq, and_true] at f1
  have q2 := hall 2 _ rfl
  have e2 : DataW.trod enc Tryz.prog w 0 sp true n 9 (([c0, c1, c2, c3].drop 3).take (Tryz.prog.cellsOf 9)) = some y2 := q2
  rw [show Tryz.prog.cellsOf 9 = 1 by kernel_rfl] at e2
  obtain ⟨z2, f2, _, g2⟩ := DataW.trod_string Tryz.underlying9 e2
  simp only [List.drop_zero, List.take_succ_cons, List.take_zero, List.drop_succ_cons, List.cons.injEq, and_true] at f2
  obtain ⟨rfl, rfl⟩ := f1
  subst f0 f2
  exact ⟨_, _, _, _, rfl, g2⟩
theorem list_ent {fuel : Nat} {cs : List Value} {x : DataW H × List MemPlace} (h : DataW.trod enc Tryz.prog w 0 sp true fuel 24 cs = some x) : ∃ (a : Option Addr) (n cap : Nat), cs = [.slice a n cap] ∧ EntAt w a n ∧ n ≤ maxLen := by
  rcases Go.Deep.open_slice Tryz.underlying24 h with ⟨rfl, _⟩ | ⟨a, len, cap, m, n, D, Pl, rfl, _, hl, hm, hmm, _, hi⟩
  · exact ⟨none, 0, 0, rfl, .inl rfl, Nat.zero_le _⟩
  refine ⟨some a, len, cap, rfl, ?_, Nat.le_trans hl hm⟩
  by_cases h0 : len = 0
  · exact .inl h0
  have hlm : len ≤ m := by rw [hmm]; split <;> omega
  rw [show Tryz.prog.cellsOf 87 = 4 by kernel_rfl] at hi
  have cell : ∀ i, i < len → ∃ (s r nd : Int) (v : ByteArray), v.size ≤ maxLen ∧ ∀ j u, [Value.int .i64 s, .int .i64 r, .int .i64 nd, .string v][j]? = some u → w.cell? ((a.add (i * 4)).add j) = some u := by
    intro i hil
    obtain ⟨cs', hc, ht⟩ := hi i (by omega)
    obtain ⟨s, r, nd, v, rfl, hv⟩ := ent_cells ht
    obtain ⟨_, hcl, hat⟩ := World.cells?_some hc
    refine ⟨s, r, nd, v, hv, fun j u hu => ?_⟩
    have hj : j < 4 := (List.getElem?_eq_some_iff.1 hu).1
    rw [hat j hj]
    exact hu
  have spot0 : a.spot = none ∧ ∃ C t f, w.heap[a.block]? = some (.cells C t f) := by
    obtain ⟨s, _, _, _, _, hc⟩ := cell 0 (by omega)
    have := hc 0 _ rfl
    simp only [Nat.zero_mul, Addr.add, if_pos] at this
    unfold World.cell? at this
    split at this
    · rename_i C t f hh
      split at this
      · cases this
      · rename_i hs
        exact ⟨by simpa using hs, C, t, f, hh⟩
    · cases this
  obtain ⟨hs, C, t, f, hh⟩ := spot0
  obtain ⟨b, off, sp⟩ := a
  dsimp only at hs hh
  subst hs
  refine .inr ⟨b, off, C, t, f, rfl, hh, fun i hil => ?_⟩
  obtain ⟨s, r, nd, v, hv, hc⟩ := cell i hil
  refine ⟨s, r, nd, v, hv, fun j u hu => ?_⟩
  have := hc j u hu
  rw [add_none, add_none] at this
  rw [← this]
  simp [World.cell?, hh]
theorem msg_cells {fuel : Nat} {cs : List Value} {x : DataW H × List MemPlace} (h : DataW.trod enc Tryz.prog w 0 sp true fuel 26 cs = some x) : ∃ (k f t br bn sl nu : Int) (v : ByteArray) (a : Option Addr) (n cap : Nat), cs = [.int .i64 k, .int .i64 f, .int .i64 t, .int .i64 br, .int .i64 bn, .int .i64 sl, .int .i64 nu, .string v, .slice a n cap] ∧ v.size ≤ maxLen ∧ EntAt w a n ∧ n ≤ maxLen := by
  obtain ⟨xs, n, rfl, hx, hl, hxl, hall⟩ := DataW.trod_struct Tryz.underlying26 h
  have hC : Tryz.prog.cellsOf 26 = 9 := by kernel_rfl
  rw [hC] at hl
  match cs, hl with
  | [c0, c1, c2, c3, c4, c5, c6, c7, c8], _ =>
  match xs, hxl with
  | [y0, y1, y2, y3, y4, y5, y6, y7], _ =>
  have q0 := hall 0 _ rfl
  have e0 : DataW.trod enc Tryz.prog w 0 sp true n 3 (([c0, c1, c2, c3, c4, c5, c6, c7, c8].drop 0).take (Tryz.prog.cellsOf 3)) = some y0 := q0
  rw [show Tryz.prog.cellsOf 3 = 1 by kernel_rfl] at e0
  obtain ⟨z0, f0, _, _⟩ := DataW.trod_int Tryz.underlying3 e0
  simp only [List.drop_zero, List.take_succ_cons, List.take_zero, List.drop_succ_cons, List.cons.injEq, and_true] at f0
  have q1 := hall 1 _ rfl
  have e1 : DataW.trod enc Tryz.prog w 0 sp true n 3 (([c0, c1, c2, c3, c4, c5, c6, c7, c8].drop 1).take (Tryz.prog.cellsOf 3)) = some y1 := q1
  rw [show Tryz.prog.cellsOf 3 = 1 by kernel_rfl] at e1
  obtain ⟨z1, f1, _, _⟩ := DataW.trod_int Tryz.underlying3 e1
  simp only [List.drop_zero, List.take_succ_cons, List.take_zero, List.drop_succ_cons, List.cons.injEq, and_true] at f1
  have q2 := hall 2 _ rfl
  have e2 : DataW.trod enc Tryz.prog w 0 sp true n 3 (([c0, c1, c2, c3, c4, c5, c6, c7, c8].drop 2).take (Tryz.prog.cellsOf 3)) = some y2 := q2
  rw [show Tryz.prog.cellsOf 3 = 1 by kernel_rfl] at e2
  obtain ⟨z2, f2, _, _⟩ := DataW.trod_int Tryz.underlying3 e2
  simp only [List.drop_zero, List.take_succ_cons, List.take_zero, List.drop_succ_cons, List.cons.injEq, and_true] at f2
  have q3 := hall 3 _ rfl
  have e3 : DataW.trod enc Tryz.prog w 0 sp true n 23 (([c0, c1, c2, c3, c4, c5, c6, c7, c8].drop 3).take (Tryz.prog.cellsOf 23)) = some y3 := q3
  rw [show Tryz.prog.cellsOf 23 = 2 by kernel_rfl] at e3
  obtain ⟨za, zb, f3⟩ := bal_cells e3
  simp only [List.drop_zero, List.take_succ_cons, List.take_zero, List.drop_succ_cons, List.cons.injEq, and_true] at f3
  have q4 := hall 4 _ rfl
  have e4 : DataW.trod enc Tryz.prog w 0 sp true n 3 (([c0, c1, c2, c3, c4, c5, c6, c7, c8].drop 5).take (Tryz.prog.cellsOf 3)) = some y4 := q4
  rw [show Tryz.prog.cellsOf 3 = 1 by kernel_rfl] at e4
  obtain ⟨z4, f4, _, _⟩ := DataW.trod_int Tryz.underlying3 e4
  simp only [List.drop_zero, List.take_succ_cons, List.take_zero, List.drop_succ_cons, List.cons.injEq, and_true] at f4
  have q5 := hall 5 _ rfl
  have e5 : DataW.trod enc Tryz.prog w 0 sp true n 3 (([c0, c1, c2, c3, c4, c5, c6, c7, c8].drop 6).take (Tryz.prog.cellsOf 3)) = some y5 := q5
  rw [show Tryz.prog.cellsOf 3 = 1 by kernel_rfl] at e5
  obtain ⟨z5, f5, _, _⟩ := DataW.trod_int Tryz.underlying3 e5
  simp only [List.drop_zero, List.take_succ_cons, List.take_zero, List.drop_succ_cons, List.cons.injEq, and_true] at f5
  have q6 := hall 6 _ rfl
  have e6 : DataW.trod enc Tryz.prog w 0 sp true n 9 (([c0, c1, c2, c3, c4, c5, c6, c7, c8].drop 7).take (Tryz.prog.cellsOf 9)) = some y6 := q6
  rw [show Tryz.prog.cellsOf 9 = 1 by kernel_rfl] at e6
  obtain ⟨z6, f6, _, g6⟩ := DataW.trod_string Tryz.underlying9 e6
  simp only [List.drop_zero, List.take_succ_cons, List.take_zero, List.drop_succ_cons, List.cons.injEq, and_true] at f6
  have q7 := hall 7 _ rfl
  have e7 : DataW.trod enc Tryz.prog w 0 sp true n 24 (([c0, c1, c2, c3, c4, c5, c6, c7, c8].drop 8).take (Tryz.prog.cellsOf 24)) = some y7 := q7
  rw [show Tryz.prog.cellsOf 24 = 1 by kernel_rfl] at e7
  obtain ⟨la, ln, lc, f7, he, hn⟩ := list_ent e7
  simp only [List.drop_zero, List.take_succ_cons, List.take_zero, List.drop_succ_cons, List.cons.injEq, and_true] at f7
  obtain ⟨rfl, rfl⟩ := f3
  subst f0 f1 f2 f4 f5 f6 f7
  exact ⟨_, _, _, _, _, _, _, _, _, _, _, rfl, g6, he, hn⟩
theorem reply_cells {fuel : Nat} {cs : List Value} {x : DataW H × List MemPlace} (h : DataW.trod enc Tryz.prog w 0 sp true fuel 29 cs = some x) : ∃ (e rn : Int) (x : ByteArray), cs = [.int .i64 e, .int .i64 rn, .string x] := by
  obtain ⟨xs, n, rfl, hx, hl, hxl, hall⟩ := DataW.trod_struct Tryz.underlying29 h
  have hC : Tryz.prog.cellsOf 29 = 3 := by kernel_rfl
  rw [hC] at hl
  match cs, hl with
  | [c0, c1, c2], _ =>
  match xs, hxl with
  | [y0, y1, y2], _ =>
  have q0 := hall 0 _ rfl
  have e0 : DataW.trod enc Tryz.prog w 0 sp true n 27 (([c0, c1, c2].drop 0).take (Tryz.prog.cellsOf 27)) = some y0 := q0
  rw [show Tryz.prog.cellsOf 27 = 1 by kernel_rfl] at e0
  obtain ⟨z0, f0, _, _⟩ := DataW.trod_int Tryz.underlying27 e0
  simp only [List.drop_zero, List.take_succ_cons, List.take_zero, List.drop_succ_cons, List.cons.injEq, and_true] at f0
  have q1 := hall 1 _ rfl
  have e1 : DataW.trod enc Tryz.prog w 0 sp true n 2 (([c0, c1, c2].drop 1).take (Tryz.prog.cellsOf 2)) = some y1 := q1
  rw [show Tryz.prog.cellsOf 2 = 1 by kernel_rfl] at e1
  obtain ⟨z1, f1, _, _⟩ := DataW.trod_int Tryz.underlying2 e1
  simp only [List.drop_zero, List.take_succ_cons, List.take_zero, List.drop_succ_cons, List.cons.injEq, and_true] at f1
  have q2 := hall 2 _ rfl
  have e2 : DataW.trod enc Tryz.prog w 0 sp true n 9 (([c0, c1, c2].drop 2).take (Tryz.prog.cellsOf 9)) = some y2 := q2
  rw [show Tryz.prog.cellsOf 9 = 1 by kernel_rfl] at e2
  obtain ⟨z2, f2, _, g2⟩ := DataW.trod_string Tryz.underlying9 e2
  simp only [List.drop_zero, List.take_succ_cons, List.take_zero, List.drop_succ_cons, List.cons.injEq, and_true] at f2
  subst f0 f1 f2
  exact ⟨_, _, _, rfl⟩
end
end Go.Proofs.YtbgnoibellfojaaGreatDoor

namespace Go.Proofs.YtbgnoibellfojaaGreatDoor
open Go Go.X
set_option maxRecDepth 100000
theorem in139 : InSt 139 Tryz.f139 11 := InSt.mk' Tryz.func139 rfl Tryz.ntmps139
theorem in204 : InSt 204 Tryz.f204 11 := InSt.mk' Tryz.func204 rfl Tryz.ntmps204
theorem in200 : InSt 200 Tryz.f200 15 := InSt.mk' Tryz.func200 rfl Tryz.ntmps200
theorem in201 : InSt 201 Tryz.f201 24 := InSt.mk' Tryz.func201 rfl Tryz.ntmps201
theorem in283 : InSt 283 Tryz.f283 9 := InSt.mk' Tryz.func283 rfl Tryz.ntmps283
theorem in284 : InSt 284 Tryz.f284 9 := InSt.mk' Tryz.func284 rfl Tryz.ntmps284
theorem in286 : InSt 286 Tryz.f286 6 := InSt.mk' Tryz.func286 rfl Tryz.ntmps286
theorem in287 : InSt 287 Tryz.f287 9 := InSt.mk' Tryz.func287 rfl Tryz.ntmps287
theorem in127 : InSt 127 Tryz.f127 10 := InSt.mk' Tryz.func127 rfl Tryz.ntmps127
theorem in47 : InSt 47 Tryz.f47 11 := InSt.mk' Tryz.func47 rfl Tryz.ntmps47
theorem in48 : InSt 48 Tryz.f48 5 := InSt.mk' Tryz.func48 rfl Tryz.ntmps48
theorem in87 : InSt 87 Tryz.f87 27 := InSt.mk' Tryz.func87 rfl Tryz.ntmps87
theorem in136 : InSt 136 Tryz.f136 15 := InSt.mk' Tryz.func136 rfl Tryz.ntmps136
theorem in93 : InSt 93 Tryz.f93 12 := InSt.mk' Tryz.func93 rfl Tryz.ntmps93
theorem in124 : InSt 124 Tryz.f124 10 := InSt.mk' Tryz.func124 rfl Tryz.ntmps124
theorem in88 : InSt 88 Tryz.f88 3 := InSt.mk' Tryz.func88 rfl Tryz.ntmps88
end Go.Proofs.YtbgnoibellfojaaGreatDoor

namespace Go.Proofs.YtbgnoibellfojaaGreatDoor
open Go Go.X
set_option maxRecDepth 100000
set_option maxHeartbeats 0
theorem HSub.slc {i i' e k b len : Nat} {cs : List SV} (hl : cs.length = len * k) : HSub [.ext i' (SlA e k (some ⟨b, 0, none⟩) len len (denL cs))] [.blk i b cs e] :=
  HSub.one fun w S h => slc_SlA hl h
theorem fz137 (n : Nat) (hn : n < 2 ^ 64) (w : World) : FrZ Tryz.prog 137 #[.int .u64 n] w emp (fun z : Option Addr × Nat => .slice z.1 (uvar n).length z.2) (fun z => SlA 5 1 z.1 (uvar n).length z.2 (bcells (uvar n))) := by
  induction n using Nat.strongRecOn generalizing w with
  | _ n ih =>
    refine enter_frZ TBok (H := []) emp_foot Tryz.func137 rfl rfl Tryz.ntmps137 [.v (.int .u64 n)] rfl rfl ?_
    intro S _ _
    by_cases h : n < 128
    · rw [uvar_lt h]
      conv => whnf
      repeat' (first
 | with_reducible ((first | refine r_seq (fun KS hS => ?_) | (refine hS _ _ ?_; clear hS KS) | (refine hA _ ?_; clear hA KA)))
 | ((with_reducible (first | refine r_region ?_ | refine r_cond (fun KA hA KB hB => ?_) | refine r_ret ?_ | intro b)); conv => whnf)
 | ((with_reducible refine WrapK.id ?_); refine WrapK.eq (z' := (n : Int)) (IntWalk.u8_in _ (by omega)) ?_; conv => whnf)
 | (refine if_decT (by omega) ?_; conv => whnf))
      have e : denL [.v (.int .u8 (n : Int))] = bcells [UInt8.ofNat n] := by simp [bcells, bcell, denL, den, Nat.mod_eq_of_lt (show n < 256 by omega)]
      exact FinK.frZ (i := 0) (some ⟨b, 0, none⟩, 1) rfl (HSub.trans (B := [.ext 0 (SlA 5 1 (some ⟨b, 0, none⟩) 1 1 (denL [.v (.int .u8 (n : Int))]))]) (by rw [e]; exact HSub.refl _) (HSub.slc (i' := 0) (len := 1) (k := 1) rfl))
    · rw [uvar_ge h]
      have ih' := fun w => ih (n / 128) (by omega) (by omega) w
      have hlen := uvar_len64 (n := n / 128) (by omega)
      conv => whnf
      repeat' (first
 | with_reducible ((first | refine r_seq (fun KS hS => ?_) | (refine hS _ _ ?_; clear hS KS) | (refine hB _ ?_; clear hB KB)))
 | ((with_reducible (first | refine r_region ?_ | refine r_cond (fun KA hA KB hB => ?_) | refine r_ret ?_ | refine r_skip ?_ | intro b)); conv => whnf)
 | ((with_reducible refine RemK.id ?_); refine RemK.eq (by omega) (IntWalk.rem_in _ _ (by omega)) ?_; conv => whnf)
 | ((with_reducible refine QuoK.id ?_); refine QuoK.eq (by omega) (IntWalk.u64_quo _ _ (by omega)) ?_; conv => whnf)
 | ((with_reducible refine WrapK.id ?_); (first | refine WrapK.eq (IntWalk.u64_in _ (by omega)) ?_ | refine WrapK.eq (IntWalk.u8_in _ (by omega)) ?_); conv => whnf)
 | ((with_reducible refine CallK.id ?_); refine CallK.fresh (fun ms w hk => ih' w) ?_; conv => whnf)
 | ((with_reducible refine OpK.id ?_); refine OpK.appS (k := 1) rfl rfl rfl rfl rfl rfl rfl rfl (by repeat (first | with_reducible apply At.head | apply At.tail)) rfl (SrcK.sees rfl rfl (Sees.ext (by repeat (first | with_reducible apply At.head | apply At.tail))) (bone _)) (by show (1 + _) * (1 + 1) ≤ 140737488355328; omega) (fun a' cap' => ?_); conv => whnf)
 | (refine if_decF (by omega) ?_; conv => whnf)
 | with_reducible apply_assumption -symm -exfalso)
      have e2 : ((n : Int) % 128 + 128) = ((n % 128 + 128 : Nat) : Int) := by omega
      have e3 : (UInt8.ofNat (n % 128 + 128)).toNat = n % 128 + 128 := by rw [UInt8.toNat_ofNat']; omega
      have e : denL [.v (.int .u8 ((n : Int) % 128 + 128))] ++ bcells (uvar (n / 128)) = bcells (UInt8.ofNat (n % 128 + 128) :: uvar (n / 128)) := by
        show [Value.int .u8 ((n : Int) % 128 + 128)] ++ bcells _ = bcell (UInt8.ofNat (n % 128 + 128)) :: bcells _
        unfold bcell
        rw [e3, e2]
        rfl
      have e4 : 1 + (uvar (n / 128)).length = (UInt8.ofNat (n % 128 + 128) :: uvar (n / 128)).length := by rw [List.length_cons, Nat.add_comm]
      refine FinK.frZ (i := 0) (a', cap') (by rw [e4]; rfl) ?_
      rw [e, e4]
      exact HSub.drop (HSub.refl _)
/-- the reference's writer -/
def WfA (p : Nat) (l : List UInt8) : Ass :=
  ⟨fun w S => ∃ a cap, Holds w [.blk 10 p [.v (.bool true), .v (.slice a l.length cap)] 215, .ext 11 (SlA 5 1 a l.length cap (bcells l))] S, fun _ _ _ h ⟨a, cap, hx⟩ => ⟨a, cap, hx.loc h⟩⟩
theorem WfA.open {w : World} {S : Nat → Prop} {X Y : List Blk} {p j : Nat} {l : List UInt8} (h : Holds w (X ++ .ext j (WfA p l) :: Y) S) :
    ∃ (z : Option Addr × Nat) (S' : Nat → Prop), Holds w (X ++ .blk 10 p [.v (.bool true), .v (.slice z.1 l.length z.2)] 215 :: .ext 11 (SlA 5 1 z.1 l.length z.2 (bcells l)) :: Y) S' ∧ ∀ k, S' k → S k := by
  obtain ⟨TX, TY, h1, h2, h3, h4⟩ := h.split _ _
  cases h2 with
  | @cons _ _ Sx T hx hb hY hd =>
    obtain ⟨a, cap, hz⟩ := hx
    obtain ⟨T', q1, q2⟩ := Holds.glue _ _ hz hY hd
    obtain ⟨T'', q3, q4⟩ := Holds.glue _ _ h1 q1 (fun k hk hk' => h3 k hk ((q2 k).1 hk'))
    exact ⟨(a, cap), T'', q3, fun k hk => (h4 k).2 (((q4 k).1 hk).imp id (q2 k).1)⟩
theorem WfA.close {p j : Nat} {l : List UInt8} {a n cap} {cs : List Value} {i1 i2 : Nat} (hn : n = l.length) (hc : cs = bcells l) : HSub [.ext j (WfA p l)] [.blk i1 p [.v (.bool true), .v (.slice a n cap)] 215, .ext i2 (SlA 5 1 a n cap cs)] :=
  HSub.close fun w S h => by
    subst hn hc
    cases h with
    | @cons _ _ S1 T1 hx hb hH hd =>
      cases hH with
      | @cons _ _ S2 T2 hx2 hb2 hH2 hd2 =>
        cases hH2
        exact ⟨a, cap, .cons (x := .blk 10 p _ 215) hx hb (.cons (x := .ext 11 _) hx2 hb2 .nil hd2) hd⟩
theorem fzig138 {a : Int} (ha : -9223372036854775808 ≤ a ∧ a ≤ 9223372036854775807) (w : World) : Pu Tryz.prog 138 #[.int .i64 a] w (.int .u64 (zigN a)) := by
  refine enter_sound TBok Tryz.func138 rfl rfl Tryz.ntmps138 [.v (.int .i64 a)] (Kn.start w noS) rfl rfl ?_
  rcases Int.lt_or_le a 0 with h | h
  · have hz := zigN_neg h
    have hzl := zigN_lt ha
    conv => whnf
    repeat' (first
 | with_reducible ((first | refine r_seq (fun KS hS => ?_) | (refine hS _ _ ?_; clear hS KS) | (refine hA _ ?_; clear hA KA)))
 | ((with_reducible (first | refine r_region ?_ | refine r_cond (fun KA hA KB hB => ?_) | refine r_ret ?_)); conv => whnf)
 | ((with_reducible refine WrapK.i64 ?_ ?_); (focus omega); conv => whnf)
 | ((with_reducible refine WrapK.id ?_); refine WrapK.eq (IntWalk.u64_in _ (by omega)) ?_; conv => whnf)
 | (refine if_decT (by omega) ?_; conv => whnf))
    refine FinK.pu ?_
    show Value.int .u64 _ = _
    congr 1
    omega
  · have hz := zigN_pos h
    have hzl := zigN_lt ha
    conv => whnf
    repeat' (first
 | with_reducible ((first | refine r_seq (fun KS hS => ?_) | (refine hS _ _ ?_; clear hS KS) | (refine hB _ ?_; clear hB KB)))
 | ((with_reducible (first | refine r_region ?_ | refine r_cond (fun KA hA KB hB => ?_) | refine r_ret ?_ | refine r_skip ?_)); conv => whnf)
 | ((with_reducible refine WrapK.id ?_); refine WrapK.eq (IntWalk.u64_in _ (by omega)) ?_; conv => whnf)
 | (refine if_decF (by omega) ?_; conv => whnf)
 | with_reducible apply_assumption -symm -exfalso)
    refine FinK.pu ?_
    show Value.int .u64 _ = _
    congr 1
    omega
theorem fzag205 {u : Nat} (hu : u < 2 ^ 64) (w : World) : Pu Tryz.prog 205 #[.int .u64 u] w (.int .i64 (zagI u)) := by
  refine enter_sound TBok Tryz.func205 rfl rfl Tryz.ntmps205 [.v (.int .u64 u)] (Kn.start w noS) rfl rfl ?_
  by_cases h : u % 2 = 0
  · have hz : zagI u = ((u / 2 : Nat) : Int) := if_pos h
    conv => whnf
    repeat' (first
 | with_reducible ((first | refine r_seq (fun KS hS => ?_) | (refine hS _ _ ?_; clear hS KS) | (refine hB _ ?_; clear hB KB)))
 | ((with_reducible (first | refine r_region ?_ | refine r_cond (fun KA hA KB hB => ?_) | refine r_ret ?_ | refine r_skip ?_)); conv => whnf)
 | ((with_reducible refine WrapK.i64 ?_ ?_); (focus omega); conv => whnf)
 | ((with_reducible refine RemK.id ?_); refine RemK.eq (by omega) (IntWalk.rem_in _ _ (by omega)) ?_; conv => whnf)
 | ((with_reducible refine QuoK.id ?_); refine QuoK.eq (by omega) (IntWalk.u64_quo _ _ (by omega)) ?_; conv => whnf)
 | (refine if_decF (by omega) ?_; conv => whnf)
 | with_reducible apply_assumption -symm -exfalso)
    refine FinK.pu ?_
    show Value.int .i64 _ = _
    congr 1
    omega
  · have hz : zagI u = -((u / 2 : Nat) : Int) - 1 := if_neg h
    conv => whnf
    repeat' (first
 | with_reducible ((first | refine r_seq (fun KS hS => ?_) | (refine hS _ _ ?_; clear hS KS) | (refine hA _ ?_; clear hA KA)))
 | ((with_reducible (first | refine r_region ?_ | refine r_cond (fun KA hA KB hB => ?_) | refine r_ret ?_)); conv => whnf)
 | ((with_reducible refine WrapK.i64 ?_ ?_); (focus omega); conv => whnf)
 | ((with_reducible refine RemK.id ?_); refine RemK.eq (by omega) (IntWalk.rem_in _ _ (by omega)) ?_; conv => whnf)
 | ((with_reducible refine QuoK.id ?_); refine QuoK.eq (by omega) (IntWalk.u64_quo _ _ (by omega)) ?_; conv => whnf)
 | (refine if_decT (by omega) ?_; conv => whnf))
    refine FinK.pu ?_
    show Value.int .i64 _ = _
    congr 1
    omega
theorem fuint89 {p n : Nat} {l : List UInt8} (hn : n < 2 ^ 64) (hl : l.length ≤ 1099511627776) (w : World) : Fr Tryz.prog 89 #[pv p, .int .u64 n] w (WfA p l) (.tuple #[]) (WfA p (l ++ uvar n)) := by
  have h10 := uvar_len64 hn
  refine enter_fr TBok (A' := WfA p (l ++ uvar n)) (H := [.ext 12 (WfA p l)]) one_foot Tryz.func89 rfl rfl Tryz.ntmps89 [.loc p 10 0, .v (.int .u64 n)] rfl rfl ?_
  intro S
  refine Run.open (α := Option Addr × Nat) (A := []) (B := []) (fun z => [.blk 10 p [.v (.bool true), .v (.slice z.1 l.length z.2)] 215, .ext 11 (SlA 5 1 z.1 l.length z.2 (bcells l))]) (fun w S h => WfA.open (X := []) (Y := []) h) ?_
  rintro ⟨a, cap⟩
  dsimp only
  conv => whnf
  repeat' (first
 | with_reducible ((first | refine r_seq (fun KS hS => ?_) | (refine hS _ _ ?_; clear hS KS) | (refine hA _ ?_; clear hA KA)))
 | ((with_reducible (first | refine r_region ?_ | refine r_cond (fun KA hA KB hB => ?_) | refine r_ret ?_ | refine And.intro rfl ?_ | intro b)); conv => whnf)
 | ((with_reducible refine CallK.id ?_); refine CallK.fresh (fun ms w hk => fz137 n hn w) ?_; conv => whnf)
 | ((with_reducible refine CallK.id ?_); (first | apply in136 | apply in139); rfl; rfl; rfl; intro A; conv => whnf)
 | ((with_reducible refine OpK.id ?_); refine OpK.app (k := 1) rfl rfl rfl rfl rfl rfl rfl rfl (by repeat (first | with_reducible apply At.head | apply At.tail)) (SrcK.sees rfl rfl (Sees.ext (by repeat (first | with_reducible apply At.head | apply At.tail))) (bone _)) (by show (_ + _) * (1 + 1) ≤ 140737488355328; omega) (fun a' cap' => ?_); conv => whnf)
 | ((with_reducible apply OpK.more); (focus refine sok); (conv => whnf); fail_if_success guard_target =ₛ False))
  exact FinK.fr (y := .ext 0 (WfA p (l ++ uvar n))) rfl (HSub.trans (WfA.close (i1 := 10) (i2 := 11) (by rw [List.length_append]) (bcells_append _ _).symm) (by (try dsimp only [List.cons_append, List.nil_append, den, denL]); refine SelI.spec ?_; (repeat (first | refine SelI.blk (by repeat (first | with_reducible apply Rm.head | apply Rm.tail)) ?_ | refine SelI.ext (by repeat (first | with_reducible apply Rm.head | apply Rm.tail)) ?_ | (refine SelI.blk' (by repeat (first | with_reducible apply Rm.head | apply Rm.tail)) ?_ ?_; focus rfl) | (refine SelI.ext' (by repeat (first | with_reducible apply Rm.head | apply Rm.tail)) ?_ ?_; focus rfl))); exact SelI.nil)) (fun _ _ h => h)
theorem fint90 {p : Nat} {d : Int} {l : List UInt8} (hd : -9223372036854775808 ≤ d ∧ d ≤ 9223372036854775807) (hl : l.length ≤ 1099511627776) (w : World) : Fr Tryz.prog 90 #[pv p, .int .i64 d] w (WfA p l) (.tuple #[]) (WfA p (l ++ uvar (zigN d))) := by
  have hn := zigN_lt hd
  have h10 := uvar_len64 hn
  refine enter_fr TBok (A' := WfA p (l ++ uvar (zigN d))) (H := [.ext 12 (WfA p l)]) one_foot Tryz.func90 rfl rfl Tryz.ntmps90 [.loc p 10 0, .v (.int .i64 d)] rfl rfl ?_
  intro S
  refine Run.open (α := Option Addr × Nat) (A := []) (B := []) (fun z => [.blk 10 p [.v (.bool true), .v (.slice z.1 l.length z.2)] 215, .ext 11 (SlA 5 1 z.1 l.length z.2 (bcells l))]) (fun w S h => WfA.open (X := []) (Y := []) h) ?_
  rintro ⟨a, cap⟩
  dsimp only
  conv => whnf
  repeat' (first
 | with_reducible ((first | refine r_seq (fun KS hS => ?_) | (refine hS _ _ ?_; clear hS KS) | (refine hA _ ?_; clear hA KA)))
 | ((with_reducible (first | refine r_region ?_ | refine r_cond (fun KA hA KB hB => ?_) | refine r_ret ?_ | refine And.intro rfl ?_ | intro b)); conv => whnf)
 | ((with_reducible refine CallK.at 138 ?_); refine CallK.pu (fun w => fzig138 hd w) ?_; conv => whnf)
 | ((with_reducible refine CallK.id ?_); refine CallK.fresh (fun ms w hk => fz137 (zigN d) hn w) ?_; conv => whnf)
 | ((with_reducible refine CallK.id ?_); (first | apply in136 | apply in139); rfl; rfl; rfl; intro A; conv => whnf)
 | ((with_reducible refine OpK.id ?_); refine OpK.app (k := 1) rfl rfl rfl rfl rfl rfl rfl rfl (by repeat (first | with_reducible apply At.head | apply At.tail)) (SrcK.sees rfl rfl (Sees.ext (by repeat (first | with_reducible apply At.head | apply At.tail))) (bone _)) (by show (_ + _) * (1 + 1) ≤ 140737488355328; omega) (fun a' cap' => ?_); conv => whnf)
 | ((with_reducible apply OpK.more); (focus refine sok); (conv => whnf); fail_if_success guard_target =ₛ False))
  exact FinK.fr (y := .ext 0 (WfA p (l ++ uvar (zigN d)))) rfl (HSub.trans (WfA.close (i1 := 10) (i2 := 11) (by rw [List.length_append]) (bcells_append _ _).symm) (by (try dsimp only [List.cons_append, List.nil_append, den, denL]); refine SelI.spec ?_; (repeat (first | refine SelI.blk (by repeat (first | with_reducible apply Rm.head | apply Rm.tail)) ?_ | refine SelI.ext (by repeat (first | with_reducible apply Rm.head | apply Rm.tail)) ?_ | (refine SelI.blk' (by repeat (first | with_reducible apply Rm.head | apply Rm.tail)) ?_ ?_; focus rfl) | (refine SelI.ext' (by repeat (first | with_reducible apply Rm.head | apply Rm.tail)) ?_ ?_; focus rfl))); exact SelI.nil)) (fun _ _ h => h)
theorem ftext91 {p : Nat} {l : List UInt8} {s : ByteArray} (hs : s.size ≤ 1099511627776) (hl : l.length ≤ 549755813888) (w : World) : Fr Tryz.prog 91 #[pv p, .string s] w (WfA p l) (.tuple #[]) (WfA p (l ++ uvar s.size ++ s.data.toList)) := by
  have hn : s.size < 2 ^ 64 := by omega
  have h10 := uvar_len64 hn
  have hsl := str_len s
  refine enter_fr TBok (A' := WfA p (l ++ uvar s.size ++ s.data.toList)) (H := [.ext 12 (WfA p l)]) one_foot Tryz.func91 rfl rfl Tryz.ntmps91 [.loc p 10 0, .v (.string s)] rfl rfl ?_
  intro S
  refine Run.open (α := Option Addr × Nat) (A := []) (B := []) (fun z => [.blk 10 p [.v (.bool true), .v (.slice z.1 l.length z.2)] 215, .ext 11 (SlA 5 1 z.1 l.length z.2 (bcells l))]) (fun w S h => WfA.open (X := []) (Y := []) h) ?_
  rintro ⟨a, cap⟩
  dsimp only
  conv => whnf
  repeat' (first
 | with_reducible ((first | refine r_seq (fun KS hS => ?_) | (refine hS _ _ ?_; clear hS KS) | (refine hA _ ?_; clear hA KA)))
 | ((with_reducible (first | refine r_region ?_ | refine r_cond (fun KA hA KB hB => ?_) | refine r_ret ?_ | refine And.intro rfl ?_ | intro b)); conv => whnf)
 | ((with_reducible refine WrapK.id ?_); refine WrapK.eq (IntWalk.u64_in _ (by omega)) ?_; conv => whnf)
 | ((with_reducible refine CallK.id ?_); refine CallK.fresh (fun ms w hk => fz137 s.size hn w) ?_; conv => whnf)
 | ((with_reducible refine CallK.id ?_); (first | apply in136 | apply in139); rfl; rfl; rfl; intro A; conv => whnf)
 | ((with_reducible refine OpK.id ?_); (first | (refine OpK.app (k := 1) rfl rfl rfl rfl rfl rfl rfl rfl (by repeat (first | with_reducible apply At.head | apply At.tail)) (SrcK.sees rfl rfl (Sees.ext (by repeat (first | with_reducible apply At.head | apply At.tail))) (bone _)) (by show (_ + _) * (1 + 1) ≤ 140737488355328; omega) (fun a' cap' => ?_)) | refine OpK.cvSB rfl rfl rfl rfl rfl rfl rfl rfl ?_); conv => whnf)
 | ((with_reducible apply OpK.more); (focus refine sok); (conv => whnf); fail_if_success guard_target =ₛ False)
 | with_reducible apply_assumption -symm -exfalso)
  exact FinK.fr (y := .ext 0 (WfA p (l ++ uvar s.size ++ s.data.toList))) rfl (HSub.trans (WfA.close (i1 := 10) (i2 := 11) (by rw [List.length_append, List.length_append, hsl]) (by rw [bcells_append, bcells_append])) (by (try dsimp only [List.cons_append, List.nil_append, den, denL]); refine SelI.spec ?_; (repeat (first | refine SelI.blk (by repeat (first | with_reducible apply Rm.head | apply Rm.tail)) ?_ | refine SelI.ext (by repeat (first | with_reducible apply Rm.head | apply Rm.tail)) ?_ | (refine SelI.blk' (by repeat (first | with_reducible apply Rm.head | apply Rm.tail)) ?_ ?_; focus rfl) | (refine SelI.ext' (by repeat (first | with_reducible apply Rm.head | apply Rm.tail)) ?_ ?_; focus rfl))); exact SelI.nil)) (fun _ _ h => h)
theorem flen92 {p : Nat} {l : List UInt8} (hl : l.length ≤ 1099511627776) (w : World) : Fr Tryz.prog 92 #[pv p] w (WfA p l) (.int .i64 l.length) (WfA p l) := by
  refine enter_fr TBok (A' := WfA p l) (H := [.ext 12 (WfA p l)]) one_foot Tryz.func92 rfl rfl Tryz.ntmps92 [.loc p 10 0] rfl rfl ?_
  intro S
  refine Run.open (α := Option Addr × Nat) (A := []) (B := []) (fun z => [.blk 10 p [.v (.bool true), .v (.slice z.1 l.length z.2)] 215, .ext 11 (SlA 5 1 z.1 l.length z.2 (bcells l))]) (fun w S h => WfA.open (X := []) (Y := []) h) ?_
  rintro ⟨a, cap⟩
  dsimp only
  conv => whnf
  repeat' (first
 | with_reducible ((first | refine r_seq (fun KS hS => ?_) | (refine hS _ _ ?_; clear hS KS) | (refine hB _ ?_; clear hB KB)))
 | ((with_reducible (first | refine r_region ?_ | refine r_cond (fun KA hA KB hB => ?_) | refine r_ret ?_ | refine r_skip ?_ | refine And.intro rfl ?_ | intro b)); conv => whnf)
 | ((with_reducible refine CallK.id ?_); (first | apply in93 | apply in139); rfl; rfl; rfl; intro A; conv => whnf)
 | ((with_reducible refine OpK.id ?_); refine OpK.appS (k := 1) rfl rfl rfl rfl rfl rfl rfl rfl (by repeat (first | with_reducible apply At.head | apply At.tail)) rfl (SrcK.sees rfl rfl (Sees.ext (by repeat (first | with_reducible apply At.head | apply At.tail))) (bone _)) (by show (0 + _) * (1 + 1) ≤ 140737488355328; omega) (fun a' cap' => ?_); conv => whnf)
 | ((with_reducible apply OpK.more); (focus refine sok); (conv => whnf); fail_if_success guard_target =ₛ False)
 | with_reducible apply_assumption -symm -exfalso)
  exact FinK.fr (y := .ext 0 (WfA p l)) (by rw [Nat.zero_add]; rfl) (HSub.trans (WfA.close (i1 := 10) (i2 := 11) rfl rfl) (by (try dsimp only [List.cons_append, List.nil_append, den, denL]); refine SelI.spec ?_; (repeat (first | refine SelI.blk (by repeat (first | with_reducible apply Rm.head | apply Rm.tail)) ?_ | refine SelI.ext (by repeat (first | with_reducible apply Rm.head | apply Rm.tail)) ?_ | (refine SelI.blk' (by repeat (first | with_reducible apply Rm.head | apply Rm.tail)) ?_ ?_; focus rfl) | (refine SelI.ext' (by repeat (first | with_reducible apply Rm.head | apply Rm.tail)) ?_ ?_; focus rfl))); exact SelI.nil)) (fun _ _ h => h)
theorem fbytes93 {p : Nat} {l : List UInt8} (hl : l.length ≤ 1099511627776) (w : World) : FrZ Tryz.prog 93 #[pv p] w (WfA p l) (fun z : Option Addr × Nat => .slice z.1 l.length z.2) (fun z => AssL [.ext 70 (SlA 5 1 z.1 l.length z.2 (bcells l)), .ext 71 (WfA p l)]) := by
  refine enter_frZ TBok (H := [.ext 12 (WfA p l)]) one_foot Tryz.func93 rfl rfl Tryz.ntmps93 [.loc p 10 0] rfl rfl ?_
  intro S _ _
  refine Run.open (α := Option Addr × Nat) (A := []) (B := []) (fun z => [.blk 10 p [.v (.bool true), .v (.slice z.1 l.length z.2)] 215, .ext 11 (SlA 5 1 z.1 l.length z.2 (bcells l))]) (fun w S h => WfA.open (X := []) (Y := []) h) ?_
  rintro ⟨a, cap⟩
  dsimp only
  conv => whnf
  repeat' (first
 | with_reducible ((first | refine r_seq (fun KS hS => ?_) | (refine hS _ _ ?_; clear hS KS) | (refine hB _ ?_; clear hB KB)))
 | ((with_reducible (first | refine r_region ?_ | refine r_cond (fun KA hA KB hB => ?_) | refine r_ret ?_ | refine r_skip ?_ | refine And.intro rfl ?_ | intro b)); conv => whnf)
 | (apply in139; rfl; rfl; rfl; intro A; conv => whnf)
 | ((with_reducible refine OpK.id ?_); refine OpK.appS (k := 1) rfl rfl rfl rfl rfl rfl rfl rfl (by repeat (first | with_reducible apply At.head | apply At.tail)) rfl (SrcK.sees rfl rfl (Sees.ext (by repeat (first | with_reducible apply At.head | apply At.tail))) (bone _)) (by show (0 + _) * (1 + 1) ≤ 140737488355328; omega) (fun a' cap' => ?_); conv => whnf)
 | ((with_reducible apply OpK.more); (focus refine sok); (conv => whnf); fail_if_success guard_target =ₛ False)
 | with_reducible apply_assumption -symm -exfalso)
  exact FinK.frZL (a', cap') (by rw [Nat.zero_add]; rfl) (HSub.ext (fun w S h => by rw [Nat.zero_add] at h; exact h) (WfA.close rfl rfl))
end Go.Proofs.YtbgnoibellfojaaGreatDoor

namespace Go.Proofs.YtbgnoibellfojaaGreatDoor
open Go Go.X
set_option maxRecDepth 100000
set_option maxHeartbeats 0
/-- what is read is what was written -/
theorem numG_inv : ∀ (l : List UInt8) (i a n k : Nat), numG i a l = (n, k) → k ≠ 0 → ∃ m r, l = uvar m ++ r ∧ k = i + (uvar m).length ∧ n = a + m * 2 ^ (7 * i) ∧ (i = 0 ∨ m ≠ 0)
  | [], i, a, n, k, h, hk => by
    simp only [numG, Prod.mk.injEq] at h
    exact absurd h.2.symm hk
  | c :: l, i, a, n, k, h, hk => by
    rw [numG] at h
    split at h
    · simp only [Prod.mk.injEq] at h
      exact absurd h.2.symm hk
    · rename_i hb
      split at h
      · rename_i hc
        simp only [Prod.mk.injEq] at h
        refine ⟨c.toNat, l, ?_, ?_, ?_, ?_⟩
        · rw [uvar_lt hc]; simp
        · rw [uvar_lt hc, ← h.2]; rfl
        · rw [← h.1, Nat.mod_eq_of_lt hc]
        · by_cases hi : i = 0
          · exact .inl hi
          · right
            intro h0
            apply hb
            simp [h0]
            omega
      · rename_i hc
        obtain ⟨m, r, h1, h2, h3, h4⟩ := numG_inv l (i + 1) _ n k h hk
        have hm : m ≠ 0 := by omega
        have hlt := c.toNat_lt
        have e1 : ¬ (c.toNat % 128 + 128 * m) < 128 := by omega
        have e2 : (c.toNat % 128 + 128 * m) / 128 = m := by omega
        have e3 : (c.toNat % 128 + 128 * m) % 128 + 128 = c.toNat := by omega
        refine ⟨c.toNat % 128 + 128 * m, r, ?_, ?_, ?_, .inr (by omega)⟩
        · rw [uvar_ge e1, e2, e3, h1]
          simp
        · rw [uvar_ge e1, e2, h2, List.length_cons]
          omega
        · rw [h3, Nat.add_assoc, show 7 * (i + 1) = 7 * i + 7 by omega, Nat.pow_add, Nat.add_mul]
          congr 2
          rw [show (2 : Nat) ^ 7 = 128 by rfl, Nat.mul_comm 128 m, Nat.mul_assoc, Nat.mul_comm (2 ^ (7 * i)) 128]
theorem numR_inv {l : List UInt8} (h : (numR l).2 ≠ 0) : l = uvar (numR l).1 ++ l.drop (numR l).2 ∧ (numR l).2 = (uvar (numR l).1).length := by
  obtain ⟨m, r, h1, h2, h3, _⟩ := numG_inv l 0 0 (numR l).1 (numR l).2 rfl h
  rw [Nat.zero_add, Nat.mul_zero, Nat.pow_zero, Nat.mul_one] at h3
  rw [Nat.zero_add] at h2
  rw [h3, h2]
  refine ⟨?_, rfl⟩
  conv => lhs; rw [h1]
  conv => rhs; rw [h1]
  simp
theorem rdT_inv {l r : List UInt8} {s : ByteArray} (h : rdT (some l) = (s, some r)) : l = uvar s.size ++ s.data.toList ++ r ∧ s.size ≤ 65536 := by
  unfold rdT at h
  dsimp only at h
  split at h
  · cases h
  · rename_i hk
    simp only [Prod.mk.injEq, Option.some.injEq] at h
    unfold txtR at h hk
    split at h
    · rename_i hc
      rw [if_pos hc] at hk
      exact absurd rfl hk
    · rename_i hc
      obtain ⟨h1, h2⟩ := h
      have hk0 : (numR l).2 ≠ 0 := fun h0 => hc (.inl h0)
      have hn1 : (numR l).1 ≤ 65536 := by omega
      have hn2 : (numR l).1 ≤ l.length - (numR l).2 := by omega
      have hi := (numR_inv hk0).1
      have hs : s.size = (numR l).1 := by
        rw [← h1]
        show (List.toArray _).size = _
        rw [List.size_toArray, List.length_take, List.length_drop]
        omega
      refine ⟨?_, by omega⟩
      rw [hs, ← h1, ← h2]
      conv => lhs; rw [hi]
      rw [List.append_assoc]
      congr 1
      show _ = ((l.drop (numR l).2).take (numR l).1) ++ _
      rw [← List.drop_drop, List.take_append_drop]
theorem uvar_byte (n : Nat) : ∀ j, j < (uvar n).length → ∃ c, (uvar n)[j]? = some c ∧ (c.toNat < 128 ↔ j + 1 = (uvar n).length) := by
  induction n using Nat.strongRecOn with
  | _ n ih =>
    intro j hj
    by_cases h : n < 128
    · rw [uvar_lt h] at hj ⊢
      have : j = 0 := by simpa using hj
      subst this
      refine ⟨UInt8.ofNat n, rfl, ?_⟩
      rw [UInt8.toNat_ofNat']
      simp
      omega
    · rw [uvar_ge h] at hj ⊢
      cases j with
      | zero =>
        refine ⟨_, rfl, ?_⟩
        rw [UInt8.toNat_ofNat']
        have := uvar_pos (n / 128)
        simp only [List.length_cons]
        omega
      | succ j =>
        obtain ⟨c, h1, h2⟩ := ih (n / 128) (by omega) j (by simpa using hj)
        refine ⟨c, by simpa using h1, ?_⟩
        simp only [List.length_cons]
        omega
/-- the number of the first k bytes -/
def sumB : List UInt8 → Nat → Nat
  | _, 0 => 0
  | [], _ + 1 => 0
  | c :: l, k + 1 => c.toNat % 128 + 128 * sumB l k
theorem sumB_succ : ∀ (l : List UInt8) (k : Nat) (c : UInt8), l[k]? = some c → sumB l (k + 1) = sumB l k + c.toNat % 128 * 2 ^ (7 * k)
  | [], k, c, h => by cases h
  | d :: l, 0, c, h => by
    simp at h; subst h
    simp [sumB]
  | d :: l, k + 1, c, h => by
    have ih := sumB_succ l k c (by simpa using h)
    rw [sumB, ih, sumB]
    have : 2 ^ (7 * (k + 1)) = 128 * 2 ^ (7 * k) := by rw [show 7 * (k + 1) = 7 + 7 * k by omega, Nat.pow_add]
    rw [this, Nat.mul_add, ← Nat.add_assoc, Nat.mul_left_comm]
theorem sumB_uvar (n : Nat) : ∀ (r : List UInt8), sumB (uvar n ++ r) (uvar n).length = n := by
  induction n using Nat.strongRecOn with
  | _ n ih =>
    intro r
    by_cases h : n < 128
    · rw [uvar_lt h]
      simp only [List.cons_append, List.nil_append, List.length_cons, List.length_nil, sumB]
      rw [UInt8.toNat_ofNat']
      omega
    · rw [uvar_ge h]
      simp only [List.cons_append, List.length_cons, sumB]
      rw [ih (n / 128) (by omega), UInt8.toNat_ofNat']
      omega
/-- the first byte that ends a number -/
theorem rdU_first {l : List UInt8} {i : Nat} (hge : ∀ j c, j < i → l[j]? = some c → 128 ≤ c.toNat) (h : (numR l).2 ≠ 0) : i < (numR l).2 ∧ i < l.length ∧ (numR l).2 ≤ 10 ∧ ∀ c, l[i]? = some c → c.toNat < 128 → (numR l).2 = i + 1 ∧ sumB l (i + 1) = (numR l).1 ∧ uvar (numR l).1 = l.take (i + 1) := by
  obtain ⟨h1, h2⟩ := numR_inv h
  have hlt := numR_lt l
  have h10 := uvar_len64 hlt
  have hle := numR_le l
  obtain ⟨c, hc1, hc2⟩ := uvar_byte (numR l).1 ((numR l).2 - 1) (by omega)
  have hget : ∀ j, j < (numR l).2 → l[j]? = (uvar (numR l).1)[j]? := fun j hj => by
    conv => lhs; rw [h1]
    rw [List.getElem?_append_left (by omega)]
  have hi : i < (numR l).2 := by
    rcases Nat.lt_or_ge i (numR l).2 with h | h'
    · exact h
    · have h3 := hge ((numR l).2 - 1) c (by omega) (by rw [hget _ (by omega)]; exact hc1)
      have := hc2.2 (by omega)
      omega
  refine ⟨hi, by omega, by omega, fun c' hc' hlt' => ?_⟩
  obtain ⟨c'', e1, e2⟩ := uvar_byte (numR l).1 i (by omega)
  rw [hget i hi, e1] at hc'
  obtain rfl : c'' = c' := by simpa using hc'
  have h3 := e2.1 hlt'
  have h4 : (numR l).2 = i + 1 := by omega
  refine ⟨h4, ?_, ?_⟩
  · conv => lhs; rw [h1]
    rw [← h4, h2]
    exact sumB_uvar _ _
  · conv => rhs; rw [h1]
    rw [← h4, h2, List.take_left']
    rfl
end Go.Proofs.YtbgnoibellfojaaGreatDoor
