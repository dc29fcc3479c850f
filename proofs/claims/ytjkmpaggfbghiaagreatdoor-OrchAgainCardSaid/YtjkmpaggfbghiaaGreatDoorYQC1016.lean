/- Contracts and lemmas for the claim (part 16); no condition of its own. -/
import Derived.Test.YtjkmpaggfbghiaaGreatDoorYQC1015
import Derived.Test.YtjkmpaggfbghiaaGreatDoorYQC1006
set_option linter.all false
set_option maxRecDepth 100000
set_option maxHeartbeats 0
set_option linter.unusedVariables false
set_option linter.unusedSimpArgs false
set_option linter.unnecessarySimpa false
namespace Go.Proofs.YtjkmpaggfbghiaaGreatDoor
open Go Go.X
theorem prg_atZ {l : List OM.Pt} {j : Nat} {z : Int} {p : OM.Pt} (hz : z = (j : Int)) (h : l[j]? = some p) : ((l.flatMap rgC).drop (z.toNat * 2)).take 2 = denL [.v (.string p.r.lo), .v (.string p.r.hi)] := by subst hz; exact prg_at h
theorem ndecT {α : Type} [DecidableEq α] {a b : α} (h : a = b) : (!decide (a = b)) = false := by simp [h]
theorem rrest1088 {l : List OM.Pt} {rb ro gb go eb eo rc gc ec : Nat} (hc : OM.Cover l) (hl : l.length ≤ 64) (hp : ∀ p ∈ l, 1 ≤ p.group ∧ p.group < 8 ∧ 1 ≤ p.epoch ∧ p.epoch ≤ 2147483648) (w : World) :
    FrZ Tryz.prog 88 #[.slice (some ⟨rb, ro, none⟩) l.length rc, .slice (some ⟨gb, go, none⟩) l.length gc, .slice (some ⟨eb, eo, none⟩) l.length ec] w (AssL [.ext 23 (SlA 37 2 (some ⟨rb, ro, none⟩) l.length rc (l.flatMap rgC)), .ext 24 (SlA 3 1 (some ⟨gb, go, none⟩) l.length gc (l.flatMap gpC)), .ext 25 (SlA 3 1 (some ⟨eb, eo, none⟩) l.length ec (l.flatMap ecC))]) (fun t : Nat => .tuple #[pv t, .int .i64 0]) (fun t => AssL [.ext 23 (SlA 37 2 (some ⟨rb, ro, none⟩) l.length rc (l.flatMap rgC)), .ext 24 (SlA 3 1 (some ⟨gb, go, none⟩) l.length gc (l.flatMap gpC)), .ext 25 (SlA 3 1 (some ⟨eb, eo, none⟩) l.length ec (l.flatMap ecC)), .ext 3 (PtsA t l)]) := by
  have h0 : 0 < l.length := List.length_pos_iff.2 hc.2
  refine enter_frZ TBok (H := [.ext 23 (SlA 37 2 (some ⟨rb, ro, none⟩) l.length rc (l.flatMap rgC)), .ext 24 (SlA 3 1 (some ⟨gb, go, none⟩) l.length gc (l.flatMap gpC)), .ext 25 (SlA 3 1 (some ⟨eb, eo, none⟩) l.length ec (l.flatMap ecC))]) all_foot Tryz.func88 rfl rfl Tryz.ntmps88 [.v (.slice (some ⟨rb, ro, none⟩) l.length rc), .v (.slice (some ⟨gb, go, none⟩) l.length gc), .v (.slice (some ⟨eb, eo, none⟩) l.length ec)] rfl rfl ?_
  intro S hz8 hz9
  clear hz8 hz9
  conv => whnf
  repeat' (first
 | with_reducible ((first | refine r_seq (fun KS hS => ?_) | (refine hS _ _ ?_; clear hS KS) | (refine hB _ ?_; clear hB KB) | refine r_block ?_))
 | ((with_reducible (first | refine r_region ?_ | refine r_cond (fun KA hA KB hB => ?_) | refine r_skip ?_ | intro b)); conv => whnf)
 | (((refine if_f ?_ ?_); (focus (simp only [eq_self, decide_true, Bool.and_true, Bool.and_self, Bool.not_true, beq_self_eq_true] <;> fail)); conv => whnf))
 | (refine if_decF (by omega) ?_; conv => whnf)
 | with_reducible apply_assumption -symm -exfalso)
  obtain ⟨bm, hbm⟩ : ∃ x, x = b := ⟨b, rfl⟩
  subst hbm
  refine Run.weakenD (E' := [(0, .v (.slice (some ⟨rb, ro, none⟩) l.length rc)), (1, .v (.slice (some ⟨gb, go, none⟩) l.length gc)), (2, .v (.slice (some ⟨eb, eo, none⟩) l.length ec)), (8, .loc bm 60 0), (37, .v (.slice (some ⟨rb, ro, none⟩) l.length rc)), (38, .v (.int .i64 (l.length : Nat))), (39, .v (.int .i64 0))]) (H' := [.blk 60 bm [.v (.slice none 0 0)] 202, .ext 23 (SlA 37 2 (some ⟨rb, ro, none⟩) l.length rc (l.flatMap rgC)), .ext 24 (SlA 3 1 (some ⟨gb, go, none⟩) l.length gc (l.flatMap gpC)), .ext 25 (SlA 3 1 (some ⟨eb, eo, none⟩) l.length ec (l.flatMap ecC))]) ?_ sdG seG
  refine r_loop (α := Nat × Option Addr × Nat) (fun y => [(0, .v (.slice (some ⟨rb, ro, none⟩) l.length rc)), (1, .v (.slice (some ⟨gb, go, none⟩) l.length gc)), (2, .v (.slice (some ⟨eb, eo, none⟩) l.length ec)), (8, .loc bm 60 0), (37, .v (.slice (some ⟨rb, ro, none⟩) l.length rc)), (38, .v (.int .i64 (l.length : Nat))), (39, .v (.int .i64 (y.1 : Nat)))]) (fun y => [.blk 60 bm [.v (.slice y.2.1 y.1 y.2.2)] 202, .ext 23 (SlA 37 2 (some ⟨rb, ro, none⟩) l.length rc (l.flatMap rgC)), .ext 24 (SlA 3 1 (some ⟨gb, go, none⟩) l.length gc (l.flatMap gpC)), .ext 25 (SlA 3 1 (some ⟨eb, eo, none⟩) l.length ec (l.flatMap ecC)), .ext 61 (SlA 193 4 y.2.1 y.1 y.2.2 ((l.take y.1).flatMap ptC))]) (fun y => y.1 ≤ l.length) (fun y => l.length - y.1) (0, none, 0) (Nat.zero_le _) suG (HSub.addSlL (L' := [.blk 60 bm [.v (.slice none 0 0)] 202, .ext 23 (SlA 37 2 (some ⟨rb, ro, none⟩) l.length rc (l.flatMap rgC)), .ext 24 (SlA 3 1 (some ⟨gb, go, none⟩) l.length gc (l.flatMap gpC)), .ext 25 (SlA 3 1 (some ⟨eb, eo, none⟩) l.length ec (l.flatMap ecC))]) seG) ?_
  rintro ⟨i, a, cap⟩ hi KL hL2
  dsimp only at hi ⊢
  by_cases hlt : i < l.length
  · obtain ⟨p, hx⟩ : ∃ x, l[i]? = some x := ⟨_, List.getElem?_eq_getElem hlt⟩
    obtain ⟨hok, hlo, hhi⟩ := hc.at_ix hx
    obtain ⟨g1, g2, e1, e2⟩ := hp p (List.mem_of_getElem? hx)
    have hck1115 : ∀ w, Pu Tryz.prog 115 #[.agg #[.string p.r.lo, .string p.r.hi]] w (.int .i64 0) := fun w => chk1115 (rsz hok) (by rw [if_pos hok]) w
    have hsn := flat_snoc (g := ptC) hx
    by_cases hls : i + 1 = l.length
    · have hh := hhi.2 hls
      have hib : ((i : Nat) : Int) = ((l.length : Nat) : Int) - 1 := by omega
      have hhb : p.r.hi = ⟨#[]⟩ := hh
      clear hhi hh
      cases i with
      | zero =>
        have hlb : p.r.lo = ⟨#[]⟩ := hlo
        repeat' (first
 | with_reducible refine r_stopE 13 ?_
 | with_reducible ((first | refine r_seq (fun KS hS => ?_) | (refine hS _ _ ?_; clear hS KS) | (refine hA _ ?_; clear hA KA) | (refine hB _ ?_; clear hB KB) | refine r_block ?_))
 | ((with_reducible (first | refine r_region ?_ | refine r_cond (fun KA hA KB hB => ?_) | refine r_ret ?_ | refine r_skip ?_ | refine And.intro rfl ?_ | intro b)); conv => whnf)
 | ((with_reducible refine WrapK.i64 ?_ ?_); (focus omega); conv => whnf)
 | ((with_reducible refine OpK.id ?_); (first | refine OpK.idxA (k := 2) rfl rfl rfl rfl rfl rfl rfl (by omega) (by omega) ?_ | refine OpK.idxA (k := 1) rfl rfl rfl rfl rfl rfl rfl (by omega) (by omega) ?_); conv => whnf)
 | ((with_reducible refine OpK.id ?_); (first | refine OpK.ldp rfl rfl (PC.sl ((0 : Nat) : Int).toNat atG (prg_at hx)) (List.cons_ne_nil _ _) ?_ | refine OpK.ldp rfl rfl (PC.sl ((0 : Nat) : Int).toNat atG (gp_at hx)) (List.cons_ne_nil _ _) ?_ | refine OpK.ldp rfl rfl (PC.sl ((0 : Nat) : Int).toNat atG (ec_at hx)) (List.cons_ne_nil _ _) ?_); conv => whnf)
 | ((with_reducible refine CallK.at 115 ?_); refine CallK.pu (fun w => hck1115 w) ?_; conv => whnf)
 | (apply in1131; rfl; rfl; rfl; intro A; conv => whnf)
 | (((refine if_f ?_ ?_); (focus (exact ndecT hlb)); conv => whnf))
 | (((refine if_f ?_ ?_); (focus (first | (rw [decide_eq_false hhb, decide_eq_false hib]; rfl) | (simp [hhb, hib] <;> fail))); conv => whnf))
 | ((with_reducible apply OpK.more); (focus refine sok); (conv => whnf); fail_if_success guard_target =ₛ False)
 | ((first | refine if_decT (by omega) ?_ | refine if_decF (by omega) ?_ | refine if_ndecF (by omega) ?_); conv => whnf)
 | with_reducible apply_assumption -symm -exfalso)
        refine StopR.mk ?_
        obtain ⟨b10, hb10⟩ : ∃ x, x = b := ⟨b, rfl⟩
        subst hb10
        refine Run.weakenD (E' := [(0, .v (.slice (some ⟨rb, ro, none⟩) l.length rc)), (1, .v (.slice (some ⟨gb, go, none⟩) l.length gc)), (2, .v (.slice (some ⟨eb, eo, none⟩) l.length ec)), (8, .loc bm 60 0), (37, .v (.slice (some ⟨rb, ro, none⟩) l.length rc)), (38, .v (.int .i64 (l.length : Nat))), (9, .v (.int .i64 (0 : Nat))), (10, .loc b10 62 0), (39, .v (.int .i64 (0 : Nat)))]) (H' := [.blk 62 b10 [.v (.string p.r.lo), .v (.string p.r.hi)] 37, .blk 60 bm [.v (.slice a (0) cap)] 202, .ext 23 (SlA 37 2 (some ⟨rb, ro, none⟩) l.length rc (l.flatMap rgC)), .ext 24 (SlA 3 1 (some ⟨gb, go, none⟩) l.length gc (l.flatMap gpC)), .ext 25 (SlA 3 1 (some ⟨eb, eo, none⟩) l.length ec (l.flatMap ecC)), .ext 61 (SlA 193 4 a 0 cap ((l.take 0).flatMap ptC))]) ?_ sdG seG
        refine r_par (β := Option Addr × Nat) (id := 13) [nq 0 [] (.loc bm 60 0), nq 1 [] (.loc bm 60 0), nq 2 [1] (.loc bm 60 0), nq 3 [2] (.loc bm 60 0), nq 4 [3] (.v (.slice a (0) cap)), nq 5 [] (.agg [.v (.string p.r.lo), .v (.string p.r.hi)]), nq 6 [] (.v (.slice (some ⟨gb, go, none⟩) l.length gc)), nq 7 [] (.v (.int .i64 (0 : Nat))), nq 8 [6, 7] (.v (.pointer (some ⟨gb, go + ((0 : Nat) : Int).toNat * 1, none⟩))), nq 9 [8] (.v (.int .i64 p.group)), nq 10 [] (.v (.slice (some ⟨eb, eo, none⟩) l.length ec)), nq 11 [] (.v (.int .i64 (0 : Nat))), nq 12 [10, 11] (.v (.pointer (some ⟨eb, eo + ((0 : Nat) : Int).toNat * 1, none⟩))), nq 13 [12] (.v (.int .i64 p.epoch)), nq 14 [5, 9, 13] (.agg (ptc p)), ⟨15, [14], some 100, fun _ q2 => .slc q2.2 215 0 1 1, fun _ q2 => [.ext 61 (SlA 193 4 a (0) cap ((l.take (0)).flatMap ptC)), .blk 215 q2.2 (ptc p) 193]⟩, ⟨16, [4, 15], some 15, fun _ q2 => .v (.slice q2.1 (0 + 1) q2.2), fun _ q2 => [.ext 61 (SlA 193 4 q2.1 (0 + 1) q2.2 ((l.take (0)).flatMap ptC ++ denL (ptc p)))]⟩] [⟨100, [], none, fun _ _ => .v undef, fun _ _ => [.ext 61 (SlA 193 4 a 0 cap ((l.take 0).flatMap ptC))]⟩] 3 [.blk 62 b10 [.v (.string p.r.lo), .v (.string p.r.hi)] 37, .blk 60 bm [.v (.slice a (0) cap)] 202, .ext 23 (SlA 37 2 (some ⟨rb, ro, none⟩) l.length rc (l.flatMap rgC)), .ext 24 (SlA 3 1 (some ⟨gb, go, none⟩) l.length gc (l.flatMap gpC)), .ext 25 (SlA 3 1 (some ⟨eb, eo, none⟩) l.length ec (l.flatMap ecC))] mixed (by kernel_rfl) (by kernel_rfl) (by show X.HSub [.ext 61 (SlA 193 4 a 0 cap ((l.take 0).flatMap ptC)), .blk 62 b10 [.v (.string p.r.lo), .v (.string p.r.hi)] 37, .blk 60 bm [.v (.slice a (0) cap)] 202, .ext 23 (SlA 37 2 (some ⟨rb, ro, none⟩) l.length rc (l.flatMap rgC)), .ext 24 (SlA 3 1 (some ⟨gb, go, none⟩) l.length gc (l.flatMap gpC)), .ext 25 (SlA 3 1 (some ⟨eb, eo, none⟩) l.length ec (l.flatMap ecC))] _; exact seG) ?_ ?_
        · conv => whnf
          repeat' (first | ((with_reducible refine And.intro ?_ ?_); all_goals (conv => whnf)) | ((with_reducible intro zz2 AA KP hP); conv => whnf))
          repeat' (first
 | ((with_reducible intro b); conv => whnf)
 | ((with_reducible refine OpK.id ?_); refine OpK.idxA (k := 1) rfl rfl rfl rfl rfl rfl rfl (by omega) (by omega) ?_; conv => whnf)
 | ((with_reducible refine OpK.id ?_); (first | refine OpK.ldp rfl rfl (PC.sl ((0 : Nat) : Int).toNat atG (gp_at hx)) (List.cons_ne_nil _ _) ?_ | refine OpK.ldp rfl rfl (PC.sl ((0 : Nat) : Int).toNat atG (ec_at hx)) (List.cons_ne_nil _ _) ?_ | refine OpK.app (k := 4) rfl rfl rfl rfl rfl rfl rfl rfl atG (SrcK.slc rfl rfl lmG (Nat.le_refl _) rfl) (big_ok (by omega) (by decide)) (fun a' cap' => ?_)); conv => whnf)
 | ((with_reducible refine hP (a', cap') _ _ ?_ ?_); all_goals (first | ((repeat' (first | exact SubD.nil | (refine SubD.cons rfl rfl ?_) | (refine SubD.cons rfl (by simp [den]) ?_))); done) | exact seZ))
 | ((with_reducible refine hP (none, b) _ _ ?_ ?_); all_goals (first | ((repeat' (first | exact SubD.nil | (refine SubD.cons rfl rfl ?_) | (refine SubD.cons rfl (by simp [den]) ?_))); done) | exact seZ))
 | ((with_reducible apply hP); all_goals (first | exact default | ((repeat' (first | exact SubD.nil | (refine SubD.cons rfl rfl ?_) | (refine SubD.cons rfl (by simp [den]) ?_))); done) | exact seZ)))
        conv => whnf
        intro zz
        conv => whnf
        try dsimp only
        have hn : (l.take 0).flatMap ptC ++ denL (ptc p) = (l.take (0 + 1)).flatMap ptC := hsn
        rw [hn]
        repeat' (first
 | ((with_reducible (first | refine r_region ?_ | refine And.intro rfl ?_)); conv => whnf)
 | ((with_reducible refine WrapK.i64 ?_ ?_); (focus omega); conv => whnf)
 | (refine hL2 (0 + 1, zz 16) _ _ (by show 0 + 1 ≤ _; omega) (by show _ - (0 + 1) < _ - 0; omega) suG seG)
 | ((with_reducible ((first | refine InAt.mk (fun K' hK => ?_) | refine AnyAt.mk (fun K' hK => ?_) | (refine hK _ ?_; clear hK K') | (refine hK _ _ ?_; clear hK K')))); conv => whnf)
 | with_reducible apply_assumption -symm -exfalso)
      | succ j =>
        obtain ⟨q, hq⟩ : ∃ q, l[j]? = some q := ⟨_, List.getElem?_eq_getElem (by omega)⟩
        have hlb : p.r.lo = q.r.hi := by rw [hlo]; simp only [OM.befP, hq]
        repeat' (first
 | with_reducible refine r_stopE 13 ?_
 | with_reducible ((first | refine r_seq (fun KS hS => ?_) | (refine hS _ _ ?_; clear hS KS) | (refine hA _ ?_; clear hA KA) | (refine hB _ ?_; clear hB KB) | refine r_block ?_))
 | ((with_reducible (first | refine r_region ?_ | refine r_cond (fun KA hA KB hB => ?_) | refine r_ret ?_ | refine r_skip ?_ | refine And.intro rfl ?_ | intro b)); conv => whnf)
 | ((with_reducible refine WrapK.i64 ?_ ?_); (focus omega); conv => whnf)
 | ((with_reducible refine OpK.id ?_); (first | refine OpK.idxA (k := 2) rfl rfl rfl rfl rfl rfl rfl (by omega) (by omega) ?_ | refine OpK.idxA (k := 1) rfl rfl rfl rfl rfl rfl rfl (by omega) (by omega) ?_); conv => whnf)
 | ((with_reducible refine OpK.id ?_); (first | refine OpK.ldp rfl rfl (PC.sl ((j + 1 : Nat) : Int).toNat atG (prg_at hx)) (List.cons_ne_nil _ _) ?_ | refine OpK.ldp rfl rfl (PC.sl ((j + 1 : Nat) : Int).toNat atG (gp_at hx)) (List.cons_ne_nil _ _) ?_ | refine OpK.ldp rfl rfl (PC.sl ((j + 1 : Nat) : Int).toNat atG (ec_at hx)) (List.cons_ne_nil _ _) ?_); conv => whnf)
 | ((with_reducible refine CallK.at 115 ?_); refine CallK.pu (fun w => hck1115 w) ?_; conv => whnf)
 | (apply in1131; rfl; rfl; rfl; intro A; conv => whnf)
 | ((with_reducible refine OpK.id ?_); (first | (refine OpK.fap rfl rfl (PC.sl _ atG (prg_atZ (j := j) (by push_cast; omega) hq)) ?_) | (refine OpK.ldp rfl rfl ((PC.sl _ atG (prg_atZ (j := j) (by push_cast; omega) hq)).field 1) (List.cons_ne_nil _ _) ?_)); conv => whnf)
 | (((refine if_f ?_ ?_); (focus (exact ndecT hlb)); conv => whnf))
 | (((refine if_f ?_ ?_); (focus (first | (rw [decide_eq_false hhb, decide_eq_false hib]; rfl) | (simp [hhb, hib] <;> fail))); conv => whnf))
 | ((with_reducible apply OpK.more); (focus refine sok); (conv => whnf); fail_if_success guard_target =ₛ False)
 | ((first | refine if_decT (by omega) ?_ | refine if_decF (by omega) ?_ | refine if_ndecF (by omega) ?_); conv => whnf)
 | with_reducible apply_assumption -symm -exfalso)
        refine StopR.mk ?_
        clear b
        obtain ⟨b10, hb10⟩ : ∃ x, x = b := ⟨b, rfl⟩
        subst hb10
        refine Run.weakenD (E' := [(0, .v (.slice (some ⟨rb, ro, none⟩) l.length rc)), (1, .v (.slice (some ⟨gb, go, none⟩) l.length gc)), (2, .v (.slice (some ⟨eb, eo, none⟩) l.length ec)), (8, .loc bm 60 0), (37, .v (.slice (some ⟨rb, ro, none⟩) l.length rc)), (38, .v (.int .i64 (l.length : Nat))), (9, .v (.int .i64 ((j + 1) : Nat))), (10, .loc b10 62 0), (39, .v (.int .i64 ((j + 1) : Nat)))]) (H' := [.blk 62 b10 [.v (.string p.r.lo), .v (.string p.r.hi)] 37, .blk 60 bm [.v (.slice a (j + 1) cap)] 202, .ext 23 (SlA 37 2 (some ⟨rb, ro, none⟩) l.length rc (l.flatMap rgC)), .ext 24 (SlA 3 1 (some ⟨gb, go, none⟩) l.length gc (l.flatMap gpC)), .ext 25 (SlA 3 1 (some ⟨eb, eo, none⟩) l.length ec (l.flatMap ecC)), .ext 61 (SlA 193 4 a (j + 1) cap ((l.take (j + 1)).flatMap ptC))]) ?_ sdG seG
        refine r_par (β := Option Addr × Nat) (id := 13) [nq 0 [] (.loc bm 60 0), nq 1 [] (.loc bm 60 0), nq 2 [1] (.loc bm 60 0), nq 3 [2] (.loc bm 60 0), nq 4 [3] (.v (.slice a (j + 1) cap)), nq 5 [] (.agg [.v (.string p.r.lo), .v (.string p.r.hi)]), nq 6 [] (.v (.slice (some ⟨gb, go, none⟩) l.length gc)), nq 7 [] (.v (.int .i64 (j + 1 : Nat))), nq 8 [6, 7] (.v (.pointer (some ⟨gb, go + ((j + 1 : Nat) : Int).toNat * 1, none⟩))), nq 9 [8] (.v (.int .i64 p.group)), nq 10 [] (.v (.slice (some ⟨eb, eo, none⟩) l.length ec)), nq 11 [] (.v (.int .i64 (j + 1 : Nat))), nq 12 [10, 11] (.v (.pointer (some ⟨eb, eo + ((j + 1 : Nat) : Int).toNat * 1, none⟩))), nq 13 [12] (.v (.int .i64 p.epoch)), nq 14 [5, 9, 13] (.agg (ptc p)), ⟨15, [14], some 100, fun _ q2 => .slc q2.2 215 0 1 1, fun _ q2 => [.ext 61 (SlA 193 4 a (j + 1) cap ((l.take (j + 1)).flatMap ptC)), .blk 215 q2.2 (ptc p) 193]⟩, ⟨16, [4, 15], some 15, fun _ q2 => .v (.slice q2.1 (j + 1 + 1) q2.2), fun _ q2 => [.ext 61 (SlA 193 4 q2.1 (j + 1 + 1) q2.2 ((l.take (j + 1)).flatMap ptC ++ denL (ptc p)))]⟩] [⟨100, [], none, fun _ _ => .v undef, fun _ _ => [.ext 61 (SlA 193 4 a (j + 1) cap ((l.take (j + 1)).flatMap ptC))]⟩] 3 [.blk 62 b10 [.v (.string p.r.lo), .v (.string p.r.hi)] 37, .blk 60 bm [.v (.slice a (j + 1) cap)] 202, .ext 23 (SlA 37 2 (some ⟨rb, ro, none⟩) l.length rc (l.flatMap rgC)), .ext 24 (SlA 3 1 (some ⟨gb, go, none⟩) l.length gc (l.flatMap gpC)), .ext 25 (SlA 3 1 (some ⟨eb, eo, none⟩) l.length ec (l.flatMap ecC))] mixed (by kernel_rfl) (by kernel_rfl) (by show X.HSub [.ext 61 (SlA 193 4 a (j + 1) cap ((l.take (j + 1)).flatMap ptC)), .blk 62 b10 [.v (.string p.r.lo), .v (.string p.r.hi)] 37, .blk 60 bm [.v (.slice a (j + 1) cap)] 202, .ext 23 (SlA 37 2 (some ⟨rb, ro, none⟩) l.length rc (l.flatMap rgC)), .ext 24 (SlA 3 1 (some ⟨gb, go, none⟩) l.length gc (l.flatMap gpC)), .ext 25 (SlA 3 1 (some ⟨eb, eo, none⟩) l.length ec (l.flatMap ecC))] _; exact seG) ?_ ?_
        · conv => whnf
          repeat' (first | ((with_reducible refine And.intro ?_ ?_); all_goals (conv => whnf)) | ((with_reducible intro zz2 AA KP hP); conv => whnf))
          repeat' (first
 | ((with_reducible intro b); conv => whnf)
 | ((with_reducible refine OpK.id ?_); refine OpK.idxA (k := 1) rfl rfl rfl rfl rfl rfl rfl (by omega) (by omega) ?_; conv => whnf)
 | ((with_reducible refine OpK.id ?_); (first | refine OpK.ldp rfl rfl (PC.sl ((j + 1 : Nat) : Int).toNat atG (gp_at hx)) (List.cons_ne_nil _ _) ?_ | refine OpK.ldp rfl rfl (PC.sl ((j + 1 : Nat) : Int).toNat atG (ec_at hx)) (List.cons_ne_nil _ _) ?_ | refine OpK.app (k := 4) rfl rfl rfl rfl rfl rfl rfl rfl atG (SrcK.slc rfl rfl lmG (Nat.le_refl _) rfl) (big_ok (by omega) (by decide)) (fun a' cap' => ?_)); conv => whnf)
 | ((with_reducible refine hP (a', cap') _ _ ?_ ?_); all_goals (first | ((repeat' (first | exact SubD.nil | (refine SubD.cons rfl rfl ?_) | (refine SubD.cons rfl (by simp [den]) ?_))); done) | exact seZ))
 | ((with_reducible refine hP (none, b) _ _ ?_ ?_); all_goals (first | ((repeat' (first | exact SubD.nil | (refine SubD.cons rfl rfl ?_) | (refine SubD.cons rfl (by simp [den]) ?_))); done) | exact seZ))
 | ((with_reducible apply hP); all_goals (first | exact default | ((repeat' (first | exact SubD.nil | (refine SubD.cons rfl rfl ?_) | (refine SubD.cons rfl (by simp [den]) ?_))); done) | exact seZ)))
        conv => whnf
        intro zz
        conv => whnf
        try dsimp only
        have hn : (l.take (j + 1)).flatMap ptC ++ denL (ptc p) = (l.take ((j + 1) + 1)).flatMap ptC := hsn
        rw [hn]
        repeat' (first
 | ((with_reducible (first | refine r_region ?_ | refine And.intro rfl ?_)); conv => whnf)
 | ((with_reducible refine WrapK.i64 ?_ ?_); (focus omega); conv => whnf)
 | (refine hL2 ((j + 1) + 1, zz 16) _ _ (by show (j + 1) + 1 ≤ _; omega) (by show _ - ((j + 1) + 1) < _ - (j + 1); omega) suG seG)
 | ((with_reducible ((first | refine InAt.mk (fun K' hK => ?_) | refine AnyAt.mk (fun K' hK => ?_) | (refine hK _ ?_; clear hK K') | (refine hK _ _ ?_; clear hK K')))); conv => whnf)
 | with_reducible apply_assumption -symm -exfalso)
    · have hib : ¬ ((i : Nat) : Int) = ((l.length : Nat) : Int) - 1 := by omega
      have hhb : ¬ p.r.hi = ⟨#[]⟩ := fun h => hls (hhi.1 h)
      clear hhi
      cases i with
      | zero =>
        have hlb : p.r.lo = ⟨#[]⟩ := hlo
        repeat' (first
 | with_reducible refine r_stopE 13 ?_
 | with_reducible ((first | refine r_seq (fun KS hS => ?_) | (refine hS _ _ ?_; clear hS KS) | (refine hA _ ?_; clear hA KA) | (refine hB _ ?_; clear hB KB) | refine r_block ?_))
 | ((with_reducible (first | refine r_region ?_ | refine r_cond (fun KA hA KB hB => ?_) | refine r_ret ?_ | refine r_skip ?_ | refine And.intro rfl ?_ | intro b)); conv => whnf)
 | ((with_reducible refine WrapK.i64 ?_ ?_); (focus omega); conv => whnf)
 | ((with_reducible refine OpK.id ?_); (first | refine OpK.idxA (k := 2) rfl rfl rfl rfl rfl rfl rfl (by omega) (by omega) ?_ | refine OpK.idxA (k := 1) rfl rfl rfl rfl rfl rfl rfl (by omega) (by omega) ?_); conv => whnf)
 | ((with_reducible refine OpK.id ?_); (first | refine OpK.ldp rfl rfl (PC.sl ((0 : Nat) : Int).toNat atG (prg_at hx)) (List.cons_ne_nil _ _) ?_ | refine OpK.ldp rfl rfl (PC.sl ((0 : Nat) : Int).toNat atG (gp_at hx)) (List.cons_ne_nil _ _) ?_ | refine OpK.ldp rfl rfl (PC.sl ((0 : Nat) : Int).toNat atG (ec_at hx)) (List.cons_ne_nil _ _) ?_); conv => whnf)
 | ((with_reducible refine CallK.at 115 ?_); refine CallK.pu (fun w => hck1115 w) ?_; conv => whnf)
 | (apply in1131; rfl; rfl; rfl; intro A; conv => whnf)
 | (((refine if_f ?_ ?_); (focus (exact ndecT hlb)); conv => whnf))
 | (((refine if_f ?_ ?_); (focus (first | (rw [decide_eq_false hhb, decide_eq_false hib]; rfl) | (simp [hhb, hib] <;> fail))); conv => whnf))
 | ((with_reducible apply OpK.more); (focus refine sok); (conv => whnf); fail_if_success guard_target =ₛ False)
 | ((first | refine if_decT (by omega) ?_ | refine if_decF (by omega) ?_ | refine if_ndecF (by omega) ?_); conv => whnf)
 | with_reducible apply_assumption -symm -exfalso)
        refine StopR.mk ?_
        obtain ⟨b10, hb10⟩ : ∃ x, x = b := ⟨b, rfl⟩
        subst hb10
        refine Run.weakenD (E' := [(0, .v (.slice (some ⟨rb, ro, none⟩) l.length rc)), (1, .v (.slice (some ⟨gb, go, none⟩) l.length gc)), (2, .v (.slice (some ⟨eb, eo, none⟩) l.length ec)), (8, .loc bm 60 0), (37, .v (.slice (some ⟨rb, ro, none⟩) l.length rc)), (38, .v (.int .i64 (l.length : Nat))), (9, .v (.int .i64 (0 : Nat))), (10, .loc b10 62 0), (39, .v (.int .i64 (0 : Nat)))]) (H' := [.blk 62 b10 [.v (.string p.r.lo), .v (.string p.r.hi)] 37, .blk 60 bm [.v (.slice a (0) cap)] 202, .ext 23 (SlA 37 2 (some ⟨rb, ro, none⟩) l.length rc (l.flatMap rgC)), .ext 24 (SlA 3 1 (some ⟨gb, go, none⟩) l.length gc (l.flatMap gpC)), .ext 25 (SlA 3 1 (some ⟨eb, eo, none⟩) l.length ec (l.flatMap ecC)), .ext 61 (SlA 193 4 a 0 cap ((l.take 0).flatMap ptC))]) ?_ sdG seG
        refine r_par (β := Option Addr × Nat) (id := 13) [nq 0 [] (.loc bm 60 0), nq 1 [] (.loc bm 60 0), nq 2 [1] (.loc bm 60 0), nq 3 [2] (.loc bm 60 0), nq 4 [3] (.v (.slice a (0) cap)), nq 5 [] (.agg [.v (.string p.r.lo), .v (.string p.r.hi)]), nq 6 [] (.v (.slice (some ⟨gb, go, none⟩) l.length gc)), nq 7 [] (.v (.int .i64 (0 : Nat))), nq 8 [6, 7] (.v (.pointer (some ⟨gb, go + ((0 : Nat) : Int).toNat * 1, none⟩))), nq 9 [8] (.v (.int .i64 p.group)), nq 10 [] (.v (.slice (some ⟨eb, eo, none⟩) l.length ec)), nq 11 [] (.v (.int .i64 (0 : Nat))), nq 12 [10, 11] (.v (.pointer (some ⟨eb, eo + ((0 : Nat) : Int).toNat * 1, none⟩))), nq 13 [12] (.v (.int .i64 p.epoch)), nq 14 [5, 9, 13] (.agg (ptc p)), ⟨15, [14], some 100, fun _ q2 => .slc q2.2 215 0 1 1, fun _ q2 => [.ext 61 (SlA 193 4 a (0) cap ((l.take (0)).flatMap ptC)), .blk 215 q2.2 (ptc p) 193]⟩, ⟨16, [4, 15], some 15, fun _ q2 => .v (.slice q2.1 (0 + 1) q2.2), fun _ q2 => [.ext 61 (SlA 193 4 q2.1 (0 + 1) q2.2 ((l.take (0)).flatMap ptC ++ denL (ptc p)))]⟩] [⟨100, [], none, fun _ _ => .v undef, fun _ _ => [.ext 61 (SlA 193 4 a 0 cap ((l.take 0).flatMap ptC))]⟩] 3 [.blk 62 b10 [.v (.string p.r.lo), .v (.string p.r.hi)] 37, .blk 60 bm [.v (.slice a (0) cap)] 202, .ext 23 (SlA 37 2 (some ⟨rb, ro, none⟩) l.length rc (l.flatMap rgC)), .ext 24 (SlA 3 1 (some ⟨gb, go, none⟩) l.length gc (l.flatMap gpC)), .ext 25 (SlA 3 1 (some ⟨eb, eo, none⟩) l.length ec (l.flatMap ecC))] mixed (by kernel_rfl) (by kernel_rfl) (by show X.HSub [.ext 61 (SlA 193 4 a 0 cap ((l.take 0).flatMap ptC)), .blk 62 b10 [.v (.string p.r.lo), .v (.string p.r.hi)] 37, .blk 60 bm [.v (.slice a (0) cap)] 202, .ext 23 (SlA 37 2 (some ⟨rb, ro, none⟩) l.length rc (l.flatMap rgC)), .ext 24 (SlA 3 1 (some ⟨gb, go, none⟩) l.length gc (l.flatMap gpC)), .ext 25 (SlA 3 1 (some ⟨eb, eo, none⟩) l.length ec (l.flatMap ecC))] _; exact seG) ?_ ?_
        · conv => whnf
          repeat' (first | ((with_reducible refine And.intro ?_ ?_); all_goals (conv => whnf)) | ((with_reducible intro zz2 AA KP hP); conv => whnf))
          repeat' (first
 | ((with_reducible intro b); conv => whnf)
 | ((with_reducible refine OpK.id ?_); refine OpK.idxA (k := 1) rfl rfl rfl rfl rfl rfl rfl (by omega) (by omega) ?_; conv => whnf)
 | ((with_reducible refine OpK.id ?_); (first | refine OpK.ldp rfl rfl (PC.sl ((0 : Nat) : Int).toNat atG (gp_at hx)) (List.cons_ne_nil _ _) ?_ | refine OpK.ldp rfl rfl (PC.sl ((0 : Nat) : Int).toNat atG (ec_at hx)) (List.cons_ne_nil _ _) ?_ | refine OpK.app (k := 4) rfl rfl rfl rfl rfl rfl rfl rfl atG (SrcK.slc rfl rfl lmG (Nat.le_refl _) rfl) (big_ok (by omega) (by decide)) (fun a' cap' => ?_)); conv => whnf)
 | ((with_reducible refine hP (a', cap') _ _ ?_ ?_); all_goals (first | ((repeat' (first | exact SubD.nil | (refine SubD.cons rfl rfl ?_) | (refine SubD.cons rfl (by simp [den]) ?_))); done) | exact seZ))
 | ((with_reducible refine hP (none, b) _ _ ?_ ?_); all_goals (first | ((repeat' (first | exact SubD.nil | (refine SubD.cons rfl rfl ?_) | (refine SubD.cons rfl (by simp [den]) ?_))); done) | exact seZ))
 | ((with_reducible apply hP); all_goals (first | exact default | ((repeat' (first | exact SubD.nil | (refine SubD.cons rfl rfl ?_) | (refine SubD.cons rfl (by simp [den]) ?_))); done) | exact seZ)))
        conv => whnf
        intro zz
        conv => whnf
        try dsimp only
        have hn : (l.take 0).flatMap ptC ++ denL (ptc p) = (l.take (0 + 1)).flatMap ptC := hsn
        rw [hn]
        repeat' (first
 | ((with_reducible (first | refine r_region ?_ | refine And.intro rfl ?_)); conv => whnf)
 | ((with_reducible refine WrapK.i64 ?_ ?_); (focus omega); conv => whnf)
 | (refine hL2 (0 + 1, zz 16) _ _ (by show 0 + 1 ≤ _; omega) (by show _ - (0 + 1) < _ - 0; omega) suG seG)
 | ((with_reducible ((first | refine InAt.mk (fun K' hK => ?_) | refine AnyAt.mk (fun K' hK => ?_) | (refine hK _ ?_; clear hK K') | (refine hK _ _ ?_; clear hK K')))); conv => whnf)
 | with_reducible apply_assumption -symm -exfalso)
      | succ j =>
        obtain ⟨q, hq⟩ : ∃ q, l[j]? = some q := ⟨_, List.getElem?_eq_getElem (by omega)⟩
        have hlb : p.r.lo = q.r.hi := by rw [hlo]; simp only [OM.befP, hq]
        repeat' (first
 | with_reducible refine r_stopE 13 ?_
 | with_reducible ((first | refine r_seq (fun KS hS => ?_) | (refine hS _ _ ?_; clear hS KS) | (refine hA _ ?_; clear hA KA) | (refine hB _ ?_; clear hB KB) | refine r_block ?_))
 | ((with_reducible (first | refine r_region ?_ | refine r_cond (fun KA hA KB hB => ?_) | refine r_ret ?_ | refine r_skip ?_ | refine And.intro rfl ?_ | intro b)); conv => whnf)
 | ((with_reducible refine WrapK.i64 ?_ ?_); (focus omega); conv => whnf)
 | ((with_reducible refine OpK.id ?_); (first | refine OpK.idxA (k := 2) rfl rfl rfl rfl rfl rfl rfl (by omega) (by omega) ?_ | refine OpK.idxA (k := 1) rfl rfl rfl rfl rfl rfl rfl (by omega) (by omega) ?_); conv => whnf)
 | ((with_reducible refine OpK.id ?_); (first | refine OpK.ldp rfl rfl (PC.sl ((j + 1 : Nat) : Int).toNat atG (prg_at hx)) (List.cons_ne_nil _ _) ?_ | refine OpK.ldp rfl rfl (PC.sl ((j + 1 : Nat) : Int).toNat atG (gp_at hx)) (List.cons_ne_nil _ _) ?_ | refine OpK.ldp rfl rfl (PC.sl ((j + 1 : Nat) : Int).toNat atG (ec_at hx)) (List.cons_ne_nil _ _) ?_); conv => whnf)
 | ((with_reducible refine CallK.at 115 ?_); refine CallK.pu (fun w => hck1115 w) ?_; conv => whnf)
 | (apply in1131; rfl; rfl; rfl; intro A; conv => whnf)
 | ((with_reducible refine OpK.id ?_); (first | (refine OpK.fap rfl rfl (PC.sl _ atG (prg_atZ (j := j) (by push_cast; omega) hq)) ?_) | (refine OpK.ldp rfl rfl ((PC.sl _ atG (prg_atZ (j := j) (by push_cast; omega) hq)).field 1) (List.cons_ne_nil _ _) ?_)); conv => whnf)
 | (((refine if_f ?_ ?_); (focus (exact ndecT hlb)); conv => whnf))
 | (((refine if_f ?_ ?_); (focus (first | (rw [decide_eq_false hhb, decide_eq_false hib]; rfl) | (simp [hhb, hib] <;> fail))); conv => whnf))
 | ((with_reducible apply OpK.more); (focus refine sok); (conv => whnf); fail_if_success guard_target =ₛ False)
 | ((first | refine if_decT (by omega) ?_ | refine if_decF (by omega) ?_ | refine if_ndecF (by omega) ?_); conv => whnf)
 | with_reducible apply_assumption -symm -exfalso)
        refine StopR.mk ?_
        clear b
        obtain ⟨b10, hb10⟩ : ∃ x, x = b := ⟨b, rfl⟩
        subst hb10
        refine Run.weakenD (E' := [(0, .v (.slice (some ⟨rb, ro, none⟩) l.length rc)), (1, .v (.slice (some ⟨gb, go, none⟩) l.length gc)), (2, .v (.slice (some ⟨eb, eo, none⟩) l.length ec)), (8, .loc bm 60 0), (37, .v (.slice (some ⟨rb, ro, none⟩) l.length rc)), (38, .v (.int .i64 (l.length : Nat))), (9, .v (.int .i64 ((j + 1) : Nat))), (10, .loc b10 62 0), (39, .v (.int .i64 ((j + 1) : Nat)))]) (H' := [.blk 62 b10 [.v (.string p.r.lo), .v (.string p.r.hi)] 37, .blk 60 bm [.v (.slice a (j + 1) cap)] 202, .ext 23 (SlA 37 2 (some ⟨rb, ro, none⟩) l.length rc (l.flatMap rgC)), .ext 24 (SlA 3 1 (some ⟨gb, go, none⟩) l.length gc (l.flatMap gpC)), .ext 25 (SlA 3 1 (some ⟨eb, eo, none⟩) l.length ec (l.flatMap ecC)), .ext 61 (SlA 193 4 a (j + 1) cap ((l.take (j + 1)).flatMap ptC))]) ?_ sdG seG
        refine r_par (β := Option Addr × Nat) (id := 13) [nq 0 [] (.loc bm 60 0), nq 1 [] (.loc bm 60 0), nq 2 [1] (.loc bm 60 0), nq 3 [2] (.loc bm 60 0), nq 4 [3] (.v (.slice a (j + 1) cap)), nq 5 [] (.agg [.v (.string p.r.lo), .v (.string p.r.hi)]), nq 6 [] (.v (.slice (some ⟨gb, go, none⟩) l.length gc)), nq 7 [] (.v (.int .i64 (j + 1 : Nat))), nq 8 [6, 7] (.v (.pointer (some ⟨gb, go + ((j + 1 : Nat) : Int).toNat * 1, none⟩))), nq 9 [8] (.v (.int .i64 p.group)), nq 10 [] (.v (.slice (some ⟨eb, eo, none⟩) l.length ec)), nq 11 [] (.v (.int .i64 (j + 1 : Nat))), nq 12 [10, 11] (.v (.pointer (some ⟨eb, eo + ((j + 1 : Nat) : Int).toNat * 1, none⟩))), nq 13 [12] (.v (.int .i64 p.epoch)), nq 14 [5, 9, 13] (.agg (ptc p)), ⟨15, [14], some 100, fun _ q2 => .slc q2.2 215 0 1 1, fun _ q2 => [.ext 61 (SlA 193 4 a (j + 1) cap ((l.take (j + 1)).flatMap ptC)), .blk 215 q2.2 (ptc p) 193]⟩, ⟨16, [4, 15], some 15, fun _ q2 => .v (.slice q2.1 (j + 1 + 1) q2.2), fun _ q2 => [.ext 61 (SlA 193 4 q2.1 (j + 1 + 1) q2.2 ((l.take (j + 1)).flatMap ptC ++ denL (ptc p)))]⟩] [⟨100, [], none, fun _ _ => .v undef, fun _ _ => [.ext 61 (SlA 193 4 a (j + 1) cap ((l.take (j + 1)).flatMap ptC))]⟩] 3 [.blk 62 b10 [.v (.string p.r.lo), .v (.string p.r.hi)] 37, .blk 60 bm [.v (.slice a (j + 1) cap)] 202, .ext 23 (SlA 37 2 (some ⟨rb, ro, none⟩) l.length rc (l.flatMap rgC)), .ext 24 (SlA 3 1 (some ⟨gb, go, none⟩) l.length gc (l.flatMap gpC)), .ext 25 (SlA 3 1 (some ⟨eb, eo, none⟩) l.length ec (l.flatMap ecC))] mixed (by kernel_rfl) (by kernel_rfl) (by show X.HSub [.ext 61 (SlA 193 4 a (j + 1) cap ((l.take (j + 1)).flatMap ptC)), .blk 62 b10 [.v (.string p.r.lo), .v (.string p.r.hi)] 37, .blk 60 bm [.v (.slice a (j + 1) cap)] 202, .ext 23 (SlA 37 2 (some ⟨rb, ro, none⟩) l.length rc (l.flatMap rgC)), .ext 24 (SlA 3 1 (some ⟨gb, go, none⟩) l.length gc (l.flatMap gpC)), .ext 25 (SlA 3 1 (some ⟨eb, eo, none⟩) l.length ec (l.flatMap ecC))] _; exact seG) ?_ ?_
        · conv => whnf
          repeat' (first | ((with_reducible refine And.intro ?_ ?_); all_goals (conv => whnf)) | ((with_reducible intro zz2 AA KP hP); conv => whnf))
          repeat' (first
 | ((with_reducible intro b); conv => whnf)
 | ((with_reducible refine OpK.id ?_); refine OpK.idxA (k := 1) rfl rfl rfl rfl rfl rfl rfl (by omega) (by omega) ?_; conv => whnf)
 | ((with_reducible refine OpK.id ?_); (first | refine OpK.ldp rfl rfl (PC.sl ((j + 1 : Nat) : Int).toNat atG (gp_at hx)) (List.cons_ne_nil _ _) ?_ | refine OpK.ldp rfl rfl (PC.sl ((j + 1 : Nat) : Int).toNat atG (ec_at hx)) (List.cons_ne_nil _ _) ?_ | refine OpK.app (k := 4) rfl rfl rfl rfl rfl rfl rfl rfl atG (SrcK.slc rfl rfl lmG (Nat.le_refl _) rfl) (big_ok (by omega) (by decide)) (fun a' cap' => ?_)); conv => whnf)
 | ((with_reducible refine hP (a', cap') _ _ ?_ ?_); all_goals (first | ((repeat' (first | exact SubD.nil | (refine SubD.cons rfl rfl ?_) | (refine SubD.cons rfl (by simp [den]) ?_))); done) | exact seZ))
 | ((with_reducible refine hP (none, b) _ _ ?_ ?_); all_goals (first | ((repeat' (first | exact SubD.nil | (refine SubD.cons rfl rfl ?_) | (refine SubD.cons rfl (by simp [den]) ?_))); done) | exact seZ))
 | ((with_reducible apply hP); all_goals (first | exact default | ((repeat' (first | exact SubD.nil | (refine SubD.cons rfl rfl ?_) | (refine SubD.cons rfl (by simp [den]) ?_))); done) | exact seZ)))
        conv => whnf
        intro zz
        conv => whnf
        try dsimp only
        have hn : (l.take (j + 1)).flatMap ptC ++ denL (ptc p) = (l.take ((j + 1) + 1)).flatMap ptC := hsn
        rw [hn]
        repeat' (first
 | ((with_reducible (first | refine r_region ?_ | refine And.intro rfl ?_)); conv => whnf)
 | ((with_reducible refine WrapK.i64 ?_ ?_); (focus omega); conv => whnf)
 | (refine hL2 ((j + 1) + 1, zz 16) _ _ (by show (j + 1) + 1 ≤ _; omega) (by show _ - ((j + 1) + 1) < _ - (j + 1); omega) suG seG)
 | ((with_reducible ((first | refine InAt.mk (fun K' hK => ?_) | refine AnyAt.mk (fun K' hK => ?_) | (refine hK _ ?_; clear hK K') | (refine hK _ _ ?_; clear hK K')))); conv => whnf)
 | with_reducible apply_assumption -symm -exfalso)
  · obtain rfl : i = l.length := by omega
    clear hL2
    repeat' (first
 | with_reducible ((first | refine r_seq (fun KS hS => ?_) | (refine hS _ _ ?_; clear hS KS) | (refine hB _ ?_; clear hB KB)))
 | ((with_reducible (first | refine r_region ?_ | refine r_cond (fun KA hA KB hB => ?_) | refine r_ret ?_ | refine r_exit ?_)); conv => whnf)
 | (refine if_decF (by omega) ?_; conv => whnf)
 | with_reducible apply_assumption -symm -exfalso)
    refine FinK.frZL bm rfl ?_
    rw [List.take_length]
    exact HSub.trans (HSub.app2 (A' := [.ext 23 (SlA 37 2 (some ⟨rb, ro, none⟩) l.length rc (l.flatMap rgC)), .ext 24 (SlA 3 1 (some ⟨gb, go, none⟩) l.length gc (l.flatMap gpC)), .ext 25 (SlA 3 1 (some ⟨eb, eo, none⟩) l.length ec (l.flatMap ecC))]) (HSub.refl _) (pts_id (q := 3) (t := bm) (i := 60) (j := 61) (a := a) (cap := cap) (n := l.length) (l := l) rfl)) seG
theorem nm_atZ {A : Pl} {l : List (Int × OM.Sg)} {j : Nat} {z : Int} {x : Int × OM.Sg} (hz : z = (j : Int)) (h : l[j]? = some x) : ((l.flatMap (nmC A)).drop (z.toNat * 11)).take 11 = denL (.v (.int .i64 x.1) :: sgc x.2 (A x.1).1 (A x.1).2) := by subst hz; exact nm_at h
theorem asc_lt {L : SL} (hs : AscS L) {i j : Nat} {x y : Int × OM.Sg} (hx : L[i]? = some x) (hy : L[j]? = some y) (h : i < j) : x.1 < y.1 := by
  obtain ⟨h1, rfl⟩ := List.getElem?_eq_some_iff.1 hx
  obtain ⟨h2, rfl⟩ := List.getElem?_eq_some_iff.1 hy
  exact List.pairwise_iff_getElem.1 hs i j h1 h2 h
theorem putS_end {id : Int} {s : OM.Sg} : ∀ {l : SL}, (∀ x ∈ l, x.1 < id) → OM.putS id s l = l ++ [(id, s)]
  | [], _ => rfl
  | x :: l, h => by
    have := h x (.head _)
    unfold OM.putS
    rw [if_neg (by omega), if_neg (by omega), putS_end (fun y hy => h y (.tail _ hy))]
    rfl
theorem put_take {L : SL} (hs : AscS L) {i : Nat} {x : Int × OM.Sg} (hx : L[i]? = some x) : OM.putS x.1 x.2 (L.take i) = L.take (i + 1) := by
  rw [putS_end (fun y hy => ?_), List.take_succ, hx]
  · rfl
  · obtain ⟨j, hj⟩ := List.mem_iff_getElem?.1 hy
    rw [List.getElem?_take] at hj
    split at hj
    · rename_i hl; exact asc_lt hs hj hx hl
    · cases hj
theorem take_none {L : SL} (hs : AscS L) {i : Nat} {x : Int × OM.Sg} (hx : L[i]? = some x) : getL (L.take i) x.1 = none := by
  unfold getL
  rw [Option.map_eq_none_iff, List.find?_eq_none]
  intro y hy
  obtain ⟨j, hj⟩ := List.mem_iff_getElem?.1 hy
  rw [List.getElem?_take] at hj
  split at hj
  · rename_i hl
    have := asc_lt hs hj hx hl
    simp only [beq_iff_eq]
    omega
  · cases hj
theorem car_of {o : OM.St} (hI : OM.Inv o) (h2 : OM.Inv2 o) (i : Nat) (m : OM.Mv) (hm : o.moves[i]? = some m) : Car o.groups (o.moves.take i) m := by
  have hl : i < o.moves.length := (List.getElem?_eq_some_iff.1 hm).1
  have hml := hI.mlen
  obtain ⟨k1, k2, k3, k4, k5, k6, k7, k8, k9⟩ := hI.mok m (List.mem_of_getElem? hm)
  refine ⟨by rw [List.length_take]; omega, OM.ok_iff.2 k1, ⟨k2, k3⟩, ⟨k4, k5⟩, k6, ⟨k7, k8⟩, h2.dat m (List.mem_of_getElem? hm), k9, fun x hx => OM.ok_iff.2 (hI.mok x (List.mem_of_mem_take hx)).1, fun x hx hs => ?_⟩
  obtain ⟨j, hj⟩ := List.mem_iff_getElem?.1 hx
  rw [List.getElem?_take] at hj
  split at hj
  · rename_i hji; exact h2.before j i x m hj hm hji hs
  · cases hj
theorem inv_room {o : OM.St} (hI : OM.Inv o) : o.room ≥ 0 := by
  have := hI.room
  have h2 := OM.openF_length o.moves 1
  unfold OM.St.room OM.St.openM
  omega
theorem roomO1103 {d t1 t2 t3 : Nat} {o : OM.St} (hI : OM.Inv o) (w : World) :
    Fr Tryz.prog 103 #[pv d] w (AssL [.blk 0 d [.v (.int .i64 o.groups), .v (.int .i64 o.done), .loc t1 20 0, .loc t2 21 0, .loc t3 22 0] 121, .ext 1 (TabA t1 o.sagas), .ext 2 (MvsA t2 o.moves), .ext 3 (PtsA t3 o.parts)]) (.int .i64 o.room) (AssL [.blk 0 d [.v (.int .i64 o.groups), .v (.int .i64 o.done), .loc t1 20 0, .loc t2 21 0, .loc t3 22 0] 121, .ext 1 (TabA t1 o.sagas), .ext 2 (MvsA t2 o.moves), .ext 3 (PtsA t3 o.parts)]) := by
  have hml := hI.mlen
  have hpl : o.parts.length ≤ 64 := by have := hI.room; omega
  refine enter_fr TBok (H := [.blk 0 d [.v (.int .i64 o.groups), .v (.int .i64 o.done), .loc t1 20 0, .loc t2 21 0, .loc t3 22 0] 121, .ext 1 (TabA t1 o.sagas), .ext 2 (MvsA t2 o.moves), .ext 3 (PtsA t3 o.parts)]) all_foot Tryz.func103 rfl rfl Tryz.ntmps103 [.loc d 0 0] rfl rfl ?_
  intro S
  conv => whnf
  have hp0 : 0 < o.parts.length := List.length_pos_iff.2 hI.cov.2
  have hol := OM.openF_length o.moves 1
  have hol2 := List.countP_le_length (p := OM.isOpen) (l := o.moves)
  repeat' (first
 | with_reducible refine r_stop 1 ?_
 | with_reducible ((first | refine r_seq (fun KS hS => ?_) | (refine hS _ _ ?_; clear hS KS)))
 | ((with_reducible refine r_region ?_); conv => whnf))
  refine StopR.mk ?_
  refine r_seq (fun KS hS => ?_)
  refine r_par (β := Option Addr × Nat) (id := 1) [nq 0 [] (.loc d 0 0), nq 1 [0] (.loc d 0 0), nq 2 [1] (.loc d 0 4), nq 3 [2] (.loc t3 22 0), ⟨4, [3], none, fun _ z2 => .v (.slice z2.1 o.parts.length z2.2), fun _ z2 => [.ext 90 (SlA 37 2 z2.1 o.parts.length z2.2 (o.parts.flatMap rgC))]⟩, nq 5 [4] (.v (.int .i64 (o.parts.length : Int))), nq 6 [5] (.v (.int .i64 (64 - (o.parts.length : Int)))), nq 7 [] (.loc d 0 0), nq 8 [7] (.loc d 0 0), nq 9 [8] (.loc d 0 3), nq 10 [9] (.loc t2 21 0), ⟨11, [10], none, fun _ z2 => .v (.slice z2.1 (OM.openF 1 o.moves).length z2.2), fun _ z2 => [.ext 91 (SlA 3 1 z2.1 (OM.openF 1 o.moves).length z2.2 (opI o.moves))]⟩, nq 12 [11] (.v (.int .i64 ((OM.openF 1 o.moves).length : Int))), nq 13 [12] (.v (.int .i64 (2 * ((OM.openF 1 o.moves).length : Int)))), nq 14 [6, 13] (.v (.int .i64 (64 - (o.parts.length : Int) - 2 * ((OM.openF 1 o.moves).length : Int))))] [] 1 _ mixed (by kernel_rfl) (by kernel_rfl) (HSub.refl _) ?_ ?_
  · conv => whnf
    repeat' (first | ((with_reducible refine And.intro ?_ ?_); all_goals (conv => whnf)) | ((with_reducible intro zz AA KP hP); conv => whnf))
    repeat' (first
 | ((with_reducible intro b); conv => whnf)
 | ((with_reducible refine WrapK.i64 ?_ ?_); (focus omega); conv => whnf)
 | ((with_reducible refine CallK.id ?_); (first | refine CallK.s1 rmG (fun ms w hk => ranges1060 (l := o.parts) hp0 (by omega) w) ?_ | refine CallK.s1 rmG (fun ms w hk => mopenL1074 (l := o.moves) hml w) ?_); conv => whnf)
 | ((with_reducible apply hP); all_goals (first | exact default | ((repeat' (first | exact SubD.nil | (refine SubD.cons rfl rfl ?_) | (refine SubD.cons rfl (by simp [den]) ?_))); done) | exact seZ)))
  conv => whnf
  intro zz
  conv => whnf
  try dsimp only
  repeat' (first
 | with_reducible (refine hS _ _ ?_; clear hS KS)
 | ((with_reducible refine r_ret ?_); conv => whnf)
 | ((with_reducible ((first | refine InAt.mk (fun K' hK => ?_) | (refine hK _ ?_; clear hK K')))); conv => whnf))
  all_goals exact FinK.frL rfl seG
theorem possible1089 {d : Nat} {o : OM.St} (hI : OM.Inv o) (w : World) :
    Fr Tryz.prog 89 #[pv d] w (AssL [.ext 12 (OrchA d o)]) (.bool true) (AssL [.ext 12 (OrchA d o)]) := by
  have hml := hI.mlen
  have hmo := inv_mok hI
  have hpo := inv_pok hI
  have hpl : o.parts.length ≤ 64 := by have := hI.room; omega
  have hp0 : 0 < o.parts.length := List.length_pos_iff.2 hI.cov.2
  have hol := OM.openF_length o.moves 1
  have hol2 := List.countP_le_length (p := OM.isOpen) (l := o.moves)
  have hrm := inv_room hI
  have hmx : mxG o.parts o.parts.length < o.groups := mxG_lt hI.cov.2 (fun p hp => (hI.prt p hp).2.1) _
  have hrom1103 := fun t1 t2 t3 w => roomO1103 (d := d) (t1 := t1) (t2 := t2) (t3 := t3) hI w
  refine enter_fr TBok (H := [.ext 12 (OrchA d o)]) all_foot Tryz.func89 rfl rfl Tryz.ntmps89 [.loc d 0 0] rfl rfl ?_
  intro S
  conv => whnf
  refine Run.ex (A := orH d o) (i := 12) rmG ?_
  rintro ⟨t1, t2, t3⟩
  dsimp only [orH, layF]
  repeat' (first
 | with_reducible ((first | refine r_seq (fun KS hS => ?_) | (refine hS _ _ ?_; clear hS KS) | refine r_block ?_))
 | ((with_reducible (first | refine r_region ?_ | refine And.intro rfl ?_ | intro b)); conv => whnf)
 | ((with_reducible refine CallK.id ?_); refine CallK.s1 rmG (fun ms w hk => mopenL1074 (l := o.moves) hml w) ?_; conv => whnf))
  obtain ⟨al, cl⟩ := b
  dsimp only
  refine Run.weakenD (E' := [(0, .loc d 0 0), (14, .v (.slice al (OM.openF 1 o.moves).length cl)), (15, .v (.int .i64 ((OM.openF 1 o.moves).length : Nat))), (16, .v (.int .i64 ((0 : Nat) : Int)))]) (H' := [.blk 0 d [.v (.int .i64 o.groups), .v (.int .i64 o.done), .loc t1 20 0, .loc t2 21 0, .loc t3 22 0] 121, .ext 1 (TabA t1 o.sagas), .ext 2 (MvsA t2 o.moves), .ext 3 (PtsA t3 o.parts), .ext 91 (SlA 3 1 al (OM.openF 1 o.moves).length cl (opI o.moves))]) ?_ sdG seG
  refine r_loop (α := Nat) (fun i => [(0, .loc d 0 0), (14, .v (.slice al (OM.openF 1 o.moves).length cl)), (15, .v (.int .i64 ((OM.openF 1 o.moves).length : Nat))), (16, .v (.int .i64 (i : Nat)))]) (fun _ => [.blk 0 d [.v (.int .i64 o.groups), .v (.int .i64 o.done), .loc t1 20 0, .loc t2 21 0, .loc t3 22 0] 121, .ext 1 (TabA t1 o.sagas), .ext 2 (MvsA t2 o.moves), .ext 3 (PtsA t3 o.parts), .ext 91 (SlA 3 1 al (OM.openF 1 o.moves).length cl (opI o.moves))]) (fun i => i ≤ (OM.openF 1 o.moves).length) (fun i => (OM.openF 1 o.moves).length - i) 0 (Nat.zero_le _) suG seG ?_
  intro i hi KL hL
  by_cases hlt : i < (OM.openF 1 o.moves).length
  · obtain ⟨x, hx⟩ : ∃ x, (OM.openF 1 o.moves)[i]? = some x := ⟨_, List.getElem?_eq_getElem hlt⟩
    have hxc := oi_at (l := o.moves) hx
    obtain ⟨n, m⟩ := x
    obtain ⟨q, hq, hn, hst⟩ := OM.openF_mem.1 (List.mem_of_getElem? hx)
    have hn : n = ((q : Nat) : Int) + 1 := by omega
    subst hn
    have hmr := hmo m (List.mem_of_getElem? hq)
    have how1099 := fun t w => owner1099 (t := t) hp0 (by omega) hpo hmr w
    have hov : OM.ownerF m.r 0 o.parts = some m.fr := hI.owner (List.mem_of_getElem? hq) hst
    have hfr := (hI.mok m (List.mem_of_getElem? hq)).2.1
    have hovv : ownV (OM.ownerF m.r 0 o.parts) = .tuple #[.int .i64 m.fr, .bool true, .int .i64 0] := by
      rw [hov]; simp only [ownV]; rw [decide_eq_true (by omega)]
    rw [hovv] at how1099
    repeat' (first
 | with_reducible ((first | refine r_seq (fun KS hS => ?_) | (refine hS _ _ ?_; clear hS KS) | (refine hA _ ?_; clear hA KA) | (refine hB _ ?_; clear hB KB) | refine r_block ?_))
 | ((with_reducible (first | refine r_region ?_ | refine r_cond (fun KA hA KB hB => ?_) | refine r_skip ?_ | refine And.intro rfl ?_ | intro b)); conv => whnf)
 | ((with_reducible refine WrapK.i64 ?_ ?_); (focus omega); conv => whnf)
 | ((with_reducible refine OpK.id ?_); (first | refine OpK.idx (k := 1) rfl rfl rfl rfl rfl rfl rfl (Sees.ext atG) (by omega) (by omega) hxc (fun b off hp => ?_) | refine OpK.ldp rfl rfl hp (List.cons_ne_nil _ _) ?_); conv => whnf)
 | ((with_reducible refine CallK.id ?_); refine CallK.s1V rmG (fun ms w hk => mget1065 hq hml w) ?_; conv => whnf)
 | (apply r_split 6 (id := 5); refine mixed; kernel_rfl; kernel_rfl; kernel_rfl; intro K' hK; conv => whnf)
 | ((with_reducible refine CallK.id ?_); refine CallK.s1V rmG (fun ms w hk => how1099 _ w) ?_; conv => whnf)
 | (((refine if_f ?_ ?_); (focus (simp only [eq_self, decide_true, Bool.and_true, Bool.and_self, Bool.not_true, beq_self_eq_true] <;> fail)); conv => whnf))
 | (refine hL (i + 1) _ _ (by show i + 1 ≤ _; omega) (by show _ - (i + 1) < _ - i; omega) suG seG)
 | ((with_reducible ((first | refine InAt.mk (fun K' hK => ?_) | refine AnyAt.mk (fun K' hK => ?_) | (refine hK _ ?_; clear hK K') | (refine hK _ _ ?_; clear hK K')))); conv => whnf)
 | (refine if_decT (by omega) ?_; conv => whnf)
 | with_reducible apply_assumption -symm -exfalso)
  · obtain rfl : i = (OM.openF 1 o.moves).length := by omega
    repeat' (first
 | with_reducible refine r_stop 9 ?_
 | with_reducible ((first | refine r_seq (fun KS hS => ?_) | (refine hS _ _ ?_; clear hS KS) | (refine hB _ ?_; clear hB KB)))
 | ((with_reducible (first | refine r_region ?_ | refine r_cond (fun KA hA KB hB => ?_) | refine r_exit ?_)); conv => whnf)
 | (refine if_decF (by omega) ?_; conv => whnf)
 | with_reducible apply_assumption -symm -exfalso)
    refine StopR.mk ?_
    refine r_seq (fun KS hS => ?_)
    refine r_par (β := Option Addr × Nat) (id := 9) [nq 0 [] (.loc d 0 0),
      nq 1 [0] (.loc d 0 0),
      nq 2 [1] (.loc d 0 4),
      nq 3 [2] (.loc t3 22 0),
      ⟨4, [3], none, fun _ q2 => .v (.slice q2.1 o.parts.length q2.2), fun _ q2 => [.ext 90 (SlA 3 1 q2.1 o.parts.length q2.2 (o.parts.flatMap gpC))]⟩,
      ⟨5, [4], some 4, fun _ _ => .v (.int .i64 (mxG o.parts o.parts.length)), fun _ _ => []⟩,
      nq 6 [] (.loc d 0 0),
      nq 7 [6] (.loc d 0 0),
      nq 8 [7] (.loc d 0 0),
      nq 9 [8] (.v (.int .i64 o.groups)),
      nq 10 [5, 9] (.v (.bool (decide (mxG o.parts o.parts.length < o.groups)))),
      nq 11 [10] (.v (.bool (decide (mxG o.parts o.parts.length < o.groups)))),
      nq 12 [11] (.loc d 0 0),
      nq 13 [12, 11] (.v (.int .i64 o.room)),
      nq 14 [13, 11] (.v (.bool (decide (o.room ≥ 0)))),
      nq 15 [11, 14] (.v (.bool (decide (o.room ≥ 0))))] [] 1 [.blk 0 d [.v (.int .i64 o.groups), .v (.int .i64 o.done), .loc t1 20 0, .loc t2 21 0, .loc t3 22 0] 121, .ext 1 (TabA t1 o.sagas), .ext 2 (MvsA t2 o.moves), .ext 3 (PtsA t3 o.parts)] mixed (by kernel_rfl) (by kernel_rfl) seG ?_ ?_
    · conv => whnf
      repeat' (first | ((with_reducible refine And.intro ?_ ?_); all_goals (conv => whnf)) | ((with_reducible intro zz2 AA KP hP); conv => whnf))
      repeat' (first
 | ((with_reducible intro b); conv => whnf)
 | ((with_reducible refine CallK.id ?_); refine CallK.s1 rmG (fun ms w hk => groups1061 (l := o.parts) hp0 (by omega) w) ?_; conv => whnf)
 | ((with_reducible refine CallK.at 139 ?_); refine CallK.puW (fun ms w hk => max1139 (Sees.rd (Sees.ext atG) hk) hp0 (by omega)) ?_; conv => whnf)
 | ((with_reducible refine CallK.id ?_); refine CallK.selV (by apply Sel.cons; (case h => exact rmG); apply Sel.cons; (case h => exact rmG); apply Sel.cons; (case h => exact rmG); apply Sel.cons; (case h => exact rmG); exact Sel.nil) (fun ms w hk => hrom1103 _ _ _ w) ?_; conv => whnf)
 | ((with_reducible apply hP); all_goals (first | exact default | ((repeat' (first | exact SubD.nil | (refine SubD.cons rfl rfl ?_) | (refine SubD.cons rfl (by simp [den]) ?_))); done) | exact seZ))
 | (refine if_decT (by omega) ?_; conv => whnf))
    conv => whnf
    intro zz
    conv => whnf
    try dsimp only
    repeat' (first
 | with_reducible (refine hS _ _ ?_; clear hS KS)
 | ((with_reducible refine r_ret ?_); conv => whnf)
 | ((with_reducible ((first | refine InAt.mk (fun K' hK => ?_) | (refine hK _ ?_; clear hK K')))); conv => whnf))
    all_goals exact FinK.frL (by rw [decide_eq_true hrm]; rfl) (HSub.trans (or_id (i := 0) (j := 1) (k := 2) (l := 3) (d := d) (s := o) (t1 := t1) (t2 := t2) (t3 := t3)) seG)
theorem b4loc {b d : Nat} {L H : List Blk} (h : X.HSub (.blk 16 b [.v (pv d)] 23 :: L) H) : X.HSub (.blk 16 b [.loc d 0 0] 23 :: L) H := HSub.trans (show X.HSub (.blk 16 b [.loc d 0 0] 23 :: L) (.blk 16 b [.v (pv d)] 23 :: L) from HSub.keep rfl (HSub.refl _)) h
theorem b4pv {b d : Nat} {L H : List Blk} (h : X.HSub (.blk 16 b [.loc d 0 0] 23 :: L) H) : X.HSub (.blk 16 b [.v (pv d)] 23 :: L) H := HSub.trans (show X.HSub (.blk 16 b [.v (pv d)] 23 :: L) (.blk 16 b [.loc d 0 0] 23 :: L) from HSub.keep rfl (HSub.refl _)) h
theorem or_idM {d t1 t2 t3 : Nat} {s : OM.St} {i j k l q : Nat} : X.HSub [.ext q (OrchA d s)] [.blk i d [.v (.int .i64 s.groups), .v (.int .i64 s.done), .loc t1 20 0, .loc t2 21 0, .v (pv t3)] 121, .ext j (TabA t1 s.sagas), .ext k (MvsA t2 s.moves), .ext l (PtsA t3 s.parts)] :=
  HSub.trans (or_id (i := 0) (j := j) (k := k) (l := l)) (HSub.keep rfl (HSub.refl _))
theorem restore1040 {o : OM.St} {z : StZ} (hI : OM.Inv o) (hI2 : OM.Inv2 o) (w : World) :
    FrZ Tryz.prog 40 #[.agg (denL (stateV o z)).toArray] w (AssL (stateH o z)) (fun d : Nat => .tuple #[pv d, .int .i64 0]) (fun d => AssL [.ext 12 (OrchA d o)]) := by
  obtain ⟨⟨sa, sc⟩, P, ⟨ma, mc⟩, ⟨ra, rc⟩, ⟨wa, wc⟩, ⟨ea, ec⟩⟩ := z
  dsimp only [stateV, stateH]
  have hgr := hI.gr
  have hdn := hI.dn
  have hml := hI.mlen
  have hsl := hI.slen
  have hp0 : 0 < o.parts.length := List.length_pos_iff.2 hI.cov.2
  have hpl : o.parts.length ≤ 64 := by have := hI.room; omega
  have hnew1030 := fun w => new1030 (g := o.groups) hgr w
  refine enter_frZ TBok (H := [.ext 20 (SlA 76 11 sa o.sagas.length sc (o.sagas.flatMap (nmC P))), .ext 21 (StA o.sagas P), .ext 22 (SlA 83 6 ma o.moves.length mc (o.moves.flatMap mvC)), .ext 23 (SlA 37 2 ra o.parts.length rc (o.parts.flatMap rgC)), .ext 24 (SlA 3 1 wa o.parts.length wc (o.parts.flatMap gpC)), .ext 25 (SlA 3 1 ea o.parts.length ec (o.parts.flatMap ecC))]) all_foot Tryz.func40 rfl rfl Tryz.ntmps40 [.agg [.v (.int .i64 o.groups), .v (.int .i64 o.done), .v (.slice sa o.sagas.length sc), .v (.slice ma o.moves.length mc), .v (.slice ra o.parts.length rc), .v (.slice wa o.parts.length wc), .v (.slice ea o.parts.length ec)]] rfl rfl ?_
  intro S hz8 hz9
  clear hz8 hz9
  conv => whnf
  repeat' (first
 | with_reducible refine r_stop 4 ?_
 | with_reducible ((first | refine r_seq (fun KS hS => ?_) | (refine hS _ _ ?_; clear hS KS) | (refine hB _ ?_; clear hB KB)))
 | ((with_reducible (first | refine r_region ?_ | refine r_cond (fun KA hA KB hB => ?_) | refine r_skip ?_ | refine And.intro rfl ?_ | intro b)); conv => whnf)
 | ((with_reducible refine CallK.id ?_); refine CallK.fresh (fun ms w hk => hnew1030 w) ?_; conv => whnf)
 | (refine if_decF (by omega) ?_; conv => whnf)
 | with_reducible apply_assumption -symm -exfalso)
  refine StopR.mk ?_
  obtain ⟨b4, hb4⟩ : ∃ x, x = b := ⟨b, rfl⟩
  subst hb4
  obtain ⟨d, hd⟩ : ∃ x, x = b := ⟨b, rfl⟩
  subst hd
  obtain ⟨bx, hbx⟩ : ∃ x, x = b := ⟨b, rfl⟩
  subst hbx
  refine Run.weakenD (E' := [(1, .loc bx 17 0), (4, .loc b4 16 0)]) (H' := [.blk 17 bx [.v (.int .i64 o.groups), .v (.int .i64 o.done), .v (.slice sa o.sagas.length sc), .v (.slice ma o.moves.length mc), .v (.slice ra o.parts.length rc), .v (.slice wa o.parts.length wc), .v (.slice ea o.parts.length ec)] 72, .blk 16 b4 [.v (pv d)] 23, .ext 12 (OrchA d (OM.init o.groups)), .ext 20 (SlA 76 11 sa o.sagas.length sc (o.sagas.flatMap (nmC P))), .ext 21 (StA o.sagas P), .ext 22 (SlA 83 6 ma o.moves.length mc (o.moves.flatMap mvC)), .ext 23 (SlA 37 2 ra o.parts.length rc (o.parts.flatMap rgC)), .ext 24 (SlA 3 1 wa o.parts.length wc (o.parts.flatMap gpC)), .ext 25 (SlA 3 1 ea o.parts.length ec (o.parts.flatMap ecC))]) ?_ sdG seG
  refine Run.ex (A := orH d (OM.init o.groups)) (i := 12) rmG ?_
  rintro ⟨t1, t2, t3⟩
  dsimp only [orH, layF]
  refine Run.weakenD (E' := [(1, .loc bx 17 0), (4, .loc b4 16 0)]) (H' := [.blk 16 b4 [.loc d 0 0] 23, .blk 17 bx [.v (.int .i64 o.groups), .v (.int .i64 o.done), .v (.slice sa o.sagas.length sc), .v (.slice ma o.moves.length mc), .v (.slice ra o.parts.length rc), .v (.slice wa o.parts.length wc), .v (.slice ea o.parts.length ec)] 72, .blk 0 d [.v (.int .i64 o.groups), .v (.int .i64 0), .loc t1 20 0, .loc t2 21 0, .loc t3 22 0] 121, .ext 1 (TabA t1 []), .ext 2 (MvsA t2 []), .ext 3 (PtsA t3 [⟨⟨OM.eps, OM.eps⟩, 1, 1⟩]), .ext 20 (SlA 76 11 sa o.sagas.length sc (o.sagas.flatMap (nmC P))), .ext 21 (StA o.sagas P), .ext 22 (SlA 83 6 ma o.moves.length mc (o.moves.flatMap mvC)), .ext 23 (SlA 37 2 ra o.parts.length rc (o.parts.flatMap rgC)), .ext 24 (SlA 3 1 wa o.parts.length wc (o.parts.flatMap gpC)), .ext 25 (SlA 3 1 ea o.parts.length ec (o.parts.flatMap ecC))]) ?_ sdG (b4loc seG)
  repeat' (first
 | with_reducible ((first | refine r_seq (fun KS hS => ?_) | (refine hS _ _ ?_; clear hS KS) | refine r_block ?_))
 | ((with_reducible (first | refine r_region ?_ | refine And.intro rfl ?_)); conv => whnf))
  refine r_loop (α := Nat) (fun i => [(1, .loc bx 17 0), (4, .loc b4 16 0), (32, .v (.slice sa o.sagas.length sc)), (33, .v (.int .i64 (o.sagas.length : Nat))), (34, .v (.int .i64 ((i : Nat) : Int)))]) (fun i => [.blk 17 bx [.v (.int .i64 o.groups), .v (.int .i64 o.done), .v (.slice sa o.sagas.length sc), .v (.slice ma o.moves.length mc), .v (.slice ra o.parts.length rc), .v (.slice wa o.parts.length wc), .v (.slice ea o.parts.length ec)] 72, .blk 16 b4 [.loc d 0 0] 23, .blk 0 d [.v (.int .i64 o.groups), .v (.int .i64 o.done), .loc t1 20 0, .loc t2 21 0, .loc t3 22 0] 121, .ext 1 (TabA t1 (o.sagas.take i)), .ext 2 (MvsA t2 []), .ext 3 (PtsA t3 [⟨⟨OM.eps, OM.eps⟩, 1, 1⟩]), .ext 20 (SlA 76 11 sa o.sagas.length sc (o.sagas.flatMap (nmC P))), .ext 21 (StA o.sagas P), .ext 22 (SlA 83 6 ma o.moves.length mc (o.moves.flatMap mvC)), .ext 23 (SlA 37 2 ra o.parts.length rc (o.parts.flatMap rgC)), .ext 24 (SlA 3 1 wa o.parts.length wc (o.parts.flatMap gpC)), .ext 25 (SlA 3 1 ea o.parts.length ec (o.parts.flatMap ecC))]) (fun i => i ≤ o.sagas.length) (fun i => o.sagas.length - i) 0 (Nat.zero_le _) suG seG ?_
  intro i hi KL hL
  by_cases hlt : i < o.sagas.length
  · obtain ⟨x, hx⟩ : ∃ x, o.sagas[i]? = some x := ⟨_, List.getElem?_eq_getElem hlt⟩
    obtain ⟨id, s⟩ := x
    have hxm := List.mem_of_getElem? hx
    obtain ⟨hz1, hz2, hso⟩ := hI.sok _ hxm
    have htl : (o.sagas.take i).length < 64 := by rw [List.length_take]; omega
    have hput1085 := fun t w => tput1085 (t := t) (L0 := o.sagas) (P0 := P) (hI.srt.sublist (List.take_sublist i _)) htl (take_none hI.srt hx) ⟨hz1, hz2⟩ hso hxm w
    simp only [put_take hI.srt hx] at hput1085
    refine Run.slAddr (i := 20) atG (by omega) (fun sb so hsa => ?_)
    subst hsa
    cases i with
    | zero =>
        repeat' (first
 | with_reducible refine r_stopE 8 ?_
 | with_reducible ((first | refine r_seq (fun KS hS => ?_) | (refine hS _ _ ?_; clear hS KS) | (refine hA _ ?_; clear hA KA) | refine r_block ?_))
 | ((with_reducible (first | refine r_region ?_ | refine r_cond (fun KA hA KB hB => ?_) | refine r_skip ?_ | refine And.intro rfl ?_ | intro b)); conv => whnf)
 | ((with_reducible refine OpK.id ?_); (first | refine OpK.idx (k := 11) rfl rfl rfl rfl rfl rfl rfl (Sees.ext atG) (by omega) (by omega) (nm_at hx) (fun b off hp => ?_) | refine OpK.ldp rfl rfl hp (List.cons_ne_nil _ _) ?_); conv => whnf)
 | (refine if_decT (by omega) ?_; conv => whnf)
 | with_reducible apply_assumption -symm -exfalso)
        refine StopR.mk ?_
        obtain ⟨b7, hb7⟩ : ∃ x, x = b := ⟨b, rfl⟩
        subst hb7
        refine Run.weakenD (E' := [(6, .v (.int .i64 ((0 : Nat) : Int))), (7, .loc b7 71 0), (1, .loc bx 17 0), (4, .loc b4 16 0), (32, .v (.slice (some ⟨sb, so, none⟩) o.sagas.length sc)), (33, .v (.int .i64 (o.sagas.length : Nat))), (34, .v (.int .i64 ((0 : Nat) : Int)))]) (H' := [.blk 71 b7 (.v (.int .i64 id) :: sgc s (P id).1 (P id).2) 76, .blk 17 bx [.v (.int .i64 o.groups), .v (.int .i64 o.done), .v (.slice (some ⟨sb, so, none⟩) o.sagas.length sc), .v (.slice ma o.moves.length mc), .v (.slice ra o.parts.length rc), .v (.slice wa o.parts.length wc), .v (.slice ea o.parts.length ec)] 72, .blk 16 b4 [.loc d 0 0] 23, .blk 0 d [.v (.int .i64 o.groups), .v (.int .i64 o.done), .loc t1 20 0, .loc t2 21 0, .loc t3 22 0] 121, .ext 1 (TabA t1 (o.sagas.take (0))), .ext 2 (MvsA t2 []), .ext 3 (PtsA t3 [⟨⟨OM.eps, OM.eps⟩, 1, 1⟩]), .ext 20 (SlA 76 11 (some ⟨sb, so, none⟩) o.sagas.length sc (o.sagas.flatMap (nmC P))), .ext 21 (StA o.sagas P), .ext 22 (SlA 83 6 ma o.moves.length mc (o.moves.flatMap mvC)), .ext 23 (SlA 37 2 ra o.parts.length rc (o.parts.flatMap rgC)), .ext 24 (SlA 3 1 wa o.parts.length wc (o.parts.flatMap gpC)), .ext 25 (SlA 3 1 ea o.parts.length ec (o.parts.flatMap ecC))]) ?_ sdG seG
        refine r_par (β := Nat) (id := 8) [nq 0 [] (.v (.int .i64 ((0 : Nat) : Int))),
      nq 1 [0] (.v (.bool (decide (((0 : Nat) : Int) > 0)))),
      nq 2 [1] (.v (.bool (decide (((0 : Nat) : Int) > 0)))),
      nq 3 [2] (.v undef),
      nq 4 [3, 2] (.v undef),
      nq 5 [2] (.v undef),
      nq 6 [5, 2] (.v undef),
      nq 7 [2] (.v undef),
      nq 8 [7, 2] (.v undef),
      nq 9 [6, 8, 2] (.v undef),
      nq 10 [9, 2] (.v undef),
      nq 11 [10, 2] (.v undef),
      nq 12 [4, 11, 2] (.v undef),
      nq 13 [2, 12] (.v (.bool (decide (((0 : Nat) : Int) > 0)))),
      nq 14 [13] (.v (.bool (decide (((0 : Nat) : Int) > 0)))),
      nq 15 [14] (.loc d 0 0),
      nq 16 [15, 14] (.loc d 0 0),
      nq 17 [16, 14] (.loc d 0 2),
      nq 18 [17, 14] (.loc t1 20 0),
      nq 19 [14] (.loc b7 71 0),
      nq 20 [19, 14] (.v (.int .i64 id)),
      nq 21 [14] (.loc b7 71 1),
      nq 22 [21, 14] (.agg (sgc s (P id).1 (P id).2)),
      ⟨23, [18, 20, 22, 14], some 100, fun _ _ => .v (.int .i64 0), fun _ _ => [.ext 40 (TabA t1 (o.sagas.take (0 + 1)))]⟩,
      nq 24 [23, 14] (.v (.bool (!decide ((0 : Int) = 0)))),
      nq 25 [14, 24] (.v (.bool (!decide ((0 : Int) = 0))))] [⟨100, [], none, fun _ _ => .v undef, fun _ _ => [.ext 41 (TabA t1 (o.sagas.take (0)))]⟩] 0 [.blk 71 b7 (.v (.int .i64 id) :: sgc s (P id).1 (P id).2) 76, .blk 17 bx [.v (.int .i64 o.groups), .v (.int .i64 o.done), .v (.slice (some ⟨sb, so, none⟩) o.sagas.length sc), .v (.slice ma o.moves.length mc), .v (.slice ra o.parts.length rc), .v (.slice wa o.parts.length wc), .v (.slice ea o.parts.length ec)] 72, .blk 16 b4 [.loc d 0 0] 23, .blk 0 d [.v (.int .i64 o.groups), .v (.int .i64 o.done), .loc t1 20 0, .loc t2 21 0, .loc t3 22 0] 121, .ext 2 (MvsA t2 []), .ext 3 (PtsA t3 [⟨⟨OM.eps, OM.eps⟩, 1, 1⟩]), .ext 20 (SlA 76 11 (some ⟨sb, so, none⟩) o.sagas.length sc (o.sagas.flatMap (nmC P))), .ext 21 (StA o.sagas P), .ext 22 (SlA 83 6 ma o.moves.length mc (o.moves.flatMap mvC)), .ext 23 (SlA 37 2 ra o.parts.length rc (o.parts.flatMap rgC)), .ext 24 (SlA 3 1 wa o.parts.length wc (o.parts.flatMap gpC)), .ext 25 (SlA 3 1 ea o.parts.length ec (o.parts.flatMap ecC))] mixed (by kernel_rfl) (by kernel_rfl) seG ?_ ?_
        · conv => whnf
          repeat' (first | ((with_reducible refine And.intro ?_ ?_); all_goals (conv => whnf)) | ((with_reducible intro zz2 AA KP hP); conv => whnf))
          repeat' (first
 | ((with_reducible refine CallK.id ?_); refine CallK.s2V rmG rmG (fun ms w hk => hput1085 _ w) ?_; conv => whnf)
 | ((with_reducible apply hP); all_goals (first | exact default | ((repeat' (first | exact SubD.nil | (refine SubD.cons rfl rfl ?_) | (refine SubD.cons rfl (by simp [den]) ?_))); done) | exact seZ)))
        conv => whnf
        intro zz
        conv => whnf
        try dsimp only
        repeat' (first
 | with_reducible ((first | (refine hS _ _ ?_; clear hS KS) | (refine hB _ ?_; clear hB KB)))
 | ((with_reducible (first | refine r_region ?_ | refine r_cond (fun KA hA KB hB => ?_) | refine r_skip ?_)); conv => whnf)
 | ((with_reducible refine WrapK.i64 ?_ ?_); (focus omega); conv => whnf)
 | (refine hL (0 + 1) _ _ (by show 0 + 1 ≤ _; omega) (by show _ - ((0) + 1) < _ - (0); omega) suG seG)
 | with_reducible apply_assumption -symm -exfalso)
    | succ j =>
        obtain ⟨y, hy⟩ : ∃ y, o.sagas[j]? = some y := ⟨_, List.getElem?_eq_getElem (by omega)⟩
        obtain ⟨idj, sj⟩ := y
        have hlt2 : ¬ id ≤ idj := by
          have := asc_lt hI.srt hy hx (Nat.lt_succ_self j)
          dsimp only at this; omega
        repeat' (first
 | with_reducible refine r_stopE 8 ?_
 | with_reducible ((first | refine r_seq (fun KS hS => ?_) | (refine hS _ _ ?_; clear hS KS) | (refine hA _ ?_; clear hA KA) | refine r_block ?_))
 | ((with_reducible (first | refine r_region ?_ | refine r_cond (fun KA hA KB hB => ?_) | refine r_skip ?_ | refine And.intro rfl ?_ | intro b)); conv => whnf)
 | ((with_reducible refine OpK.id ?_); (first | refine OpK.idx (k := 11) rfl rfl rfl rfl rfl rfl rfl (Sees.ext atG) (by omega) (by omega) (nm_at hx) (fun b off hp => ?_) | refine OpK.ldp rfl rfl hp (List.cons_ne_nil _ _) ?_); conv => whnf)
 | (refine if_decT (by omega) ?_; conv => whnf)
 | with_reducible apply_assumption -symm -exfalso)
        refine StopR.mk ?_
        obtain ⟨b7, hb7⟩ : ∃ x, x = b := ⟨b, rfl⟩
        subst hb7
        refine Run.weakenD (E' := [(6, .v (.int .i64 ((j + 1 : Nat) : Int))), (7, .loc b7 71 0), (1, .loc bx 17 0), (4, .loc b4 16 0), (32, .v (.slice (some ⟨sb, so, none⟩) o.sagas.length sc)), (33, .v (.int .i64 (o.sagas.length : Nat))), (34, .v (.int .i64 ((j + 1 : Nat) : Int)))]) (H' := [.blk 71 b7 (.v (.int .i64 id) :: sgc s (P id).1 (P id).2) 76, .blk 17 bx [.v (.int .i64 o.groups), .v (.int .i64 o.done), .v (.slice (some ⟨sb, so, none⟩) o.sagas.length sc), .v (.slice ma o.moves.length mc), .v (.slice ra o.parts.length rc), .v (.slice wa o.parts.length wc), .v (.slice ea o.parts.length ec)] 72, .blk 16 b4 [.loc d 0 0] 23, .blk 0 d [.v (.int .i64 o.groups), .v (.int .i64 o.done), .loc t1 20 0, .loc t2 21 0, .loc t3 22 0] 121, .ext 1 (TabA t1 (o.sagas.take (j + 1))), .ext 2 (MvsA t2 []), .ext 3 (PtsA t3 [⟨⟨OM.eps, OM.eps⟩, 1, 1⟩]), .ext 20 (SlA 76 11 (some ⟨sb, so, none⟩) o.sagas.length sc (o.sagas.flatMap (nmC P))), .ext 21 (StA o.sagas P), .ext 22 (SlA 83 6 ma o.moves.length mc (o.moves.flatMap mvC)), .ext 23 (SlA 37 2 ra o.parts.length rc (o.parts.flatMap rgC)), .ext 24 (SlA 3 1 wa o.parts.length wc (o.parts.flatMap gpC)), .ext 25 (SlA 3 1 ea o.parts.length ec (o.parts.flatMap ecC))]) ?_ sdG seG
        refine r_par (β := Nat) (id := 8) [nq 0 [] (.v (.int .i64 ((j + 1 : Nat) : Int))),
      nq 1 [0] (.v (.bool (decide (((j + 1 : Nat) : Int) > 0)))),
      nq 2 [1] (.v (.bool (decide (((j + 1 : Nat) : Int) > 0)))),
      nq 3 [2] (.loc b7 71 0),
      nq 4 [3, 2] (.v (.int .i64 id)),
      nq 5 [2] (.loc bx 17 2),
      nq 6 [5, 2] (.v (.slice (some ⟨sb, so, none⟩) o.sagas.length sc)),
      nq 7 [2] (.v (.int .i64 ((j + 1 : Nat) : Int))),
      nq 8 [7, 2] (.v (.int .i64 (((j + 1 : Nat) : Int) - 1))),
      nq 9 [6, 8, 2] (.v (.pointer (some ⟨sb, so + (((j + 1 : Nat) : Int) - 1).toNat * 11, none⟩))),
      nq 10 [9, 2] (.v (.pointer (some ⟨sb, so + (((j + 1 : Nat) : Int) - 1).toNat * 11 + 0, none⟩))),
      nq 11 [10, 2] (.v (.int .i64 idj)),
      nq 12 [4, 11, 2] (.v (.bool (decide (id ≤ idj)))),
      nq 13 [2, 12] (.v (.bool (decide (id ≤ idj)))),
      nq 14 [13] (.v (.bool (decide (id ≤ idj)))),
      nq 15 [14] (.loc d 0 0),
      nq 16 [15, 14] (.loc d 0 0),
      nq 17 [16, 14] (.loc d 0 2),
      nq 18 [17, 14] (.loc t1 20 0),
      nq 19 [14] (.loc b7 71 0),
      nq 20 [19, 14] (.v (.int .i64 id)),
      nq 21 [14] (.loc b7 71 1),
      nq 22 [21, 14] (.agg (sgc s (P id).1 (P id).2)),
      ⟨23, [18, 20, 22, 14], some 100, fun _ _ => .v (.int .i64 0), fun _ _ => [.ext 40 (TabA t1 (o.sagas.take (j + 1 + 1)))]⟩,
      nq 24 [23, 14] (.v (.bool (!decide ((0 : Int) = 0)))),
      nq 25 [14, 24] (.v (.bool (!decide ((0 : Int) = 0))))] [⟨100, [], none, fun _ _ => .v undef, fun _ _ => [.ext 41 (TabA t1 (o.sagas.take (j + 1)))]⟩] 0 [.blk 71 b7 (.v (.int .i64 id) :: sgc s (P id).1 (P id).2) 76, .blk 17 bx [.v (.int .i64 o.groups), .v (.int .i64 o.done), .v (.slice (some ⟨sb, so, none⟩) o.sagas.length sc), .v (.slice ma o.moves.length mc), .v (.slice ra o.parts.length rc), .v (.slice wa o.parts.length wc), .v (.slice ea o.parts.length ec)] 72, .blk 16 b4 [.loc d 0 0] 23, .blk 0 d [.v (.int .i64 o.groups), .v (.int .i64 o.done), .loc t1 20 0, .loc t2 21 0, .loc t3 22 0] 121, .ext 2 (MvsA t2 []), .ext 3 (PtsA t3 [⟨⟨OM.eps, OM.eps⟩, 1, 1⟩]), .ext 20 (SlA 76 11 (some ⟨sb, so, none⟩) o.sagas.length sc (o.sagas.flatMap (nmC P))), .ext 21 (StA o.sagas P), .ext 22 (SlA 83 6 ma o.moves.length mc (o.moves.flatMap mvC)), .ext 23 (SlA 37 2 ra o.parts.length rc (o.parts.flatMap rgC)), .ext 24 (SlA 3 1 wa o.parts.length wc (o.parts.flatMap gpC)), .ext 25 (SlA 3 1 ea o.parts.length ec (o.parts.flatMap ecC))] mixed (by kernel_rfl) (by kernel_rfl) seG ?_ ?_
        · conv => whnf
          repeat' (first | ((with_reducible refine And.intro ?_ ?_); all_goals (conv => whnf)) | ((with_reducible intro zz2 AA KP hP); conv => whnf))
          repeat' (first
 | ((with_reducible (first | refine And.intro rfl ?_ | intro b)); conv => whnf)
 | ((with_reducible refine WrapK.i64 ?_ ?_); (focus omega); conv => whnf)
 | ((with_reducible refine CallK.id ?_); refine CallK.s2V rmG rmG (fun ms w hk => hput1085 _ w) ?_; conv => whnf)
 | ((with_reducible refine OpK.id ?_); (first | refine OpK.idxA (k := 11) rfl rfl rfl rfl rfl rfl rfl (by omega) (by omega) ?_ | (refine OpK.fap rfl rfl (PC.sl _ atG (nm_atZ (j := j) (by push_cast; omega) hy)) ?_) | (refine OpK.ldp rfl rfl ((PC.sl _ atG (nm_atZ (j := j) (by push_cast; omega) hy)).field 0) (List.cons_ne_nil _ _) ?_)); conv => whnf)
 | ((with_reducible apply hP); all_goals (first | exact default | ((repeat' (first | exact SubD.nil | (refine SubD.cons rfl rfl ?_) | (refine SubD.cons rfl (by simp [den]) ?_))); done) | exact seZ))
 | ((first | refine if_decT (by omega) ?_ | refine if_decF (by omega) ?_); conv => whnf))
        conv => whnf
        intro zz
        conv => whnf
        try dsimp only
        repeat' (first
 | with_reducible ((first | (refine hS _ _ ?_; clear hS KS) | (refine hB _ ?_; clear hB KB)))
 | ((with_reducible (first | refine r_region ?_ | refine r_cond (fun KA hA KB hB => ?_) | refine r_skip ?_)); conv => whnf)
 | ((with_reducible refine WrapK.i64 ?_ ?_); (focus omega); conv => whnf)
 | (refine hL (j + 1 + 1) _ _ (by show j + 1 + 1 ≤ _; omega) (by show _ - ((j + 1) + 1) < _ - (j + 1); omega) suG seG)
 | with_reducible apply_assumption -symm -exfalso)
  · obtain rfl : i = o.sagas.length := by omega
    clear hL
    rw [List.take_length]
    have hcar1026 := fun w => carAll1026 (bo := b4) (d := d) (o := ({ o with moves := [], parts := [⟨⟨OM.eps, OM.eps⟩, 1, 1⟩] } : OM.St)) (L := o.moves) (a := ma) (cap := mc) (by show o.groups ≤ 8; omega) hml rfl (fun i m hm => car_of hI hI2 i m hm) w
    repeat' (first
 | with_reducible refine r_stop 11 ?_
 | with_reducible ((first | refine r_seq (fun KS hS => ?_) | (refine hS _ _ ?_; clear hS KS) | (refine hB _ ?_; clear hB KB)))
 | ((with_reducible (first | refine r_region ?_ | refine r_cond (fun KA hA KB hB => ?_) | refine r_exit ?_)); conv => whnf)
 | (refine if_decF (by omega) ?_; conv => whnf)
 | with_reducible apply_assumption -symm -exfalso)
    refine StopR.mk ?_
    refine Run.weakenD (E' := [(1, .loc bx 17 0), (4, .loc b4 16 0)]) (H' := [.blk 16 b4 [.v (pv d)] 23, .blk 17 bx [.v (.int .i64 o.groups), .v (.int .i64 o.done), .v (.slice sa o.sagas.length sc), .v (.slice ma o.moves.length mc), .v (.slice ra o.parts.length rc), .v (.slice wa o.parts.length wc), .v (.slice ea o.parts.length ec)] 72, .ext 22 (SlA 83 6 ma o.moves.length mc (o.moves.flatMap mvC)), .ext 23 (SlA 37 2 ra o.parts.length rc (o.parts.flatMap rgC)), .ext 24 (SlA 3 1 wa o.parts.length wc (o.parts.flatMap gpC)), .ext 25 (SlA 3 1 ea o.parts.length ec (o.parts.flatMap ecC)), .ext 12 (OrchA d ({ o with moves := [], parts := [⟨⟨OM.eps, OM.eps⟩, 1, 1⟩] } : OM.St))]) ?_ sdG (b4pv (HSub.trans (HSub.app2 (A' := [.blk 16 b4 [.loc d 0 0] 23, .blk 17 bx [.v (.int .i64 o.groups), .v (.int .i64 o.done), .v (.slice sa o.sagas.length sc), .v (.slice ma o.moves.length mc), .v (.slice ra o.parts.length rc), .v (.slice wa o.parts.length wc), .v (.slice ea o.parts.length ec)] 72, .ext 22 (SlA 83 6 ma o.moves.length mc (o.moves.flatMap mvC)), .ext 23 (SlA 37 2 ra o.parts.length rc (o.parts.flatMap rgC)), .ext 24 (SlA 3 1 wa o.parts.length wc (o.parts.flatMap gpC)), .ext 25 (SlA 3 1 ea o.parts.length ec (o.parts.flatMap ecC))]) (B' := [.ext 12 (OrchA d ({ o with moves := [], parts := [⟨⟨OM.eps, OM.eps⟩, 1, 1⟩] } : OM.St))]) (HSub.refl _) (or_id (i := 0) (j := 1) (k := 2) (l := 3) (d := d) (s := ({ o with moves := [], parts := [⟨⟨OM.eps, OM.eps⟩, 1, 1⟩] } : OM.St)) (t1 := t1) (t2 := t2) (t3 := t3))) seG))
    repeat' (first
 | with_reducible refine r_stop 13 ?_
 | with_reducible ((first | refine r_seq (fun KS hS => ?_) | (refine hS _ _ ?_; clear hS KS) | (refine hB _ ?_; clear hB KB)))
 | ((with_reducible (first | refine r_region ?_ | refine r_cond (fun KA hA KB hB => ?_) | refine r_skip ?_ | refine And.intro rfl ?_)); conv => whnf)
 | ((with_reducible refine CallK.id ?_); refine CallK.selV (by apply Sel.cons; (case h => exact rmG); apply Sel.cons; (case h => exact rmG); apply Sel.cons; (case h => exact rmG); exact Sel.nil) (fun ms w hk => hcar1026 w) ?_; conv => whnf)
 | with_reducible apply_assumption -symm -exfalso)
    refine StopR.mk ?_
    refine Run.weakenD (E' := [(1, .loc bx 17 0), (4, .loc b4 16 0)]) (H' := [.ext 12 (OrchA d ({ o with parts := [⟨⟨OM.eps, OM.eps⟩, 1, 1⟩] } : OM.St)), .blk 17 bx [.v (.int .i64 o.groups), .v (.int .i64 o.done), .v (.slice sa o.sagas.length sc), .v (.slice ma o.moves.length mc), .v (.slice ra o.parts.length rc), .v (.slice wa o.parts.length wc), .v (.slice ea o.parts.length ec)] 72, .blk 16 b4 [.v (pv d)] 23, .ext 23 (SlA 37 2 ra o.parts.length rc (o.parts.flatMap rgC)), .ext 24 (SlA 3 1 wa o.parts.length wc (o.parts.flatMap gpC)), .ext 25 (SlA 3 1 ea o.parts.length ec (o.parts.flatMap ecC))]) ?_ sdG seG
    refine Run.slAddr (i := 23) atG hp0 (fun rb ro hra => ?_)
    subst hra
    refine Run.slAddr (i := 24) atG hp0 (fun wb wo hwa => ?_)
    subst hwa
    refine Run.slAddr (i := 25) atG hp0 (fun eb eo hea => ?_)
    subst hea
    refine Run.ex (A := orH d ({ o with parts := [⟨⟨OM.eps, OM.eps⟩, 1, 1⟩] } : OM.St)) (i := 12) rmG ?_
    rintro ⟨t1, t2, t3⟩
    dsimp only [orH, layF]
    refine r_seq (fun KS5 hS5 => ?_)
    refine Run.weakenD (E' := [(1, .loc bx 17 0), (4, .loc b4 16 0)]) (H' := [.blk 16 b4 [.loc d 0 0] 23, .blk 17 bx [.v (.int .i64 o.groups), .v (.int .i64 o.done), .v (.slice sa o.sagas.length sc), .v (.slice ma o.moves.length mc), .v (.slice (some ⟨rb, ro, none⟩) o.parts.length rc), .v (.slice (some ⟨wb, wo, none⟩) o.parts.length wc), .v (.slice (some ⟨eb, eo, none⟩) o.parts.length ec)] 72, .blk 0 d [.v (.int .i64 o.groups), .v (.int .i64 o.done), .loc t1 20 0, .loc t2 21 0, .loc t3 22 0] 121, .ext 1 (TabA t1 o.sagas), .ext 2 (MvsA t2 o.moves), .ext 3 (PtsA t3 [⟨⟨OM.eps, OM.eps⟩, 1, 1⟩]), .ext 23 (SlA 37 2 (some ⟨rb, ro, none⟩) o.parts.length rc (o.parts.flatMap rgC)), .ext 24 (SlA 3 1 (some ⟨wb, wo, none⟩) o.parts.length wc (o.parts.flatMap gpC)), .ext 25 (SlA 3 1 (some ⟨eb, eo, none⟩) o.parts.length ec (o.parts.flatMap ecC))]) ?_ sdG (b4loc seG)
    have hrr1088 := fun w => rrest1088 (l := o.parts) (rb := rb) (ro := ro) (gb := wb) (go := wo) (eb := eb) (eo := eo) (rc := rc) (gc := wc) (ec := ec) hI.cov hpl (fun p hp => by have := hI.prt p hp; omega) w
    refine r_par (β := Nat) (id := 13) [nq 0 [] (.loc d 0 0),
      nq 1 [] (.loc bx 17 4),
      nq 2 [1] (.v (.slice (some ⟨rb, ro, none⟩) o.parts.length rc)),
      nq 3 [] (.loc bx 17 5),
      nq 4 [3] (.v (.slice (some ⟨wb, wo, none⟩) o.parts.length wc)),
      nq 5 [] (.loc bx 17 6),
      nq 6 [5] (.v (.slice (some ⟨eb, eo, none⟩) o.parts.length ec)),
      ⟨7, [2, 4, 6], none, fun _ q2 => .v (.tuple #[pv q2, .int .i64 0]), fun _ q2 => [.ext 40 (PtsA q2 o.parts)]⟩,
      ⟨8, [7], none, fun l _ => match l with | [z7] => .tup [.v (pv z7), .v (.int .i64 0)] | _ => .v undef, fun _ _ => []⟩,
      ⟨9, [8, 7], none, fun l _ => match l with | [_, z7] => .v (pv z7) | _ => .v undef, fun _ _ => []⟩,
      nq 10 [8] (.v (.int .i64 0)),
      nq 11 [0] (.loc d 0 0),
      nq 12 [11] (.loc d 0 4),
      ⟨13, [12, 9, 7], some 100, fun _ _ => .v undef, fun l _ => match l with | [_, _, z7] => [.blk 0 d [.v (.int .i64 o.groups), .v (.int .i64 o.done), .loc t1 20 0, .loc t2 21 0, .v (pv z7)] 121] | _ => []⟩] [⟨100, [], none, fun _ _ => .v undef, fun _ _ => [.blk 0 d [.v (.int .i64 o.groups), .v (.int .i64 o.done), .loc t1 20 0, .loc t2 21 0, .loc t3 22 0] 121]⟩] 1 [.blk 16 b4 [.loc d 0 0] 23, .blk 17 bx [.v (.int .i64 o.groups), .v (.int .i64 o.done), .v (.slice sa o.sagas.length sc), .v (.slice ma o.moves.length mc), .v (.slice (some ⟨rb, ro, none⟩) o.parts.length rc), .v (.slice (some ⟨wb, wo, none⟩) o.parts.length wc), .v (.slice (some ⟨eb, eo, none⟩) o.parts.length ec)] 72, .ext 1 (TabA t1 o.sagas), .ext 2 (MvsA t2 o.moves), .ext 3 (PtsA t3 [⟨⟨OM.eps, OM.eps⟩, 1, 1⟩]), .ext 23 (SlA 37 2 (some ⟨rb, ro, none⟩) o.parts.length rc (o.parts.flatMap rgC)), .ext 24 (SlA 3 1 (some ⟨wb, wo, none⟩) o.parts.length wc (o.parts.flatMap gpC)), .ext 25 (SlA 3 1 (some ⟨eb, eo, none⟩) o.parts.length ec (o.parts.flatMap ecC))] mixed (by kernel_rfl) (by kernel_rfl) seG ?_ ?_
    · conv => whnf
      repeat' (first | ((with_reducible refine And.intro ?_ ?_); all_goals (conv => whnf)) | ((with_reducible intro zz2 AA KP hP); conv => whnf))
      repeat' (first
 | ((with_reducible refine CallK.id ?_); refine CallK.sel (by apply Sel.cons; (case h => exact rmG); apply Sel.cons; (case h => exact rmG); apply Sel.cons; (case h => exact rmG); exact Sel.nil) (fun ms w hk => hrr1088 w) ?_; (intro tq); conv => whnf)
 | ((with_reducible refine hP tq _ _ ?_ ?_); all_goals (first | exact default | ((repeat' (first | exact SubD.nil | (refine SubD.cons rfl rfl ?_) | (refine SubD.cons rfl (by simp [den]) ?_))); done) | exact seZ))
 | ((with_reducible apply hP); all_goals (first | exact default | ((repeat' (first | exact SubD.nil | (refine SubD.cons rfl rfl ?_) | (refine SubD.cons rfl (by simp [den]) ?_))); done) | exact seZ)))
    conv => whnf
    intro zz
    conv => whnf
    try dsimp only
    repeat' (first
 | with_reducible refine r_stop 14 ?_
 | ((with_reducible ((first | refine InAt.mk (fun K' hK => ?_) | (refine hK _ ?_; clear hK K')))); conv => whnf)
 | with_reducible apply_assumption -symm -exfalso)
    refine StopR.mk ?_
    refine Run.weakenD (E' := [(4, .loc b4 16 0), (5, .v (.int .i64 0))]) (H' := [.blk 16 b4 [.v (pv d)] 23, .ext 12 (OrchA d o)]) ?_ sdG (b4pv (HSub.trans (HSub.app2 (A' := [.blk 16 b4 [.loc d 0 0] 23]) (B' := [.ext 12 (OrchA d o)]) (HSub.refl _) (or_idM (i := 0) (j := 1) (k := 2) (l := 3) (d := d) (s := o) (t1 := t1) (t2 := t2) (t3 := zz 7))) seG))
    repeat' (first
 | with_reducible ((first | refine r_seq (fun KS hS => ?_) | (refine hS _ _ ?_; clear hS KS) | (refine hB _ ?_; clear hB KB)))
 | ((with_reducible (first | refine r_region ?_ | refine r_cond (fun KA hA KB hB => ?_) | refine r_ret ?_ | refine r_skip ?_ | refine And.intro rfl ?_)); conv => whnf)
 | ((with_reducible refine CallK.id ?_); refine CallK.s1V rmG (fun ms w hk => possible1089 hI w) ?_; conv => whnf)
 | with_reducible apply_assumption -symm -exfalso)
    all_goals exact FinK.frZL d rfl seG
abbrev dfc (d : OM.Dfn) (a : Option Addr) (cap : Nat) : List SV := [.v (.string d.name), .v (.int .i64 d.retries), .v (.int .i64 d.deadline), .v (.slice a d.steps.length cap)]
theorem eqDef1134 {d : OM.Dfn} {a a' : Option Addr} {cap cap' : Nat} {w : World} (hr : RdS w 80 2 a d.steps.length cap (stepCells d.steps)) (hr' : RdS w 80 2 a' d.steps.length cap' (stepCells d.steps)) (hl : d.steps.length ≤ 1000) :
    Pu Tryz.prog 134 #[.agg (denL (dfc d a cap)).toArray, .agg (denL (dfc d a' cap')).toArray] w (.bool true) := by
  have sa := fun n' r H => Sees.old (c := ⟨Tryz.prog, TB, n', w, noS, r, TBok⟩) (H := H) hr.old
  have sb := fun n' r H => Sees.old (c := ⟨Tryz.prog, TB, n', w, noS, r, TBok⟩) (H := H) hr'.old
  refine enter_sound TBok Tryz.func134 rfl rfl Tryz.ntmps134 [.agg (dfc d a cap), .agg (dfc d a' cap')] (Kn.start w noS) rfl rfl ?_
  conv => whnf
  repeat' (first
 | with_reducible ((first | refine r_seq (fun KS hS => ?_) | (refine hS _ _ ?_; clear hS KS) | (refine hB _ ?_; clear hB KB) | refine r_block ?_))
 | ((with_reducible (first | refine r_region ?_ | refine r_cond (fun KA hA KB hB => ?_) | refine r_skip ?_ | refine And.intro rfl ?_ | intro b)); conv => whnf)
 | (((refine if_f ?_ ?_); (focus (simp only [eq_self, decide_true, Bool.and_true, Bool.and_self, Bool.not_true, beq_self_eq_true] <;> fail)); conv => whnf))
 | with_reducible apply_assumption -symm -exfalso)
  rename_i b0 _ _
  refine r_loop (α := Nat) (fun i => [(2, .loc b0 0 0), (3, .loc b 1 0), (5, .v (.int .i64 (i : Nat)))]) (fun _ => [.blk 0 b0 (dfc d a cap) 40, .blk 1 b (dfc d a' cap') 40]) (fun i => i ≤ d.steps.length) (fun i => d.steps.length - i) 0 (Nat.zero_le _) suG seG ?_
  intro i hi KL hL
  by_cases hlt : i < d.steps.length
  · obtain ⟨y, hy⟩ : ∃ y, d.steps[((i : Nat) : Int).toNat]? = some y := ⟨_, List.getElem?_eq_getElem (by simpa using hlt)⟩
    repeat' (first
 | with_reducible ((first | refine r_seq (fun KS hS => ?_) | (refine hS _ _ ?_; clear hS KS) | (refine hA _ ?_; clear hA KA) | (refine hB _ ?_; clear hB KB) | refine r_block ?_))
 | ((with_reducible (first | refine r_region ?_ | refine r_cond (fun KA hA KB hB => ?_) | refine r_skip ?_ | refine And.intro rfl ?_)); conv => whnf)
 | ((with_reducible refine WrapK.i64 ?_ ?_); (focus omega); conv => whnf)
 | ((with_reducible refine QK.id ?_); (first | refine QK.idx (k := 2) rfl rfl rfl rfl rfl rfl rfl (sa _ _ _) (by omega) (by omega) (step_int hy) (fun b off hp => ?_) | refine QK.idx (k := 2) rfl rfl rfl rfl rfl rfl rfl (sb _ _ _) (by omega) (by omega) (step_int hy) (fun b off hp => ?_) | refine QK.ldp rfl rfl hp (List.cons_ne_nil _ _) ?_); conv => whnf)
 | ((with_reducible refine IK.id ?_); refine IK.neqV sok3 rfl rfl rfl ?_; conv => whnf)
 | (((refine if_f ?_ ?_); (focus (simp only [eq_self, decide_true, Bool.and_true, Bool.and_self, Bool.not_true, beq_self_eq_true] <;> fail)); conv => whnf))
 | (refine hL (i + 1) _ _ (by show i + 1 ≤ _; omega) (by show d.steps.length - (i + 1) < d.steps.length - i; omega) suG seG)
 | (apply r_quiet; refine mixed; kernel_rfl; kernel_rfl; kernel_rfl; conv => whnf)
 | (refine if_decT (by omega) ?_; conv => whnf)
 | with_reducible apply_assumption -symm -exfalso)
  · obtain rfl : i = d.steps.length := by omega
    repeat' (first
 | with_reducible ((first | refine r_seq (fun KS hS => ?_) | (refine hS _ _ ?_; clear hS KS) | (refine hB _ ?_; clear hB KB)))
 | ((with_reducible (first | refine r_region ?_ | refine r_cond (fun KA hA KB hB => ?_) | refine r_ret ?_ | refine r_exit ?_ | refine And.intro rfl ?_)); conv => whnf)
 | (refine if_decF (by omega) ?_; conv => whnf)
 | with_reducible apply_assumption -symm -exfalso)
    exact FinK.pu rfl
theorem same1078 {s : OM.Sg} {a a' : Option Addr} {cap cap' : Nat} {w : World} (hr : RdS w 80 2 a s.d.steps.length cap (stepCells s.d.steps)) (hr' : RdS w 80 2 a' s.d.steps.length cap' (stepCells s.d.steps)) (hl : s.d.steps.length ≤ 1000) :
    Pu Tryz.prog 78 #[.agg (denL (sgc s a cap)).toArray, .agg (denL (sgc s a' cap')).toArray] w (.bool true) := by
  have sa := fun n' r H => Sees.old (c := ⟨Tryz.prog, TB, n', w, noS, r, TBok⟩) (H := H) hr.old
  have sb := fun n' r H => Sees.old (c := ⟨Tryz.prog, TB, n', w, noS, r, TBok⟩) (H := H) hr'.old
  refine enter_sound TBok Tryz.func78 rfl rfl Tryz.ntmps78 [.agg (sgc s a cap), .agg (sgc s a' cap')] (Kn.start w noS) rfl rfl ?_
  conv => whnf
  repeat' (first
 | with_reducible ((first | refine r_seq (fun KS hS => ?_) | (refine hS _ _ ?_; clear hS KS)))
 | ((with_reducible (first | refine r_region ?_ | refine r_ret ?_ | refine And.intro rfl ?_ | intro b)); conv => whnf)
 | ((with_reducible refine CallK.at 134 ?_); refine CallK.puW (fun ms w hk => eqDef1134 (d := s.d) (Sees.rd (sa _ _ _) hk) (Sees.rd (sb _ _ _) hk) hl) ?_; conv => whnf)
 | (((with_reducible apply OpK.more); (focus refine sok3); (conv => whnf); fail_if_success guard_target =ₛ False))
 | (((refine if_t ?_ ?_); (focus (simp only [eq_self, decide_true, Bool.and_true, Bool.and_self, Bool.not_true, beq_self_eq_true] <;> fail)); conv => whnf)))
  all_goals exact FinK.pu (by show Value.bool (decide (s.err = s.err)) = _; rw [decide_eq_true rfl])
abbrev nmS (P0 : Pl) (x : Int × OM.Sg) : List SV := .v (.int .i64 x.1) :: sgc x.2 (P0 x.1).1 (P0 x.1).2
theorem sameN1077 {x : Int × OM.Sg} {P0 P1 : Pl} {w : World} (hr : RdS w 80 2 (P0 x.1).1 x.2.d.steps.length (P0 x.1).2 (stepCells x.2.d.steps)) (hr' : RdS w 80 2 (P1 x.1).1 x.2.d.steps.length (P1 x.1).2 (stepCells x.2.d.steps)) (hl : x.2.d.steps.length ≤ 1000) :
    Pu Tryz.prog 77 #[.agg (denL (nmS P0 x)).toArray, .agg (denL (nmS P1 x)).toArray] w (.bool true) := by
  have sa := fun n' r H => Sees.old (c := ⟨Tryz.prog, TB, n', w, noS, r, TBok⟩) (H := H) hr.old
  have sb := fun n' r H => Sees.old (c := ⟨Tryz.prog, TB, n', w, noS, r, TBok⟩) (H := H) hr'.old
  refine enter_sound TBok Tryz.func77 rfl rfl Tryz.ntmps77 [.agg (nmS P0 x), .agg (nmS P1 x)] (Kn.start w noS) rfl rfl ?_
  conv => whnf
  repeat' (first
 | with_reducible ((first | refine r_seq (fun KS hS => ?_) | (refine hS _ _ ?_; clear hS KS)))
 | ((with_reducible (first | refine r_region ?_ | refine r_ret ?_ | refine And.intro rfl ?_ | intro b)); conv => whnf)
 | ((with_reducible refine CallK.at 78 ?_); refine CallK.puW (fun ms w hk => same1078 (s := x.2) (Sees.rd (sa _ _ _) hk) (Sees.rd (sb _ _ _) hk) hl) ?_; conv => whnf)
 | (((refine if_t ?_ ?_); (focus (simp only [eq_self, decide_true, Bool.and_true, Bool.and_self, Bool.not_true, beq_self_eq_true] <;> fail)); conv => whnf)))
  all_goals exact FinK.pu rfl
theorem eqSagas1076 {L : SL} {P0 P1 : Pl} {a a' : Option Addr} {cap cap' : Nat} {w : World} (hr : RdS w 148 11 a L.length cap (L.flatMap (nmC P0))) (hr' : RdS w 148 11 a' L.length cap' (L.flatMap (nmC P1))) (hl : L.length ≤ 1000)
    (hpa : ∀ x ∈ L, RdS w 80 2 (P0 x.1).1 x.2.d.steps.length (P0 x.1).2 (stepCells x.2.d.steps)) (hpb : ∀ x ∈ L, RdS w 80 2 (P1 x.1).1 x.2.d.steps.length (P1 x.1).2 (stepCells x.2.d.steps)) (hs : ∀ x ∈ L, x.2.d.steps.length ≤ 1000) :
    Pu Tryz.prog 76 #[.slice a L.length cap, .slice a' L.length cap', .func (.func 77) #[] #[]] w (.bool true) := by
  have sa := fun n' r H => Sees.old (c := ⟨Tryz.prog, TB, n', w, noS, r, TBok⟩) (H := H) hr.old
  have sb := fun n' r H => Sees.old (c := ⟨Tryz.prog, TB, n', w, noS, r, TBok⟩) (H := H) hr'.old
  refine enter_sound TBok Tryz.func76 rfl rfl Tryz.ntmps76 [.v (.slice a L.length cap), .v (.slice a' L.length cap'), .fn 77 []] (Kn.start w noS) rfl rfl ?_
  conv => whnf
  repeat' (first
 | with_reducible ((first | refine r_seq (fun KS hS => ?_) | (refine hS _ _ ?_; clear hS KS) | (refine hB _ ?_; clear hB KB) | refine r_block ?_))
 | ((with_reducible (first | refine r_region ?_ | refine r_cond (fun KA hA KB hB => ?_) | refine r_skip ?_)); conv => whnf)
 | (refine if_ndecF (by omega) ?_; conv => whnf)
 | with_reducible apply_assumption -symm -exfalso)
  refine r_loop (α := Nat) (fun i => [(17, .v (.int .i64 (i : Nat))), (16, .v (.int .i64 L.length)), (15, .v (.slice a L.length cap)), (1, .v (.slice a' L.length cap')), (2, .fn 77 [])]) (fun _ => []) (fun i => i ≤ L.length) (fun i => L.length - i) 0 (Nat.zero_le _) suG (HSub.none _) ?_
  intro i hi KL hL
  by_cases hlt : i < L.length
  · obtain ⟨x, hx⟩ : ∃ x, L[i]? = some x := ⟨_, List.getElem?_eq_getElem hlt⟩
    have hm := List.mem_of_getElem? hx
    have hxa := fun n' r H => Sees.old (c := ⟨Tryz.prog, TB, n', w, noS, r, TBok⟩) (H := H) (hpa x hm).old
    have hxb := fun n' r H => Sees.old (c := ⟨Tryz.prog, TB, n', w, noS, r, TBok⟩) (H := H) (hpb x hm).old
    have hxs := hs x hm
    repeat' (first
 | with_reducible ((first | refine r_seq (fun KS hS => ?_) | (refine hS _ _ ?_; clear hS KS) | (refine hA _ ?_; clear hA KA) | (refine hB _ ?_; clear hB KB) | refine r_block ?_))
 | ((with_reducible (first | refine r_region ?_ | refine r_cond (fun KA hA KB hB => ?_) | refine r_skip ?_ | refine And.intro rfl ?_ | intro b)); conv => whnf)
 | ((with_reducible refine WrapK.i64 ?_ ?_); (focus omega); conv => whnf)
 | ((with_reducible refine OpK.id ?_); (first | refine OpK.idx (k := 11) rfl rfl rfl rfl rfl rfl rfl (sa _ _ _) (by omega) (by omega) (nm_at hx) (fun b off hp => ?_) | refine OpK.idx (k := 11) rfl rfl rfl rfl rfl rfl rfl (sb _ _ _) (by omega) (by omega) (nm_at hx) (fun b off hp => ?_) | refine OpK.ldp rfl rfl hp (List.cons_ne_nil _ _) ?_); conv => whnf)
 | ((with_reducible refine CallK.at 77 ?_); refine CallK.puW (fun ms w hk => sameN1077 (P0 := P0) (P1 := P1) (x := x) (Sees.rd (hxa _ _ _) hk) (Sees.rd (hxb _ _ _) hk) hxs) ?_; conv => whnf)
 | (refine hL (i + 1) _ _ (by show i + 1 ≤ _; omega) (by show L.length - (i + 1) < L.length - i; omega) suG (HSub.none _))
 | (refine if_decT (by omega) ?_; conv => whnf)
 | with_reducible apply_assumption -symm -exfalso)
  · obtain rfl : i = L.length := by omega
    repeat' (first
 | with_reducible ((first | refine r_seq (fun KS hS => ?_) | (refine hS _ _ ?_; clear hS KS) | (refine hB _ ?_; clear hB KB)))
 | ((with_reducible (first | refine r_region ?_ | refine r_cond (fun KA hA KB hB => ?_) | refine r_ret ?_ | refine r_exit ?_)); conv => whnf)
 | (refine if_decF (by omega) ?_; conv => whnf)
 | with_reducible apply_assumption -symm -exfalso)
    exact FinK.pu rfl
end Go.Proofs.YtjkmpaggfbghiaaGreatDoor
