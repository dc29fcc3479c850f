/- Contracts and lemmas for the claim (part 4); no condition of its own. -/
import Derived.Test.YtbgnoibellfojaaGreatDoorYC703
import Derived.Test.YtbgnoibellfojaaGreatDoorYC701
import Derived.Test.YtbgnoibellfojaaGreatDoorYC702
set_option linter.all false
set_option linter.unusedVariables false
set_option linter.unusedSimpArgs false
set_option linter.unnecessarySimpa false
namespace Go.Proofs.YtbgnoibellfojaaGreatDoor
open Go Go.X
set_option maxRecDepth 100000
set_option maxHeartbeats 0
/-- the same reads, with other limits -/
theorem rdS_lim {M m k : Nat} {st u : RSt} (h : rdS M st = (k, u)) (hk : k ≤ m) (hm : m ≤ M) : rdS m st = (k, u) := by
  unfold rdS at h ⊢
  split at h
  · rw [if_pos (by omega)]; exact h
  · rw [h, if_neg (by show ¬ k > m; omega)]
theorem rdS_over {M m k : Nat} {st u : RSt} (h : rdS M st = (k, u)) (hk : m < k) : rdS m st = (0, none) := by
  unfold rdS at h ⊢
  split at h
  · simp only [Prod.mk.injEq] at h; omega
  · rw [h, if_pos (by show k > m; omega)]
theorem rdS_up {M m k : Nat} {st : RSt} {r : List UInt8} (h : rdS m st = (k, some r)) (hm : m ≤ M) : rdS M st = (k, some r) := by
  unfold rdS at h ⊢
  split at h
  · cases h
  · rename_i hk
    rw [if_neg (by omega)]; exact h
theorem rdS_some {m k : Nat} {st : RSt} {r : List UInt8} (h : rdS m st = (k, some r)) : ∃ l, st = some l := by
  cases st with
  | none => unfold rdS rdU at h; simp at h
  | some l => exact ⟨l, rfl⟩
theorem rdT_some {k : ByteArray} {st : RSt} {r : List UInt8} (h : rdT st = (k, some r)) : ∃ l, st = some l := by
  cases st with
  | none => simp [rdT] at h
  | some l => exact ⟨l, rfl⟩
theorem rdI_some {k : Int} {st : RSt} {r : List UInt8} (h : rdI st = (k, some r)) : ∃ l, st = some l := by
  cases st with
  | none => simp [rdI] at h
  | some l => exact ⟨l, rfl⟩
/-- the reads of an effect, with limits -/
structure EffR (a b c d : Nat) (l : List UInt8) (s t p : Nat) (k : ByteArray) (dl : Int) (u0 u1 u2 u3 u4 u5 : RSt) : Prop where
  e0 : rdS a (some l) = (1, u0)
  e1 : rdS b u0 = (s, u1)
  e2 : rdS c u1 = (t, u2)
  e3 : rdS d u2 = (p, u3)
  e4 : rdT u3 = (k, u4)
  e5 : rdI u4 = (dl, u5)
theorem EffR.up {a b c d a' b' c' d' : Nat} {l : List UInt8} {s t p s' t' p' : Nat} {k k' : ByteArray} {dl dl' : Int} {u0 u1 u2 u3 u4 u5 v0 v1 v2 v3 v4 v5 : RSt} (h : EffR a b c d l s t p k dl u0 u1 u2 u3 u4 u5) (h' : EffR a' b' c' d' l s' t' p' k' dl' v0 v1 v2 v3 v4 v5)
    (ha : a ≤ a') (hb : b ≤ b') (hc : c ≤ c') (hd : d ≤ d') (hu : u5 = some []) : s' = s ∧ t' = t ∧ p' = p ∧ k' = k ∧ dl' = dl ∧ v5 = some [] := by
  obtain ⟨e0, e1, e2, e3, e4, e5⟩ := h
  obtain ⟨f0, f1, f2, f3, f4, f5⟩ := h'
  subst hu
  obtain ⟨_, rfl⟩ := rdI_some e5
  obtain ⟨_, rfl⟩ := rdT_some e4
  obtain ⟨_, rfl⟩ := rdS_some e3
  obtain ⟨_, rfl⟩ := rdS_some e2
  obtain ⟨_, rfl⟩ := rdS_some e1
  rw [rdS_up e0 ha] at f0; cases f0
  rw [rdS_up e1 hb] at f1; cases f1
  rw [rdS_up e2 hc] at f2; cases f2
  rw [rdS_up e3 hd] at f3; cases f3
  rw [e4] at f4; cases f4
  rw [e5] at f5; cases f5
  exact ⟨rfl, rfl, rfl, rfl, rfl, rfl⟩
theorem EffR.down {a b c d a' b' c' d' : Nat} {l : List UInt8} {s t p s' t' p' : Nat} {k k' : ByteArray} {dl dl' : Int} {u0 u1 u2 u3 u4 u5 v0 v1 v2 v3 v4 v5 : RSt} (h : EffR a b c d l s t p k dl u0 u1 u2 u3 u4 u5) (h' : EffR a' b' c' d' l s' t' p' k' dl' v0 v1 v2 v3 v4 v5)
    (ha : a ≤ a') (hb : b ≤ b') (hc : c ≤ c') (hd : d ≤ d') (h1 : 1 ≤ a) (h2 : s' ≤ b) (h3 : t' ≤ c) (h4 : p' ≤ d) : s = s' ∧ t = t' ∧ p = p' ∧ k = k' ∧ dl = dl' ∧ u5 = v5 := by
  obtain ⟨e0, e1, e2, e3, e4, e5⟩ := h
  obtain ⟨f0, f1, f2, f3, f4, f5⟩ := h'
  rw [rdS_lim f0 h1 ha] at e0; cases e0
  rw [rdS_lim f1 h2 hb] at e1; cases e1
  rw [rdS_lim f2 h3 hc] at e2; cases e2
  rw [rdS_lim f3 h4 hd] at e3; cases e3
  rw [f4] at e4; cases e4
  rw [f5] at e5; cases e5
  exact ⟨rfl, rfl, rfl, rfl, rfl, rfl⟩
/-- the reads of the parts of a move -/
structure OutR (kd a b : Nat) (l : List UInt8) (m : Nat) (f t : ByteArray) (u0 u1 u2 u3 : RSt) : Prop where
  e0 : rdS a (some l) = (kd, u0)
  e1 : rdS b u0 = (m, u1)
  e2 : rdT u1 = (f, u2)
  e3 : rdT u2 = (t, u3)
theorem OutR.up {kd a b a' b' : Nat} {l : List UInt8} {m m' : Nat} {f t f' t' : ByteArray} {u0 u1 u2 u3 v0 v1 v2 v3 : RSt} {q : List UInt8} (h : OutR kd a b l m f t u0 u1 u2 u3) (h' : OutR kd a' b' l m' f' t' v0 v1 v2 v3)
    (ha : a ≤ a') (hb : b ≤ b') (hu : u3 = some q) : m' = m ∧ f' = f ∧ t' = t ∧ v3 = some q := by
  obtain ⟨e0, e1, e2, e3⟩ := h
  obtain ⟨f0, f1, f2, f3⟩ := h'
  subst hu
  obtain ⟨_, rfl⟩ := rdT_some e3
  obtain ⟨_, rfl⟩ := rdT_some e2
  obtain ⟨_, rfl⟩ := rdS_some e1
  rw [rdS_up e0 ha] at f0; cases f0
  rw [rdS_up e1 hb] at f1; cases f1
  rw [e2] at f2; cases f2
  rw [e3] at f3; cases f3
  exact ⟨rfl, rfl, rfl, rfl⟩
theorem OutR.down {kd a b a' b' : Nat} {l : List UInt8} {m m' : Nat} {f t f' t' : ByteArray} {u0 u1 u2 u3 v0 v1 v2 v3 : RSt} (h : OutR kd a b l m f t u0 u1 u2 u3) (h' : OutR kd a' b' l m' f' t' v0 v1 v2 v3)
    (ha : a ≤ a') (hb : b ≤ b') (h1 : kd ≤ a) (h2 : m' ≤ b) : m = m' ∧ f = f' ∧ t = t' ∧ u3 = v3 := by
  obtain ⟨e0, e1, e2, e3⟩ := h
  obtain ⟨f0, f1, f2, f3⟩ := h'
  rw [rdS_lim f0 h1 ha] at e0; cases e0
  rw [rdS_lim f1 h2 hb] at e1; cases e1
  rw [f2] at e2; cases e2
  rw [f3] at e3; cases e3
  exact ⟨rfl, rfl, rfl, rfl⟩
end Go.Proofs.YtbgnoibellfojaaGreatDoor

namespace Go.Proofs.YtbgnoibellfojaaGreatDoor
open Go Go.X
set_option maxRecDepth 100000
set_option maxHeartbeats 0
/-- the cells of a command -/
structure CmdC where
  kd : Int
  cl : Int
  sg : Int
  s : Int
  t : Int
  p : Int
  key : ByteArray
  d : Int
  mv : Int
  fr : ByteArray
  to : ByteArray
  gr : Int
  dn : ByteArray
  dr : Int
  dd : Int
  sa : Option Addr
  sn : Nat
  sc : Nat
  i1 : Int
  i2 : Int
  i3 : Int
  i4 : Int
  i5 : Bool
  i6 : Int
  rs : Int
  x : ByteArray
@[reducible] def CmdC.V (c : CmdC) : Value := .agg #[.int .i64 c.kd, .int .i64 c.cl, .int .i64 c.sg, .int .i64 c.s, .int .i64 c.t, .int .i64 c.p, .string c.key, .int .i64 c.d, .int .i64 c.mv, .string c.fr, .string c.to, .int .i64 c.gr, .string c.dn, .int .i64 c.dr, .int .i64 c.dd, .slice c.sa c.sn c.sc, .int .i64 c.i1, .int .i64 c.i2, .int .i64 c.i3, .int .i64 c.i4, .bool c.i5, .int .i64 c.i6, .int .i64 c.rs, .string c.x]
/-- nothing -/
def CmdC.zero : CmdC := ⟨0, 0, 0, 0, 0, 0, ⟨#[]⟩, 0, 0, ⟨#[]⟩, ⟨#[]⟩, 0, ⟨#[]⟩, 0, 0, none, 0, 0, 0, 0, 0, 0, false, 0, 0, ⟨#[]⟩⟩
/-- whether a command is one for an item, in the program, and in the reference -/
def fitP (c : CmdC) (s t p m : Int) (i : Bool) : Prop := c.kd = (if i = true then 4 else if 0 < m then 3 else 1) ∧ (c.s = s ∧ c.t = t ∧ c.p = p) ∧ c.mv = m
def fitR (c : CmdC) (s t p m : Int) (i : Bool) : Prop := if m = 0 then c.kd = 1 ∧ (c.s = s ∧ c.t = t ∧ c.p = p) else if i = true then c.kd = 4 ∧ c.mv = m else c.kd = 3 ∧ c.mv = m
instance {c : CmdC} {s t p m : Int} {i : Bool} : Decidable (fitP c s t p m i) := by unfold fitP; infer_instance
instance {c : CmdC} {s t p m : Int} {i : Bool} : Decidable (fitR c s t p m i) := by unfold fitR; infer_instance
/-- a command whose kind is none of the three -/
def CmdC.Off (c : CmdC) : Prop := c.kd ≠ 1 ∧ c.kd ≠ 3 ∧ c.kd ≠ 4
theorem fitP_off {c : CmdC} {s t p m : Int} {i : Bool} (h : c.Off) : ¬ fitP c s t p m i := by
  rintro ⟨h1, _⟩
  unfold CmdC.Off at h
  split at h1
  · exact h.2.2 h1
  · split at h1
    · exact h.2.1 h1
    · exact h.1 h1
theorem fitR_off {c : CmdC} {s t p m : Int} {i : Bool} (h : c.Off) : ¬ fitR c s t p m i := by
  unfold CmdC.Off at h
  unfold fitR
  split
  · exact fun h1 => h.1 h1.1
  · split
    · exact fun h1 => h.2.2 h1.1
    · exact fun h1 => h.2.1 h1.1
/-- a command of one of the three kinds that was read -/
def CmdC.On (c : CmdC) : Prop := (c.kd = 1 ∧ c.mv = 0) ∨ ((c.kd = 3 ∨ c.kd = 4) ∧ 1 ≤ c.mv ∧ c.s = 0 ∧ c.t = 0 ∧ c.p = 0)
theorem fit_iff {c : CmdC} {s t p m : Int} {i : Bool} {g : Int} (h : c.On) (hi : ItemOk s t p m i g) : fitP c s t p m i ↔ fitR c s t p m i := by
  unfold CmdC.On at h
  unfold ItemOk at hi
  unfold fitP fitR
  obtain ⟨_, _, hi⟩ := hi
  rcases hi with ⟨rfl, rfl, _⟩ | ⟨hm, _, rfl, rfl, rfl⟩
  · simp only [Bool.false_eq_true, if_false, if_true, show ¬ (0 : Int) < 0 by omega]
    constructor
    · rintro ⟨a, b, _⟩; exact ⟨a, b⟩
    · rintro ⟨a, b⟩
      refine ⟨a, b, ?_⟩
      rcases h with h | h <;> omega
  · have hm0 : ¬ m = 0 := by omega
    have hm1 : 0 < m := by omega
    rw [if_neg hm0, if_pos hm1]
    cases i with
    | true =>
      simp only [if_true]
      constructor
      · rintro ⟨a, _, b⟩; exact ⟨a, b⟩
      · rintro ⟨a, b⟩
        refine ⟨a, ?_, b⟩
        rcases h with h | h <;> omega
    | false =>
      simp only [Bool.false_eq_true, if_false]
      constructor
      · rintro ⟨a, _, b⟩; exact ⟨a, b⟩
      · rintro ⟨a, b⟩
        refine ⟨a, ?_, b⟩
        rcases h with h | h <;> omega
end Go.Proofs.YtbgnoibellfojaaGreatDoor

namespace Go.Proofs.YtbgnoibellfojaaGreatDoor
open Go Go.X
set_option maxRecDepth 100000
set_option maxHeartbeats 0
/-- the reference's reader, and what is left -/
def RfH (p : Nat) : RSt → Option Addr × Nat → List Blk
  | none, _ => [.blk 10 p [.v (.bool true), .v (.slice none 0 0), .v (.bool true)] 251]
  | some l, z => [.blk 10 p [.v (.bool true), .v (.slice z.1 l.length z.2), .v (.bool false)] 251, .ext 11 (SlA 5 1 z.1 l.length z.2 (bcells l))]
def RfA (p : Nat) (st : RSt) : Ass :=
  ⟨fun w S => ∃ z, Holds w (RfH p st z) S, fun _ _ _ h ⟨z, hx⟩ => ⟨z, hx.loc h⟩⟩
theorem RfA.open {w : World} {S : Nat → Prop} {X Y : List Blk} {p j : Nat} {st : RSt} (h : Holds w (X ++ .ext j (RfA p st) :: Y) S) :
    ∃ (z : Option Addr × Nat) (S' : Nat → Prop), Holds w (X ++ (RfH p st z ++ Y)) S' ∧ ∀ k, S' k → S k := by
  obtain ⟨TX, TY, h1, h2, h3, h4⟩ := h.split _ _
  cases h2 with
  | @cons _ _ Sx T hx hb hY hd =>
    obtain ⟨z, hz⟩ := hx
    obtain ⟨T', q1, q2⟩ := Holds.glue _ _ hz hY hd
    obtain ⟨T'', q3, q4⟩ := Holds.glue _ _ h1 q1 (fun k hk hk' => h3 k hk ((q2 k).1 hk'))
    exact ⟨z, T'', q3, fun k hk => (h4 k).2 (((q4 k).1 hk).imp id (q2 k).1)⟩
theorem RfA.close {p j : Nat} {l : List UInt8} {a n cap} {cs : List Value} {i1 i2 : Nat} (hn : n = l.length) (hc : cs = bcells l) : HSub [.ext j (RfA p (some l))] [.blk i1 p [.v (.bool true), .v (.slice a n cap), .v (.bool false)] 251, .ext i2 (SlA 5 1 a n cap cs)] :=
  HSub.close fun w S h => by
    subst hn hc
    cases h with
    | @cons _ _ S1 T1 hx hb hH hd =>
      cases hH with
      | @cons _ _ S2 T2 hx2 hb2 hH2 hd2 =>
        cases hH2
        exact ⟨(a, cap), .cons (x := .blk 10 p _ 251) hx hb (.cons (x := .ext 11 _) hx2 hb2 .nil hd2) hd⟩
theorem RfA.closeN {p j : Nat} {i1 : Nat} : HSub [.ext j (RfA p none)] [.blk i1 p [.v (.bool true), .v (.slice none 0 0), .v (.bool true)] 251] :=
  HSub.close fun w S h => by
    cases h with
    | @cons _ _ S1 T1 hx hb hH hd =>
      cases hH
      exact ⟨(none, 0), .cons (x := .blk 10 p _ 251) hx hb .nil hd⟩
theorem ffail124 {p : Nat} {st : RSt} (w : World) : Fr Tryz.prog 124 #[pv p] w (RfA p st) (.tuple #[]) (RfA p none) := by
  refine enter_fr TBok (A' := RfA p none) (H := [.ext 12 (RfA p st)]) one_foot Tryz.func124 rfl rfl Tryz.ntmps124 [.loc p 10 0] rfl rfl ?_
  intro S
  refine Run.open (α := Option Addr × Nat) (A := []) (B := []) (fun z => RfH p st z ++ []) (fun w S h => RfA.open (X := []) (Y := []) h) ?_
  rintro ⟨a, cap⟩
  cases st <;> (dsimp only [RfH, List.cons_append, List.nil_append]; conv => whnf)
  all_goals repeat' (first
 | with_reducible ((first | refine r_seq (fun KS hS => ?_) | (refine hS _ _ ?_; clear hS KS) | (refine hA _ ?_; clear hA KA)))
 | ((with_reducible (first | refine r_region ?_ | refine r_cond (fun KA hA KB hB => ?_) | refine r_ret ?_ | refine And.intro rfl ?_)); conv => whnf)
 | (apply in204; rfl; rfl; rfl; intro A; conv => whnf)
 | ((with_reducible apply OpK.more); (focus refine sok); (conv => whnf); fail_if_success guard_target =ₛ False))
  all_goals exact FinK.fr (y := .ext 0 (RfA p none)) rfl (HSub.trans (RfA.closeN (i1 := 10)) (by (try dsimp only [List.cons_append, List.nil_append, den, denL]); refine SelI.spec ?_; (repeat (first | refine SelI.blk (by repeat (first | with_reducible apply Rm.head | apply Rm.tail)) ?_ | refine SelI.ext (by repeat (first | with_reducible apply Rm.head | apply Rm.tail)) ?_ | (refine SelI.blk' (by repeat (first | with_reducible apply Rm.head | apply Rm.tail)) ?_ ?_; focus rfl) | (refine SelI.ext' (by repeat (first | with_reducible apply Rm.head | apply Rm.tail)) ?_ ?_; focus rfl))); exact SelI.nil)) (fun _ _ h => h)
theorem Sees.drop {c : Cx} {x : Blk} {H : List Blk} {e k : Nat} {a : Option Addr} {n cap : Nat} {cs : List Value} (h : Sees c H e k a n cap cs) : Sees c (x :: H) e k a n cap cs := fun ms w hk => h ms w (hk.hsub (HSub.drop (HSub.refl _)))
theorem wrapU (z : Int) : IntKind.u64.wrap z = z % 18446744073709551616 := by
  simp [IntKind.wrap, IntKind.bits, IntKind.signed]
theorem shlU {x i : Nat} (hi : i ≤ 9) : IntKind.u64.wrap (((x : Nat) : Int) * 2 ^ min (Int.toNat (7 * (i : Int))) IntKind.u64.bits) = ((x * 2 ^ (7 * i) % 18446744073709551616 : Nat) : Int) := by
  have e : min (Int.toNat (7 * (i : Int))) IntKind.u64.bits = 7 * i := by
    have : IntKind.u64.bits = 64 := rfl
    rw [this]; omega
  rw [e, wrapU]
  have : ((x : Int) * 2 ^ (7 * i)) = ((x * 2 ^ (7 * i) : Nat) : Int) := by simp
  rw [this]
  omega
theorem funit203 {p : Nat} {st : RSt} (hb : RB st) (w : World) : Fr Tryz.prog 203 #[pv p] w (RfA p st) (.int .u64 (rdU st).1) (RfA p (rdU st).2) := by
  refine enter_fr TBok (A' := RfA p (rdU st).2) (H := [.ext 12 (RfA p st)]) one_foot Tryz.func203 rfl rfl Tryz.ntmps203 [.loc p 10 0] rfl rfl ?_
  intro S
  refine Run.open (α := Option Addr × Nat) (A := []) (B := []) (fun z => RfH p st z ++ []) (fun w S h => RfA.open (X := []) (Y := []) h) ?_
  rintro ⟨a, cap⟩
  cases st with
  | none =>
    dsimp only [RfH, List.cons_append, List.nil_append]
    conv => whnf
    repeat' (first
 | with_reducible ((first | refine r_seq (fun KS hS => ?_) | (refine hS _ _ ?_; clear hS KS) | (refine hA _ ?_; clear hA KA)))
 | ((with_reducible (first | refine r_region ?_ | refine r_cond (fun KA hA KB hB => ?_) | refine r_ret ?_ | refine And.intro rfl ?_)); conv => whnf)
 | (apply in204; rfl; rfl; rfl; intro A; conv => whnf)
 | ((with_reducible apply OpK.more); (focus refine sok); (conv => whnf); fail_if_success guard_target =ₛ False))
    exact FinK.fr (y := .ext 0 (RfA p none)) rfl RfA.closeN (fun _ _ h => h)
  | some l =>
    have hl := hb l rfl
    have hcell : ∀ (i : Nat) (c : UInt8), l[i]? = some c → ((bcells l).drop ((i : Int).toNat * 1)).take 1 = denL [.v (bcell c)] := by
      intro i c hc
      have hi := (List.getElem?_eq_some_iff.1 hc).1
      have hi' : i < (bcells l).length := by rw [bcells_length]; exact hi
      rw [Int.toNat_natCast, Nat.mul_one, List.drop_eq_getElem_cons hi']
      simp [bcells, denL, den, (List.getElem?_eq_some_iff.1 hc).2]
    dsimp only [RfH, List.cons_append, List.nil_append]
    conv => whnf
    repeat' (first
 | with_reducible ((first | refine r_seq (fun KS hS => ?_) | (refine hS _ _ ?_; clear hS KS) | (refine hB _ ?_; clear hB KB) | refine r_block ?_))
 | ((with_reducible (first | refine r_region ?_ | refine r_cond (fun KA hA KB hB => ?_) | refine r_ret ?_ | refine r_skip ?_ | refine And.intro rfl ?_)); conv => whnf)
 | (apply in204; rfl; rfl; rfl; intro A; conv => whnf)
 | ((with_reducible apply OpK.more); (focus refine sok); (conv => whnf); fail_if_success guard_target =ₛ False)
 | with_reducible apply_assumption -symm -exfalso)
    refine r_loop (α := Nat) (fun i => [(0, .loc p 10 0), (3, .v (.int .u64 ((sumB l i % 18446744073709551616 : Nat) : Int))), (4, .v (.int .i64 (i : Nat)))]) (fun _ => [.blk 10 p [.v (.bool true), .v (.slice a l.length cap), .v (.bool false)] 251, .ext 11 (SlA 5 1 a l.length cap (bcells l))])
      (fun i => i ≤ l.length ∧ i ≤ 10 ∧ ∀ j c, j < i → l[j]? = some c → 128 ≤ c.toNat) (fun i => 10 - i) 0 ⟨by omega, by omega, fun j c h => by omega⟩ ?_ (by (try dsimp only [List.cons_append, List.nil_append, den, denL]); refine SelI.spec ?_; (repeat (first | refine SelI.blk (by repeat (first | with_reducible apply Rm.head | apply Rm.tail)) ?_ | refine SelI.ext (by repeat (first | with_reducible apply Rm.head | apply Rm.tail)) ?_ | (refine SelI.blk' (by repeat (first | with_reducible apply Rm.head | apply Rm.tail)) ?_ ?_; focus rfl) | (refine SelI.ext' (by repeat (first | with_reducible apply Rm.head | apply Rm.tail)) ?_ ?_; focus rfl))); exact SelI.nil) ?_
    · have hs0 : sumB l 0 = 0 := by cases l <;> rfl
      rw [hs0]
      repeat' (first | exact Sub.nil | (refine Sub.cons rfl rfl ?_))
    rintro i ⟨h1, h2, h3⟩ KL hL
    try dsimp only at h1 h2 h3 hL ⊢
    by_cases hi : i < l.length ∧ i < 10
    · obtain ⟨hi1, hi2⟩ := hi
      obtain ⟨c, hc⟩ : ∃ c, l[i]? = some c := ⟨l[i], List.getElem?_eq_getElem hi1⟩
      have hcl := c.toNat_lt
      have hcc := hcell i c hc
      have hs1 := sumB_succ l i c hc
      have hrem : (c.toNat : Int).tmod 128 = ((c.toNat % 128 : Nat) : Int) := by rw [IntWalk.rem_in _ _ (by omega)]; omega
      have hadd : IntKind.u64.wrap (((sumB l i % 18446744073709551616 : Nat) : Int) + ((c.toNat % 128 * 2 ^ (7 * i) % 18446744073709551616 : Nat) : Int)) = ((sumB l (i + 1) % 18446744073709551616 : Nat) : Int) := by
        rw [wrapU, hs1]; omega
      have hshl := shlU (x := c.toNat % 128) (i := i) (by omega)
      by_cases hlt : c.toNat < 128
      · have hcs : ((bcells l).drop (Int.toNat 0 * 1)).take ((Int.toNat ((i : Int) + 1) - Int.toNat 0) * 1) = bcells (l.take (i + 1)) := by
          have : (Int.toNat ((i : Int) + 1) - Int.toNat 0) * 1 = i + 1 := by omega
          rw [this]
          simp [bcells]
        conv => whnf
        repeat' (first
 | with_reducible refine r_stop 9 ?_
 | with_reducible ((first | refine r_seq (fun KS hS => ?_) | (refine hS _ _ ?_; clear hS KS) | (refine hA _ ?_; clear hA KA) | refine r_block ?_))
 | ((with_reducible (first | refine r_region ?_ | refine r_cond (fun KA hA KB hB => ?_) | refine r_skip ?_ | refine And.intro rfl ?_)); conv => whnf)
 | ((with_reducible refine WrapK.i64 ?_ ?_); (focus omega); conv => whnf)
 | ((with_reducible refine OpK.id ?_); (first | refine OpK.idx (k := 1) rfl rfl rfl rfl rfl rfl rfl (Sees.ext (by repeat (first | with_reducible apply At.head | apply At.tail))) (by omega) (by omega) hcc (fun b off hp => ?_) | refine OpK.ldp rfl rfl hp (List.cons_ne_nil _ _) ?_); conv => whnf)
 | ((with_reducible refine RemK.id ?_); refine RemK.eq (by omega) hrem ?_; conv => whnf)
 | ((with_reducible refine WrapK.id ?_); (first | refine WrapK.eq hadd ?_ | refine WrapK.eq (IntWalk.u64_in _ (by omega)) ?_); conv => whnf)
 | ((with_reducible refine OpK.id ?_); refine OpK.shl rfl rfl rfl (by omega) hshl ?_; conv => whnf)
 | (refine if_decT (by omega) ?_; conv => whnf)
 | with_reducible apply_assumption -symm -exfalso)
        refine ⟨?_⟩
        refine r_cutD (α := Unit) (fun _ => [(60, .v (.bool (!decide ((⟨(uvar (sumB l (i + 1) % 18446744073709551616)).toArray⟩ : ByteArray) = ⟨(l.take (i + 1)).toArray⟩)))), (0, .loc p 10 0), (3, .v (.int .u64 ((sumB l (i + 1) % 18446744073709551616 : Nat) : Int))), (4, .v (.int .i64 (i : Nat)))]) (fun _ => [.blk 10 p [.v (.bool true), .v (.slice a l.length cap), .v (.bool false)] 251, .ext 11 (SlA 5 1 a l.length cap (bcells l))]) (fun _ => True) ?_ ?_
        · intro KC hC
          refine r_any (id := 9) mixed (by kernel_rfl) (by kernel_rfl) ?_
          conv => whnf
          repeat' (first
 | ((with_reducible (first | refine And.intro rfl ?_ | intro b)); conv => whnf)
 | ((with_reducible refine WrapK.i64 ?_ ?_); (focus omega); conv => whnf)
 | ((with_reducible refine CallK.id ?_); refine CallK.fresh (fun ms w hk => fz137 (sumB l (i + 1) % 18446744073709551616) (Nat.mod_lt _ (by decide)) w) ?_; conv => whnf)
 | ((with_reducible refine OpK.id ?_); (first | (refine OpK.slR (k := 1) rfl rfl rfl rfl rfl rfl (Sees.ext (by repeat (first | with_reducible apply At.head | apply At.tail))) ?_; (conv => whnf); refine ⟨by omega, by omega, by omega, fun a' hsee => ?_⟩; (conv => whnf)) | (refine OpK.cvBS' rfl rfl rfl rfl rfl rfl rfl rfl (Sees.ext (by repeat (first | with_reducible apply At.head | apply At.tail))) rfl ?_; conv => whnf) | (refine OpK.cvBS' rfl rfl rfl rfl rfl rfl rfl rfl (by first | assumption | (refine Sees.drop ?_; assumption)) hcs ?_; conv => whnf)))
 | (refine hC () _ _ trivial (by repeat' (first | exact SubD.nil | (refine SubD.cons rfl rfl ?_))) (by (try dsimp only [List.cons_append, List.nil_append, den, denL]); refine SelI.spec ?_; (repeat (first | refine SelI.blk (by repeat (first | with_reducible apply Rm.head | apply Rm.tail)) ?_ | refine SelI.ext (by repeat (first | with_reducible apply Rm.head | apply Rm.tail)) ?_ | (refine SelI.blk' (by repeat (first | with_reducible apply Rm.head | apply Rm.tail)) ?_ ?_; focus rfl) | (refine SelI.ext' (by repeat (first | with_reducible apply Rm.head | apply Rm.tail)) ?_ ?_; focus rfl))); exact SelI.nil))
 | ((with_reducible ((first | refine InAt.mk (fun K' hK => ?_) | refine AnyAt.mk (fun K' hK => ?_) | (refine hK _ ?_; clear hK K') | (refine hK _ _ ?_; clear hK K')))); conv => whnf)
 | (refine And.intro ?_ ?_; all_goals (conv => whnf)))
        rintro ⟨⟩ -
        by_cases heq : uvar (sumB l (i + 1) % 18446744073709551616) = l.take (i + 1)
        · have hR : rdU (some l) = (sumB l (i + 1) % 18446744073709551616, some (l.drop (i + 1))) := by
            have hlen : (uvar (sumB l (i + 1) % 18446744073709551616)).length = i + 1 := by rw [heq, List.length_take]; omega
            have e : l = uvar (sumB l (i + 1) % 18446744073709551616) ++ l.drop (i + 1) := by rw [heq, List.take_append_drop]
            have := rdU_uvar (n := sumB l (i + 1) % 18446744073709551616) (l.drop (i + 1)) (Nat.mod_lt _ (by decide))
            rw [← e] at this
            exact this
          have hB : (!decide ((⟨(uvar (sumB l (i + 1) % 18446744073709551616)).toArray⟩ : ByteArray) = ⟨(l.take (i + 1)).toArray⟩)) = false := by rw [heq]; simp
          rw [hB]
          repeat' (first
 | with_reducible ((first | refine r_seq (fun KS hS => ?_) | (refine hS _ _ ?_; clear hS KS) | (refine hB _ ?_; clear hB KB)))
 | ((with_reducible (first | refine r_region ?_ | refine r_cond (fun KA hA KB hB => ?_) | refine r_ret ?_ | refine r_skip ?_ | refine And.intro rfl ?_)); conv => whnf)
 | ((with_reducible refine WrapK.i64 ?_ ?_); (focus omega); conv => whnf)
 | ((with_reducible refine OpK.id ?_); refine OpK.slE (k := 1) rfl rfl rfl rfl rfl rfl (by repeat (first | with_reducible apply At.head | apply At.tail)) ?_; conv => whnf)
 | (refine ⟨by omega, by omega, by omega, fun a' => ?_⟩; conv => whnf)
 | with_reducible apply_assumption -symm -exfalso)
          rw [hR]
          exact FinK.fr (y := .ext 0 (RfA p (some (l.drop (i + 1))))) rfl (RfA.close (bc_len l (i + 1)) (bc_drop l (i + 1))) (fun _ _ h => h)
        · have hR : rdU (some l) = (0, none) := by
            refine if_pos ?_
            by_cases h : (numR l).2 = 0
            · exact h
            · obtain ⟨_, _, _, h4⟩ := rdU_first h3 h
              obtain ⟨_, h5, h6⟩ := h4 c hc hlt
              have := numR_lt l
              exfalso
              apply heq
              rw [← h6, h5, Nat.mod_eq_of_lt this]
          have hB : (!decide ((⟨(uvar (sumB l (i + 1) % 18446744073709551616)).toArray⟩ : ByteArray) = ⟨(l.take (i + 1)).toArray⟩)) = true := by
            have : ¬ ((⟨(uvar (sumB l (i + 1) % 18446744073709551616)).toArray⟩ : ByteArray) = ⟨(l.take (i + 1)).toArray⟩) := by
              intro h
              apply heq
              have := congrArg (fun b : ByteArray => b.data.toList) h
              simpa using this
            simp [this]
          rw [hB]
          repeat' (first
 | with_reducible ((first | refine r_seq (fun KS hS => ?_) | (refine hS _ _ ?_; clear hS KS) | (refine hA _ ?_; clear hA KA)))
 | ((with_reducible (first | refine r_region ?_ | refine r_cond (fun KA hA KB hB => ?_) | refine r_ret ?_ | refine r_exit ?_ | refine And.intro rfl ?_)); conv => whnf)
 | ((with_reducible refine CallK.id ?_); (first | apply in124 | apply in204); rfl; rfl; rfl; intro A; conv => whnf)
 | ((with_reducible apply OpK.more); (focus refine sok); (conv => whnf); fail_if_success guard_target =ₛ False)
 | with_reducible apply_assumption -symm -exfalso)
          all_goals rw [hR]
          all_goals exact FinK.fr (y := .ext 0 (RfA p none)) rfl (HSub.trans (RfA.closeN (i1 := 10)) (by (try dsimp only [List.cons_append, List.nil_append, den, denL]); refine SelI.spec ?_; (repeat (first | refine SelI.blk (by repeat (first | with_reducible apply Rm.head | apply Rm.tail)) ?_ | refine SelI.ext (by repeat (first | with_reducible apply Rm.head | apply Rm.tail)) ?_ | (refine SelI.blk' (by repeat (first | with_reducible apply Rm.head | apply Rm.tail)) ?_ ?_; focus rfl) | (refine SelI.ext' (by repeat (first | with_reducible apply Rm.head | apply Rm.tail)) ?_ ?_; focus rfl))); exact SelI.nil)) (fun _ _ h => h)
      · have hnext : ∀ (j : Nat) (d : UInt8), j < i + 1 → l[j]? = some d → 128 ≤ d.toNat := fun j d hj hd => by
          by_cases hji : j = i
          · subst hji; rw [hc] at hd; obtain rfl : c = d := by simpa using hd
            omega
          · exact h3 j d (by omega) hd
        conv => whnf
        repeat' (first
 | with_reducible ((first | refine r_seq (fun KS hS => ?_) | (refine hS _ _ ?_; clear hS KS) | (refine hA _ ?_; clear hA KA) | (refine hB _ ?_; clear hB KB) | refine r_block ?_))
 | ((with_reducible (first | refine r_region ?_ | refine r_cond (fun KA hA KB hB => ?_) | refine r_skip ?_ | refine And.intro rfl ?_)); conv => whnf)
 | ((with_reducible refine WrapK.i64 ?_ ?_); (focus omega); conv => whnf)
 | (refine hL (i + 1) _ _ ⟨by omega, by omega, hnext⟩ (by omega) ?_ (by (try dsimp only [List.cons_append, List.nil_append, den, denL]); refine SelI.spec ?_; (repeat (first | refine SelI.blk (by repeat (first | with_reducible apply Rm.head | apply Rm.tail)) ?_ | refine SelI.ext (by repeat (first | with_reducible apply Rm.head | apply Rm.tail)) ?_ | (refine SelI.blk' (by repeat (first | with_reducible apply Rm.head | apply Rm.tail)) ?_ ?_; focus rfl) | (refine SelI.ext' (by repeat (first | with_reducible apply Rm.head | apply Rm.tail)) ?_ ?_; focus rfl))); exact SelI.nil); repeat' (first | exact Sub.nil | (refine Sub.cons rfl rfl ?_)))
 | ((with_reducible refine OpK.id ?_); (first | refine OpK.idx (k := 1) rfl rfl rfl rfl rfl rfl rfl (Sees.ext (by repeat (first | with_reducible apply At.head | apply At.tail))) (by omega) (by omega) hcc (fun b off hp => ?_) | refine OpK.ldp rfl rfl hp (List.cons_ne_nil _ _) ?_); conv => whnf)
 | ((with_reducible refine RemK.id ?_); refine RemK.eq (by omega) hrem ?_; conv => whnf)
 | ((with_reducible refine WrapK.id ?_); (first | refine WrapK.eq hadd ?_ | refine WrapK.eq (IntWalk.u64_in _ (by omega)) ?_); conv => whnf)
 | ((with_reducible refine OpK.id ?_); refine OpK.shl rfl rfl rfl (by omega) hshl ?_; conv => whnf)
 | ((first | refine if_decT (by omega) ?_ | refine if_decF (by omega) ?_); conv => whnf)
 | with_reducible apply_assumption -symm -exfalso)
    · have h0 : (numR l).2 = 0 := by
        by_cases h : (numR l).2 = 0
        · exact h
        · have := rdU_first h3 h; omega
      conv => whnf
      repeat' (first
 | with_reducible ((first | refine r_seq (fun KS hS => ?_) | (refine hS _ _ ?_; clear hS KS) | (refine hA _ ?_; clear hA KA) | (refine hB _ ?_; clear hB KB)))
 | ((with_reducible (first | refine r_region ?_ | refine r_cond (fun KA hA KB hB => ?_) | refine r_ret ?_ | refine r_exit ?_ | refine And.intro rfl ?_)); conv => whnf)
 | ((with_reducible refine CallK.id ?_); (first | apply in124 | apply in204); rfl; rfl; rfl; intro A; conv => whnf)
 | ((with_reducible apply OpK.more); (focus refine sok); (conv => whnf); fail_if_success guard_target =ₛ False)
 | (refine if_decF (by omega) ?_; conv => whnf)
 | (refine if_dec (fun h => ?_) (fun h => ?_); all_goals (conv => whnf))
 | with_reducible apply_assumption -symm -exfalso)
      all_goals rw [show rdU (some l) = (0, none) from if_pos h0]
      all_goals exact FinK.fr (y := .ext 0 (RfA p none)) rfl (HSub.trans (RfA.closeN (i1 := 10)) (by (try dsimp only [List.cons_append, List.nil_append, den, denL]); refine SelI.spec ?_; (repeat (first | refine SelI.blk (by repeat (first | with_reducible apply Rm.head | apply Rm.tail)) ?_ | refine SelI.ext (by repeat (first | with_reducible apply Rm.head | apply Rm.tail)) ?_ | (refine SelI.blk' (by repeat (first | with_reducible apply Rm.head | apply Rm.tail)) ?_ ?_; focus rfl) | (refine SelI.ext' (by repeat (first | with_reducible apply Rm.head | apply Rm.tail)) ?_ ?_; focus rfl))); exact SelI.nil)) (fun _ _ h => h)
theorem fread122 {a : Option Addr} {n cap : Nat} {l : List UInt8} {w : World} (hr : RdS w 5 1 a n cap (bcells l)) (hl : n ≤ 1099511627776) : FrZ Tryz.prog 122 #[.slice a n cap] w emp (fun p : Nat => pv p) (fun p => RfA p (some l)) := by
  have hlen := hr.len
  rw [bcells_length, Nat.mul_one] at hlen
  subst hlen
  refine enter_frZ TBok (H := []) emp_foot Tryz.func122 rfl rfl Tryz.ntmps122 [.v (.slice a l.length cap)] rfl rfl ?_
  intro S hS _
  have hs := fun n' r H => Sees.old (c := ⟨Tryz.prog, TB, n', w, S, r, TBok⟩) (H := H) (hr.oldE hS)
  conv => whnf
  repeat' (first
 | with_reducible ((first | refine r_seq (fun KS hS => ?_) | (refine hS _ _ ?_; clear hS KS)))
 | ((with_reducible (first | refine r_region ?_ | refine r_ret ?_ | intro b)); conv => whnf)
 | ((with_reducible refine OpK.id ?_); refine OpK.appS (k := 1) rfl rfl rfl rfl rfl rfl rfl rfl (by repeat (first | with_reducible apply At.head | apply At.tail)) rfl (SrcK.sees rfl rfl (hs _ _ _) (bone _)) (by show (0 + _) * (1 + 1) ≤ 140737488355328; omega) (fun a' cap' => ?_); conv => whnf))
  exact FinK.frZ (i := 0) b rfl (HSub.trans (RfA.close (i1 := 1) (i2 := 0) (a := a') (n := 0 + l.length) (cap := cap') (cs := bcells l) (Nat.zero_add _) rfl) (by (try dsimp only [List.cons_append, List.nil_append, den, denL]); refine SelI.spec ?_; (repeat (first | refine SelI.blk (by repeat (first | with_reducible apply Rm.head | apply Rm.tail)) ?_ | refine SelI.ext (by repeat (first | with_reducible apply Rm.head | apply Rm.tail)) ?_ | (refine SelI.blk' (by repeat (first | with_reducible apply Rm.head | apply Rm.tail)) ?_ ?_; focus rfl) | (refine SelI.ext' (by repeat (first | with_reducible apply Rm.head | apply Rm.tail)) ?_ ?_; focus rfl))); exact SelI.nil))
theorem rdI_U (st : RSt) : rdI st = (zagI (rdU st).1, (rdU st).2) := by
  cases st with
  | none => rfl
  | some l =>
    unfold rdI rdU
    dsimp only
    split <;> rfl
theorem fint126 {p : Nat} {st : RSt} (hb : RB st) (w : World) : Fr Tryz.prog 126 #[pv p] w (RfA p st) (.int .i64 (rdI st).1) (RfA p (rdI st).2) := by
  rw [rdI_U]
  refine enter_fr TBok (A' := RfA p (rdU st).2) (H := [.ext 12 (RfA p st)]) one_foot Tryz.func126 rfl rfl Tryz.ntmps126 [.loc p 10 0] rfl rfl ?_
  intro S
  conv => whnf
  repeat' (first
 | with_reducible ((first | refine r_seq (fun KS hS => ?_) | (refine hS _ _ ?_; clear hS KS)))
 | ((with_reducible (first | refine r_region ?_ | refine r_ret ?_)); conv => whnf)
 | ((with_reducible refine CallK.id ?_); refine CallK.frE (by repeat (first | with_reducible apply At.head | apply At.tail)) (fun w => funit203 hb w) ?_; conv => whnf)
 | ((with_reducible refine CallK.at 205 ?_); refine CallK.pu (fun w => fzag205 (rdU_lt st) w) ?_; conv => whnf))
  exact FinK.fr (y := .ext 0 (RfA p (rdU st).2)) rfl (HSub.ext (fun _ _ h => h) HSub.nil) (fun _ _ h => h)
theorem fend129 {p : Nat} {st : RSt} (w : World) : Fr Tryz.prog 129 #[pv p] w (RfA p st) (.int .i64 (if st = some [] then 0 else 10)) (RfA p st) := by
  refine enter_fr TBok (A' := RfA p st) (H := [.ext 12 (RfA p st)]) one_foot Tryz.func129 rfl rfl Tryz.ntmps129 [.loc p 10 0] rfl rfl ?_
  intro S
  refine Run.open (α := Option Addr × Nat) (A := []) (B := []) (fun z => RfH p st z ++ []) (fun w S h => RfA.open (X := []) (Y := []) h) ?_
  rintro ⟨a, cap⟩
  cases st with
  | none =>
    dsimp only [RfH, List.cons_append, List.nil_append]
    conv => whnf
    repeat' (first
 | with_reducible ((first | refine r_seq (fun KS hS => ?_) | (refine hS _ _ ?_; clear hS KS) | (refine hA _ ?_; clear hA KA) | (refine hB _ ?_; clear hB KB)))
 | ((with_reducible (first | refine r_region ?_ | refine r_cond (fun KA hA KB hB => ?_) | refine r_ret ?_ | refine r_skip ?_ | refine And.intro rfl ?_)); conv => whnf)
 | (apply in204; rfl; rfl; rfl; intro A; conv => whnf)
 | ((with_reducible apply OpK.more); (focus refine sok); (conv => whnf); fail_if_success guard_target =ₛ False)
 | with_reducible apply_assumption -symm -exfalso)
    exact FinK.fr (y := .ext 0 (RfA p none)) rfl RfA.closeN (fun _ _ h => h)
  | some l =>
    dsimp only [RfH, List.cons_append, List.nil_append]
    cases l with
    | nil =>
      conv => whnf
      repeat' (first
 | with_reducible ((first | refine r_seq (fun KS hS => ?_) | (refine hS _ _ ?_; clear hS KS) | (refine hB _ ?_; clear hB KB)))
 | ((with_reducible (first | refine r_region ?_ | refine r_cond (fun KA hA KB hB => ?_) | refine r_ret ?_ | refine r_skip ?_ | refine And.intro rfl ?_)); conv => whnf)
 | (apply in204; rfl; rfl; rfl; intro A; conv => whnf)
 | ((with_reducible apply OpK.more); (focus refine sok); (conv => whnf); fail_if_success guard_target =ₛ False)
 | with_reducible apply_assumption -symm -exfalso)
      exact FinK.fr (y := .ext 0 (RfA p (some []))) rfl (RfA.close rfl rfl) (fun _ _ h => h)
    | cons c l =>
      have hpos : (0 : Int) < ((c :: l).length : Int) := by simp only [List.length_cons]; omega
      conv => whnf
      repeat' (first
 | with_reducible ((first | refine r_seq (fun KS hS => ?_) | (refine hS _ _ ?_; clear hS KS) | (refine hA _ ?_; clear hA KA) | (refine hB _ ?_; clear hB KB)))
 | ((with_reducible (first | refine r_region ?_ | refine r_cond (fun KA hA KB hB => ?_) | refine r_ret ?_ | refine r_skip ?_ | refine And.intro rfl ?_)); conv => whnf)
 | (apply in204; rfl; rfl; rfl; intro A; conv => whnf)
 | (refine if_decT hpos ?_; conv => whnf)
 | ((with_reducible apply OpK.more); (focus refine sok); (conv => whnf); fail_if_success guard_target =ₛ False)
 | with_reducible apply_assumption -symm -exfalso)
      exact FinK.fr (y := .ext 0 (RfA p (some (c :: l)))) (by simp [den]) (RfA.close rfl rfl) (fun _ _ h => h)
theorem rdT_U (st : RSt) : rdT st = match (rdU st) with
    | (n, some r) => if n > 65536 ∨ n > r.length then (⟨#[]⟩, none) else (⟨(r.take n).toArray⟩, some (r.drop n))
    | (_, none) => (⟨#[]⟩, none) := by
  cases st with
  | none => rfl
  | some l =>
    have hle := numR_le l
    show (if (txtR l).2 = 0 then ((⟨#[]⟩ : ByteArray), (none : RSt)) else ((txtR l).1, some (l.drop (txtR l).2))) = _
    by_cases h0 : (numR l).2 = 0
    · have ht : txtR l = (⟨#[]⟩, 0) := if_pos (.inl h0)
      have hu : rdU (some l) = (0, none) := if_pos h0
      rw [ht, hu]; rfl
    · have hu : rdU (some l) = ((numR l).1, some (l.drop (numR l).2)) := if_neg h0
      rw [hu]
      by_cases h1 : (numR l).1 > 65536 ∨ (numR l).1 > l.length - (numR l).2
      · have ht : txtR l = (⟨#[]⟩, 0) := if_pos (.inr h1)
        rw [ht]
        dsimp only
        rw [if_pos (show (numR l).1 > 65536 ∨ (numR l).1 > (l.drop (numR l).2).length by rw [List.length_drop]; exact h1)]
        rfl
      · have ht : txtR l = (⟨((l.drop (numR l).2).take (numR l).1).toArray⟩, (numR l).2 + (numR l).1) := if_neg (by rintro (h | h); exact h0 h; exact h1 h)
        rw [ht]
        dsimp only
        rw [if_neg (by omega), if_neg (by rw [List.length_drop]; exact h1), List.drop_drop]
theorem ftext125 {p : Nat} {st : RSt} (hb : RB st) (w : World) : Fr Tryz.prog 125 #[pv p] w (RfA p st) (.string (rdT st).1) (RfA p (rdT st).2) := by
  have hU := RB.U hb
  rw [rdT_U]
  obtain ⟨n, st', e⟩ : ∃ n st', rdU st = (n, st') := ⟨_, _, rfl⟩
  have hn : n < 2 ^ 64 := by have := rdU_lt st; rw [e] at this; exact this
  rw [e] at hU
  have hf := fun w => funit203 (p := p) hb w
  rw [e] at hf ⊢
  dsimp only at hU hf ⊢
  cases st' with
  | none =>
    refine enter_fr TBok (A' := RfA p none) (H := [.ext 12 (RfA p st)]) one_foot Tryz.func125 rfl rfl Tryz.ntmps125 [.loc p 10 0] rfl rfl ?_
    intro S
    conv => whnf
    repeat' (first
 | with_reducible refine r_stop 2 ?_
 | with_reducible ((first | refine r_seq (fun KS hS => ?_) | (refine hS _ _ ?_; clear hS KS)))
 | ((with_reducible refine r_region ?_); conv => whnf)
 | ((with_reducible refine CallK.id ?_); refine CallK.frE (by repeat (first | with_reducible apply At.head | apply At.tail)) (fun w => hf w) ?_; conv => whnf))
    refine ⟨?_⟩
    refine Run.open (α := Option Addr × Nat) (A := []) (B := []) (fun z => RfH p none z ++ []) (fun w S h => RfA.open (X := []) (Y := []) h) ?_
    rintro ⟨a, cap⟩
    dsimp only [RfH, List.cons_append, List.nil_append]
    repeat' (first
 | with_reducible ((first | refine r_seq (fun KS hS => ?_) | (refine hS _ _ ?_; clear hS KS) | (refine hA _ ?_; clear hA KA)))
 | ((with_reducible (first | refine r_region ?_ | refine r_cond (fun KA hA KB hB => ?_) | refine r_ret ?_ | refine And.intro rfl ?_)); conv => whnf)
 | (apply in204; rfl; rfl; rfl; intro A; conv => whnf)
 | ((with_reducible apply OpK.more); (focus refine sok); (conv => whnf); fail_if_success guard_target =ₛ False))
    exact FinK.fr (y := .ext 0 (RfA p none)) rfl RfA.closeN (fun _ _ h => h)
  | some r =>
    have hl := hU r rfl
    dsimp only
    by_cases h1 : n > 65536 ∨ n > r.length
    · rw [if_pos h1]
      refine enter_fr TBok (A' := RfA p none) (H := [.ext 12 (RfA p st)]) one_foot Tryz.func125 rfl rfl Tryz.ntmps125 [.loc p 10 0] rfl rfl ?_
      intro S
      conv => whnf
      repeat' (first
 | with_reducible refine r_stop 2 ?_
 | with_reducible ((first | refine r_seq (fun KS hS => ?_) | (refine hS _ _ ?_; clear hS KS)))
 | ((with_reducible refine r_region ?_); conv => whnf)
 | ((with_reducible refine CallK.id ?_); refine CallK.frE (by repeat (first | with_reducible apply At.head | apply At.tail)) (fun w => hf w) ?_; conv => whnf))
      refine ⟨?_⟩
      refine Run.open (α := Option Addr × Nat) (A := []) (B := []) (fun z => RfH p (some r) z ++ []) (fun w S h => RfA.open (X := []) (Y := []) h) ?_
      rintro ⟨a, cap⟩
      dsimp only [RfH, List.cons_append, List.nil_append]
      repeat' (first
 | with_reducible ((first | refine r_seq (fun KS hS => ?_) | (refine hS _ _ ?_; clear hS KS) | (refine hA _ ?_; clear hA KA) | (refine hB _ ?_; clear hB KB)))
 | ((with_reducible (first | refine r_region ?_ | refine r_cond (fun KA hA KB hB => ?_) | refine r_ret ?_ | refine r_skip ?_ | refine And.intro rfl ?_)); conv => whnf)
 | ((with_reducible refine CallK.id ?_); (first | apply in204 | apply in124); rfl; rfl; rfl; intro A; conv => whnf)
 | ((with_reducible refine WrapK.id ?_); refine WrapK.eq (IntWalk.u64_in _ (by omega)) ?_; conv => whnf)
 | ((with_reducible apply OpK.more); (focus refine sok); (conv => whnf); fail_if_success guard_target =ₛ False)
 | (refine if_decT (by omega) ?_; conv => whnf)
 | (refine if_dec (fun h => ?_) (fun h => ?_); all_goals (conv => whnf))
 | with_reducible apply_assumption -symm -exfalso)
      all_goals first | exact FinK.fr (y := .ext 0 (RfA p none)) rfl (HSub.trans (RfA.closeN (i1 := 10)) (by (try dsimp only [List.cons_append, List.nil_append, den, denL]); refine SelI.spec ?_; (repeat (first | refine SelI.blk (by repeat (first | with_reducible apply Rm.head | apply Rm.tail)) ?_ | refine SelI.ext (by repeat (first | with_reducible apply Rm.head | apply Rm.tail)) ?_ | (refine SelI.blk' (by repeat (first | with_reducible apply Rm.head | apply Rm.tail)) ?_ ?_; focus rfl) | (refine SelI.ext' (by repeat (first | with_reducible apply Rm.head | apply Rm.tail)) ?_ ?_; focus rfl))); exact SelI.nil)) (fun _ _ h => h) | (exfalso; omega)
    · rw [if_neg h1]
      have hcs : ((bcells r).drop (Int.toNat 0 * 1)).take ((Int.toNat (n : Int) - Int.toNat 0) * 1) = bcells (r.take n) := by
        have : (Int.toNat (n : Int) - Int.toNat 0) * 1 = n := by omega
        rw [this]
        simp [bcells]
      refine enter_fr TBok (A' := RfA p (some (r.drop n))) (H := [.ext 12 (RfA p st)]) one_foot Tryz.func125 rfl rfl Tryz.ntmps125 [.loc p 10 0] rfl rfl ?_
      intro S
      conv => whnf
      repeat' (first
 | with_reducible refine r_stop 2 ?_
 | with_reducible ((first | refine r_seq (fun KS hS => ?_) | (refine hS _ _ ?_; clear hS KS)))
 | ((with_reducible refine r_region ?_); conv => whnf)
 | ((with_reducible refine CallK.id ?_); refine CallK.frE (by repeat (first | with_reducible apply At.head | apply At.tail)) (fun w => hf w) ?_; conv => whnf))
      refine ⟨?_⟩
      refine Run.open (α := Option Addr × Nat) (A := []) (B := []) (fun z => RfH p (some r) z ++ []) (fun w S h => RfA.open (X := []) (Y := []) h) ?_
      rintro ⟨a, cap⟩
      dsimp only [RfH, List.cons_append, List.nil_append]
      repeat' (first
 | with_reducible refine r_stop 8 ?_
 | with_reducible ((first | refine r_seq (fun KS hS => ?_) | (refine hS _ _ ?_; clear hS KS) | (refine hB _ ?_; clear hB KB)))
 | ((with_reducible (first | refine r_region ?_ | refine r_cond (fun KA hA KB hB => ?_) | refine r_ret ?_ | refine r_skip ?_ | refine And.intro rfl ?_)); conv => whnf)
 | ((with_reducible refine CallK.id ?_); apply in204; rfl; rfl; rfl; intro A; conv => whnf)
 | ((with_reducible refine WrapK.id ?_); refine WrapK.eq (IntWalk.u64_in _ (by omega)) ?_; conv => whnf)
 | ((with_reducible refine OpK.id ?_); (first | (refine OpK.slR (k := 1) rfl rfl rfl rfl rfl rfl (Sees.ext (by repeat (first | with_reducible apply At.head | apply At.tail))) ?_; (conv => whnf); refine ⟨by omega, by omega, by omega, fun a' hsee => ?_⟩; (conv => whnf)) | (refine OpK.cvBS' rfl rfl rfl rfl rfl rfl rfl rfl (by first | assumption | (refine Sees.drop ?_; assumption)) hcs ?_; conv => whnf)))
 | ((with_reducible apply OpK.more); (focus refine sok); (conv => whnf); fail_if_success guard_target =ₛ False)
 | (refine if_decF (by omega) ?_; conv => whnf)
 | with_reducible apply_assumption -symm -exfalso)
      refine ⟨?_⟩
      repeat' (first
 | with_reducible ((first | refine r_seq (fun KS hS => ?_) | (refine hS _ _ ?_; clear hS KS)))
 | ((with_reducible (first | refine r_region ?_ | refine r_ret ?_ | refine And.intro rfl ?_)); conv => whnf)
 | ((with_reducible refine OpK.id ?_); refine OpK.slE (k := 1) rfl rfl rfl rfl rfl rfl (by repeat (first | with_reducible apply At.head | apply At.tail)) ?_; conv => whnf)
 | (refine ⟨by omega, by omega, by omega, fun a' => ?_⟩; conv => whnf))
      exact FinK.fr (y := .ext 0 (RfA p (some (r.drop n)))) rfl (RfA.close (bc_len r n) (bc_drop r n)) (fun _ _ h => h)
end Go.Proofs.YtbgnoibellfojaaGreatDoor

namespace Go.Proofs.YtbgnoibellfojaaGreatDoor
open Go Go.X
set_option maxRecDepth 100000
set_option maxHeartbeats 0
theorem hk107 : nameOk ⟨#[107]⟩ = true := by decide +kernel
theorem hk97 : nameOk ⟨#[97]⟩ = true := by decide +kernel
end Go.Proofs.YtbgnoibellfojaaGreatDoor

namespace Go.Proofs.YtbgnoibellfojaaGreatDoor
open Go Go.X
set_option maxRecDepth 100000
set_option maxHeartbeats 0
theorem newCall {nn : Nat} {W : World} {S : Nat → Prop} {r : Option Nat} {H : List Blk} {nx : K1} {n gs : Int} (hn : 1 ≤ n ∧ n ≤ 7) (hg : 2 ≤ gs ∧ gs ≤ 8) (hx : ∀ z : Nat × Nat, nx (.v (.tuple #[pv z.1, .int .i64 0])) (.blk 3 z.1 (DC n gs 0 z.2) 81 :: .ext 4 (MpA z.2 [] 0) :: H)) : CallK ⟨Tryz.prog, TB, nn, W, S, r, TBok⟩ 11 [.v (.int .i64 n), .v (.int .i64 gs)] H nx :=
  CallK.frL (v := fun z : Nat × Nat => .tuple #[pv z.1, .int .i64 0]) (L0 := []) (L := []) (R := H) Sel.nil HSub.nil (fun _ w _ => FrZ.pre (new11 (n := n) (gs := gs) hn hg w) (fun S h => by cases h; exact fun _ h => h))
    (M' := fun z => [.blk 3 z.1 (DC n gs 0 z.2) 81, .ext 4 (MpA z.2 [] 0)]) (fun z => HSub.keep rfl (HSub.ext (fun _ _ h => h) HSub.nil)) hx
end Go.Proofs.YtbgnoibellfojaaGreatDoor

namespace Go.Proofs.YtbgnoibellfojaaGreatDoor
open Go Go.X
set_option maxRecDepth 100000
set_option maxHeartbeats 0
theorem alnum_iff (c : UInt8) : alnum c = true ↔ (97 ≤ c.toNat ∧ c.toNat ≤ 122) ∨ (48 ≤ c.toNat ∧ c.toNat ≤ 57) := by
  have h : ∀ n : Fin 256, alnum (UInt8.ofNat n.1) = decide ((97 ≤ n.1 ∧ n.1 ≤ 122) ∨ (48 ≤ n.1 ∧ n.1 ≤ 57)) := by decide +kernel
  have := h ⟨c.toNat, c.toNat_lt⟩
  rw [UInt8.ofNat_toNat] at this
  rw [this]
  simp
theorem fname282 {s : ByteArray} (hs : s.size ≤ 1099511627776) (w : World) : Pu Tryz.prog 282 #[.string s] w (.bool (nameOk s)) := by
  refine enter_sound TBok Tryz.func282 rfl rfl Tryz.ntmps282 [.v (.string s)] (Kn.start w noS) rfl rfl ?_
  have hsl := str_len s
  conv => whnf
  repeat' (first
 | with_reducible ((first | refine r_seq (fun KS hS => ?_) | (refine hS _ _ ?_; clear hS KS) | refine r_block ?_))
 | ((with_reducible refine r_region ?_); conv => whnf))
  refine r_loop (α := Nat) (fun i => [(0, .v (.string s)), (3, .v (.int .i64 (i : Nat)))]) (fun _ => []) (fun i => i ≤ s.size ∧ ∀ j c, j < i → s.data.toList[j]? = some c → alnum c = true) (fun i => s.size - i) 0 ⟨by omega, fun j c h => by omega⟩ ?_ (HSub.refl _) ?_
  · repeat' (first | exact Sub.nil | (refine Sub.cons rfl rfl ?_))
  rintro i ⟨h1, h2⟩ KL hL
  by_cases hi : i < s.size
  · obtain ⟨c, hc⟩ : ∃ c, s.data.toList[i]? = some c := ⟨_, List.getElem?_eq_getElem (by omega)⟩
    have hc' : s.data.toList[(i : Int).toNat]? = some c := by simpa using hc
    have hclt := c.toNat_lt
    by_cases ha : alnum c = true
    · have hnext : ∀ j d, j < i + 1 → s.data.toList[j]? = some d → alnum d = true := fun j d hj hd => by
        by_cases hji : j = i
        · subst hji; rw [hc] at hd; obtain rfl : c = d := by simpa using hd
          exact ha
        · exact h2 j d (by omega) hd
      have ha' := (alnum_iff c).1 ha
      conv => whnf
      repeat' (first
 | with_reducible ((first | refine r_seq (fun KS hS => ?_) | (refine hS _ _ ?_; clear hS KS) | (refine hA _ ?_; clear hA KA) | (refine hB _ ?_; clear hB KB) | refine r_block ?_))
 | ((with_reducible (first | refine r_region ?_ | refine r_cond (fun KA hA KB hB => ?_) | refine r_skip ?_)); conv => whnf)
 | ((with_reducible refine WrapK.i64 ?_ ?_); (focus omega); conv => whnf)
 | (refine hL (i + 1) _ _ ⟨by omega, hnext⟩ (by omega) ?_ (HSub.refl _); repeat' (first | exact Sub.nil | (refine Sub.cons rfl rfl ?_)))
 | ((with_reducible refine OpK.id ?_); refine OpK.sIx (b := c) rfl rfl rfl rfl rfl (by omega) hc' ?_; conv => whnf)
 | ((first | refine if_decT (by omega) ?_ | refine if_decF (by omega) ?_); conv => whnf)
 | (refine if_dec (fun h => ?_) (fun h => ?_); all_goals (conv => whnf))
 | with_reducible apply_assumption -symm -exfalso)
      all_goals (exfalso; omega)
    · have hno : nameOk s = false := by
        have : s.data.toList.all alnum = false := by
          rw [Bool.eq_false_iff]
          intro h
          exact ha (List.all_eq_true.1 h c (List.mem_of_getElem? hc))
        simp [nameOk, this]
      have ha' : ¬ ((97 ≤ c.toNat ∧ c.toNat ≤ 122) ∨ (48 ≤ c.toNat ∧ c.toNat ≤ 57)) := fun h => ha ((alnum_iff c).2 h)
      conv => whnf
      repeat' (first
 | with_reducible ((first | refine r_seq (fun KS hS => ?_) | (refine hS _ _ ?_; clear hS KS) | (refine hA _ ?_; clear hA KA) | refine r_block ?_))
 | ((with_reducible (first | refine r_region ?_ | refine r_cond (fun KA hA KB hB => ?_) | refine r_ret ?_ | refine r_skip ?_)); conv => whnf)
 | ((with_reducible refine OpK.id ?_); refine OpK.sIx (b := c) rfl rfl rfl rfl rfl (by omega) hc' ?_; conv => whnf)
 | ((first | refine if_decT (by omega) ?_ | refine if_decF (by omega) ?_); conv => whnf)
 | (refine if_dec (fun h => ?_) (fun h => ?_); all_goals (conv => whnf))
 | with_reducible apply_assumption -symm -exfalso)
      all_goals first | (refine FinK.pu ?_; rw [hno]; rfl) | (exfalso; omega)
  · have hall : s.data.toList.all alnum = true := List.all_eq_true.2 fun c hc => by
      obtain ⟨j, hj1, hj2⟩ := List.mem_iff_getElem.1 hc
      exact h2 j c (by omega) (by rw [List.getElem?_eq_getElem hj1, hj2])
    conv => whnf
    repeat' (first
 | with_reducible ((first | refine r_seq (fun KS hS => ?_) | (refine hS _ _ ?_; clear hS KS) | (refine hB _ ?_; clear hB KB)))
 | ((with_reducible (first | refine r_region ?_ | refine r_cond (fun KA hA KB hB => ?_) | refine r_ret ?_ | refine r_exit ?_)); conv => whnf)
 | (refine if_decF (by omega) ?_; conv => whnf)
 | (refine if_dec (fun h => ?_) (fun h => ?_); all_goals (conv => whnf))
 | with_reducible apply_assumption -symm -exfalso)
    all_goals (refine FinK.pu ?_; show Value.bool _ = Value.bool _; congr 1; unfold nameOk; rw [hall, Bool.and_true, Bool.eq_iff_iff]; simp; omega)
theorem feff119 {s t p : Int} (w : World) : Pu Tryz.prog 119 #[.agg #[.int .i64 s, .int .i64 t, .int .i64 p]] w (.int .i64 (if (1 ≤ s ∧ s ≤ 9999) ∧ (0 ≤ t ∧ t ≤ 7) ∧ (1 ≤ p ∧ p ≤ 3) then 0 else 2)) := by
  refine enter_sound TBok Tryz.func119 rfl rfl Tryz.ntmps119 [.agg [.v (.int .i64 s), .v (.int .i64 t), .v (.int .i64 p)]] (Kn.start w noS) rfl rfl ?_
  conv => whnf
  repeat' (first
 | with_reducible ((first | refine r_seq (fun KS hS => ?_) | (refine hS _ _ ?_; clear hS KS) | (refine hA _ ?_; clear hA KA) | (refine hB _ ?_; clear hB KB)))
 | ((with_reducible (first | refine r_region ?_ | refine r_cond (fun KA hA KB hB => ?_) | refine r_ret ?_ | refine r_skip ?_ | refine And.intro rfl ?_ | intro b)); conv => whnf)
 | (refine if_dec (fun h => ?_) (fun h => ?_); all_goals (conv => whnf))
 | with_reducible apply_assumption -symm -exfalso)
  all_goals (refine FinK.pu ?_; first | (rw [if_pos (by omega)]; rfl) | (rw [if_neg (by omega)]; rfl))
theorem ffromBad78 {n : Int} (h : n < 1 ∨ 1680728 < n) (w : World) : Pu Tryz.prog 78 #[.int .i64 n] w (.tuple #[.agg #[.int .i64 0, .int .i64 0, .int .i64 0, .int .i64 0, .bool false, .int .i64 0], .int .i64 3]) := by
  refine enter_sound TBok Tryz.func78 rfl rfl Tryz.ntmps78 [.v (.int .i64 n)] (Kn.start w noS) rfl rfl ?_
  conv => whnf
  repeat' (first
 | with_reducible ((first | refine r_seq (fun KS hS => ?_) | (refine hS _ _ ?_; clear hS KS) | (refine hA _ ?_; clear hA KA)))
 | ((with_reducible (first | refine r_region ?_ | refine r_cond (fun KA hA KB hB => ?_) | refine r_ret ?_ | refine And.intro rfl ?_ | intro b)); conv => whnf)
 | (refine if_decT (by omega) ?_; conv => whnf)
 | (refine if_dec (fun h => ?_) (fun h => ?_); all_goals (conv => whnf)))
  all_goals exact FinK.pu rfl
theorem ffromEff78 {n : Int} (h : 1 ≤ n ∧ n ≤ 1679832) (w : World) : Pu Tryz.prog 78 #[.int .i64 n] w (.tuple #[.agg #[.int .i64 ((n - 1) / 7 / 3 / 8 + 1), .int .i64 ((n - 1) / 7 / 3 % 8), .int .i64 ((n - 1) / 7 % 3 + 1), .int .i64 0, .bool false, .int .i64 ((n - 1) % 7 + 1)], .int .i64 0]) := by
  refine enter_sound TBok Tryz.func78 rfl rfl Tryz.ntmps78 [.v (.int .i64 n)] (Kn.start w noS) rfl rfl ?_
  conv => whnf
  repeat' (first
 | with_reducible ((first | refine r_seq (fun KS hS => ?_) | (refine hS _ _ ?_; clear hS KS) | (refine hA _ ?_; clear hA KA) | (refine hB _ ?_; clear hB KB)))
 | ((with_reducible (first | refine r_region ?_ | refine r_cond (fun KA hA KB hB => ?_) | refine r_ret ?_ | refine r_skip ?_ | refine And.intro rfl ?_ | intro b)); conv => whnf)
 | ((with_reducible refine WrapK.i64 ?_ ?_); (focus omega); conv => whnf)
 | ((with_reducible refine RemK.id ?_); refine RemK.eq (by omega) (IntWalk.rem_in _ _ (by omega)) ?_; conv => whnf)
 | ((with_reducible refine QuoK.id ?_); refine QuoK.eq (by omega) (IntWalk.i64_quo _ _ (by omega)) ?_; conv => whnf)
 | ((first | refine if_decT (by omega) ?_ | refine if_decF (by omega) ?_); conv => whnf)
 | with_reducible apply_assumption -symm -exfalso)
  all_goals exact FinK.pu rfl
theorem ffromMove78 {n : Int} (h : 1679832 < n ∧ n ≤ 1680728) (w : World) : Pu Tryz.prog 78 #[.int .i64 n] w (.tuple #[.agg #[.int .i64 0, .int .i64 0, .int .i64 0, .int .i64 (((n - 1) / 7 - 239976) / 2 + 1), .bool (decide (((n - 1) / 7 - 239976) % 2 = 1)), .int .i64 ((n - 1) % 7 + 1)], .int .i64 0]) := by
  refine enter_sound TBok Tryz.func78 rfl rfl Tryz.ntmps78 [.v (.int .i64 n)] (Kn.start w noS) rfl rfl ?_
  have e1 : (n - 1) / 7 - 239976 = (n - 1679833) / 7 := by omega
  have e2 : (n - 1) % 7 = (n - 1679833) % 7 := by omega
  rw [e1, e2]
  conv => whnf
  repeat' (first
 | with_reducible ((first | refine r_seq (fun KS hS => ?_) | (refine hS _ _ ?_; clear hS KS) | (refine hB _ ?_; clear hB KB)))
 | ((with_reducible (first | refine r_region ?_ | refine r_cond (fun KA hA KB hB => ?_) | refine r_ret ?_ | refine r_skip ?_ | refine And.intro rfl ?_ | intro b)); conv => whnf)
 | ((with_reducible refine WrapK.i64 ?_ ?_); (focus omega); conv => whnf)
 | ((with_reducible refine RemK.id ?_); refine RemK.eq (by omega) (IntWalk.rem_in _ _ (by omega)) ?_; conv => whnf)
 | ((with_reducible refine QuoK.id ?_); refine QuoK.eq (by omega) (IntWalk.i64_quo _ _ (by omega)) ?_; conv => whnf)
 | (refine if_decF (by omega) ?_; conv => whnf)
 | with_reducible apply_assumption -symm -exfalso)
  all_goals exact FinK.pu rfl
def rangeOk (f t : ByteArray) : Bool := (decide (f = ⟨#[]⟩) || nameOk f) && (decide (t = ⟨#[]⟩) || nameOk t) && (decide (t = ⟨#[]⟩) || !leS t f)
end Go.Proofs.YtbgnoibellfojaaGreatDoor

namespace Go.Proofs.YtbgnoibellfojaaGreatDoor
open Go Go.X
set_option maxRecDepth 100000
set_option maxHeartbeats 0
theorem rangeT230 {f t : ByteArray} (hf : f.size ≤ 1099511627776) (ht : t.size ≤ 1099511627776) (w : World) : Pu Tryz.prog 230 #[.agg #[.string f, .string t]] w (.int .i64 (if rangeOk f t then 0 else 2)) := by
  refine enter_sound TBok Tryz.func230 rfl rfl Tryz.ntmps230 [.agg [.v (.string f), .v (.string t)]] (Kn.start w noS) rfl rfl ?_
  unfold rangeOk
  by_cases hf0 : f = ⟨#[]⟩
  · skip
    by_cases ht0 : t = ⟨#[]⟩
    · skip
      conv => whnf
      repeat' (first
 | with_reducible ((first | refine r_seq (fun KS hS => ?_) | (refine hS _ _ ?_; clear hS KS) | (refine hA _ ?_; clear hA KA) | (refine hB _ ?_; clear hB KB) | refine r_block ?_))
 | ((with_reducible (first | refine r_region ?_ | refine r_cond (fun KA hA KB hB => ?_) | refine r_ret ?_ | refine r_skip ?_ | refine r_exit ?_ | refine And.intro rfl ?_ | intro b)); conv => whnf)
 | ((with_reducible refine WrapK.i64 ?_ ?_); (focus omega); conv => whnf)
 | (refine if_ndecF (by assumption) ?_; conv => whnf)
 | ((with_reducible apply OpK.more); (focus refine sok); (conv => whnf); fail_if_success guard_target =ₛ False)
 | with_reducible (first | refine Rounds.step (fun KL hL => ?_) | refine r_rounds 100 ?_)
 | with_reducible apply_assumption -symm -exfalso)
      all_goals (refine FinK.pu ?_; simp [den, *])
    · cases htn : nameOk t
      · skip
        conv => whnf
        repeat' (first
 | with_reducible ((first | refine r_seq (fun KS hS => ?_) | (refine hS _ _ ?_; clear hS KS) | (refine hA _ ?_; clear hA KA) | (refine hB _ ?_; clear hB KB) | refine r_block ?_))
 | ((with_reducible (first | refine r_region ?_ | refine r_cond (fun KA hA KB hB => ?_) | refine r_ret ?_ | refine r_skip ?_ | refine And.intro rfl ?_ | intro b)); conv => whnf)
 | ((with_reducible refine WrapK.i64 ?_ ?_); (focus omega); conv => whnf)
 | ((with_reducible refine CallK.at 218 ?_); refine CallK.pu (fun w => name218 ht w) ?_; rw [htn]; conv => whnf)
 | (refine if_ndecT (by assumption) ?_; conv => whnf)
 | (refine if_ndecF (by assumption) ?_; conv => whnf)
 | ((with_reducible apply OpK.more); (focus refine sok); (conv => whnf); fail_if_success guard_target =ₛ False)
 | with_reducible (first | refine Rounds.step (fun KL hL => ?_) | refine r_rounds 100 ?_)
 | with_reducible apply_assumption -symm -exfalso)
        all_goals (refine FinK.pu ?_; simp [den, *])
      · cases hle : leS t f
        · skip
          conv => whnf
          repeat' (first
 | with_reducible ((first | refine r_seq (fun KS hS => ?_) | (refine hS _ _ ?_; clear hS KS) | (refine hA _ ?_; clear hA KA) | (refine hB _ ?_; clear hB KB) | refine r_block ?_))
 | ((with_reducible (first | refine r_region ?_ | refine r_cond (fun KA hA KB hB => ?_) | refine r_ret ?_ | refine r_skip ?_ | refine r_exit ?_ | refine And.intro rfl ?_ | intro b)); conv => whnf)
 | ((with_reducible refine WrapK.i64 ?_ ?_); (focus omega); conv => whnf)
 | ((with_reducible refine CallK.at 218 ?_); refine CallK.pu (fun w => name218 ht w) ?_; rw [htn]; conv => whnf)
 | ((with_reducible refine OpK.id ?_); refine OpK.leS rfl rfl rfl ?_; conv => whnf)
 | (refine if_ndecT (by assumption) ?_; conv => whnf)
 | (refine if_ndecF (by assumption) ?_; conv => whnf)
 | (refine if_f (by first | rfl | assumption | (simp; done) | (simp; omega)) ?_; conv => whnf)
 | ((with_reducible apply OpK.more); (focus refine sok); (conv => whnf); fail_if_success guard_target =ₛ False)
 | with_reducible (first | refine Rounds.step (fun KL hL => ?_) | refine r_rounds 100 ?_)
 | with_reducible apply_assumption -symm -exfalso)
          all_goals (refine FinK.pu ?_; simp [den, *])
        · skip
          conv => whnf
          repeat' (first
 | with_reducible ((first | refine r_seq (fun KS hS => ?_) | (refine hS _ _ ?_; clear hS KS) | (refine hA _ ?_; clear hA KA) | (refine hB _ ?_; clear hB KB) | refine r_block ?_))
 | ((with_reducible (first | refine r_region ?_ | refine r_cond (fun KA hA KB hB => ?_) | refine r_ret ?_ | refine r_skip ?_ | refine r_exit ?_ | refine And.intro rfl ?_ | intro b)); conv => whnf)
 | ((with_reducible refine WrapK.i64 ?_ ?_); (focus omega); conv => whnf)
 | ((with_reducible refine CallK.at 218 ?_); refine CallK.pu (fun w => name218 ht w) ?_; rw [htn]; conv => whnf)
 | ((with_reducible refine OpK.id ?_); refine OpK.leS rfl rfl rfl ?_; conv => whnf)
 | (refine if_ndecT (by assumption) ?_; conv => whnf)
 | (refine if_ndecF (by assumption) ?_; conv => whnf)
 | (refine if_t (by first | rfl | assumption | (simp; done) | (simp; omega)) ?_; conv => whnf)
 | ((with_reducible apply OpK.more); (focus refine sok); (conv => whnf); fail_if_success guard_target =ₛ False)
 | with_reducible (first | refine Rounds.step (fun KL hL => ?_) | refine r_rounds 100 ?_)
 | with_reducible apply_assumption -symm -exfalso)
          all_goals (refine FinK.pu ?_; simp [den, *])
  · cases hfn : nameOk f
    · skip
      conv => whnf
      repeat' (first
 | with_reducible ((first | refine r_seq (fun KS hS => ?_) | (refine hS _ _ ?_; clear hS KS) | (refine hA _ ?_; clear hA KA) | refine r_block ?_))
 | ((with_reducible (first | refine r_region ?_ | refine r_cond (fun KA hA KB hB => ?_) | refine r_ret ?_ | refine r_skip ?_ | refine And.intro rfl ?_ | intro b)); conv => whnf)
 | ((with_reducible refine CallK.at 218 ?_); refine CallK.pu (fun w => name218 hf w) ?_; rw [hfn]; conv => whnf)
 | (refine if_ndecT (by assumption) ?_; conv => whnf)
 | ((with_reducible apply OpK.more); (focus refine sok); (conv => whnf); fail_if_success guard_target =ₛ False)
 | with_reducible (first | refine Rounds.step (fun KL hL => ?_) | refine r_rounds 100 ?_)
 | with_reducible apply_assumption -symm -exfalso)
      all_goals (refine FinK.pu ?_; simp [den, *])
    · skip
      by_cases ht0 : t = ⟨#[]⟩
      · skip
        conv => whnf
        repeat' (first
 | with_reducible ((first | refine r_seq (fun KS hS => ?_) | (refine hS _ _ ?_; clear hS KS) | (refine hA _ ?_; clear hA KA) | (refine hB _ ?_; clear hB KB) | refine r_block ?_))
 | ((with_reducible (first | refine r_region ?_ | refine r_cond (fun KA hA KB hB => ?_) | refine r_ret ?_ | refine r_skip ?_ | refine r_exit ?_ | refine And.intro rfl ?_ | intro b)); conv => whnf)
 | ((with_reducible refine WrapK.i64 ?_ ?_); (focus omega); conv => whnf)
 | ((with_reducible refine CallK.at 218 ?_); refine CallK.pu (fun w => name218 hf w) ?_; rw [hfn]; conv => whnf)
 | (refine if_ndecT (by assumption) ?_; conv => whnf)
 | (refine if_ndecF (by assumption) ?_; conv => whnf)
 | ((with_reducible apply OpK.more); (focus refine sok); (conv => whnf); fail_if_success guard_target =ₛ False)
 | with_reducible (first | refine Rounds.step (fun KL hL => ?_) | refine r_rounds 100 ?_)
 | with_reducible apply_assumption -symm -exfalso)
        all_goals (refine FinK.pu ?_; simp [den, *])
      · cases htn : nameOk t
        · skip
          conv => whnf
          repeat' (first
 | with_reducible ((first | refine r_seq (fun KS hS => ?_) | (refine hS _ _ ?_; clear hS KS) | (refine hA _ ?_; clear hA KA) | (refine hB _ ?_; clear hB KB) | refine r_block ?_))
 | ((with_reducible (first | refine r_region ?_ | refine r_cond (fun KA hA KB hB => ?_) | refine r_ret ?_ | refine r_skip ?_ | refine And.intro rfl ?_ | intro b)); conv => whnf)
 | ((with_reducible refine WrapK.i64 ?_ ?_); (focus omega); conv => whnf)
 | ((with_reducible refine CallK.at 218 ?_); refine CallK.pu (fun w => name218 hf w) ?_; rw [hfn]; conv => whnf)
 | ((with_reducible refine CallK.at 218 ?_); refine CallK.pu (fun w => name218 ht w) ?_; rw [htn]; conv => whnf)
 | (refine if_ndecT (by assumption) ?_; conv => whnf)
 | ((with_reducible apply OpK.more); (focus refine sok); (conv => whnf); fail_if_success guard_target =ₛ False)
 | with_reducible (first | refine Rounds.step (fun KL hL => ?_) | refine r_rounds 100 ?_)
 | with_reducible apply_assumption -symm -exfalso)
          all_goals (refine FinK.pu ?_; simp [den, *])
        · cases hle : leS t f
          · skip
            conv => whnf
            repeat' (first
 | with_reducible ((first | refine r_seq (fun KS hS => ?_) | (refine hS _ _ ?_; clear hS KS) | (refine hA _ ?_; clear hA KA) | (refine hB _ ?_; clear hB KB) | refine r_block ?_))
 | ((with_reducible (first | refine r_region ?_ | refine r_cond (fun KA hA KB hB => ?_) | refine r_ret ?_ | refine r_skip ?_ | refine r_exit ?_ | refine And.intro rfl ?_ | intro b)); conv => whnf)
 | ((with_reducible refine WrapK.i64 ?_ ?_); (focus omega); conv => whnf)
 | ((with_reducible refine CallK.at 218 ?_); refine CallK.pu (fun w => name218 hf w) ?_; rw [hfn]; conv => whnf)
 | ((with_reducible refine CallK.at 218 ?_); refine CallK.pu (fun w => name218 ht w) ?_; rw [htn]; conv => whnf)
 | ((with_reducible refine OpK.id ?_); refine OpK.leS rfl rfl rfl ?_; conv => whnf)
 | (refine if_ndecT (by assumption) ?_; conv => whnf)
 | (refine if_f (by first | rfl | assumption | (simp; done) | (simp; omega)) ?_; conv => whnf)
 | ((with_reducible apply OpK.more); (focus refine sok); (conv => whnf); fail_if_success guard_target =ₛ False)
 | with_reducible (first | refine Rounds.step (fun KL hL => ?_) | refine r_rounds 100 ?_)
 | with_reducible apply_assumption -symm -exfalso)
            all_goals (refine FinK.pu ?_; simp [den, *])
          · skip
            conv => whnf
            repeat' (first
 | with_reducible ((first | refine r_seq (fun KS hS => ?_) | (refine hS _ _ ?_; clear hS KS) | (refine hA _ ?_; clear hA KA) | (refine hB _ ?_; clear hB KB) | refine r_block ?_))
 | ((with_reducible (first | refine r_region ?_ | refine r_cond (fun KA hA KB hB => ?_) | refine r_ret ?_ | refine r_skip ?_ | refine r_exit ?_ | refine And.intro rfl ?_ | intro b)); conv => whnf)
 | ((with_reducible refine WrapK.i64 ?_ ?_); (focus omega); conv => whnf)
 | ((with_reducible refine CallK.at 218 ?_); refine CallK.pu (fun w => name218 hf w) ?_; rw [hfn]; conv => whnf)
 | ((with_reducible refine CallK.at 218 ?_); refine CallK.pu (fun w => name218 ht w) ?_; rw [htn]; conv => whnf)
 | ((with_reducible refine OpK.id ?_); refine OpK.leS rfl rfl rfl ?_; conv => whnf)
 | (refine if_ndecT (by assumption) ?_; conv => whnf)
 | (refine if_t (by first | rfl | assumption | (simp; done) | (simp; omega)) ?_; conv => whnf)
 | ((with_reducible apply OpK.more); (focus refine sok); (conv => whnf); fail_if_success guard_target =ₛ False)
 | with_reducible (first | refine Rounds.step (fun KL hL => ?_) | refine r_rounds 100 ?_)
 | with_reducible apply_assumption -symm -exfalso)
            all_goals (refine FinK.pu ?_; simp [den, *])
end Go.Proofs.YtbgnoibellfojaaGreatDoor

namespace Go.Proofs.YtbgnoibellfojaaGreatDoor
open Go Go.X
set_option maxRecDepth 100000
set_option maxHeartbeats 0
theorem frange285 {f t : ByteArray} (hf : f.size ≤ 1099511627776) (ht : t.size ≤ 1099511627776) (w : World) : Pu Tryz.prog 285 #[.agg #[.string f, .string t]] w (.int .i64 (if rangeOk f t then 0 else 2)) := by
  refine enter_sound TBok Tryz.func285 rfl rfl Tryz.ntmps285 [.agg [.v (.string f), .v (.string t)]] (Kn.start w noS) rfl rfl ?_
  unfold rangeOk
  by_cases hf0 : f = ⟨#[]⟩
  · skip
    by_cases ht0 : t = ⟨#[]⟩
    · skip
      conv => whnf
      repeat' (first
 | with_reducible ((first | refine r_seq (fun KS hS => ?_) | (refine hS _ _ ?_; clear hS KS) | (refine hB _ ?_; clear hB KB)))
 | ((with_reducible (first | refine r_region ?_ | refine r_cond (fun KA hA KB hB => ?_) | refine r_ret ?_ | refine r_skip ?_ | refine And.intro rfl ?_ | intro b)); conv => whnf)
 | (refine if_ndecF (by assumption) ?_; conv => whnf)
 | with_reducible apply_assumption -symm -exfalso)
      all_goals (refine FinK.pu ?_; simp [den, *])
    · cases htn : nameOk t
      · skip
        conv => whnf
        repeat' (first
 | with_reducible ((first | refine r_seq (fun KS hS => ?_) | (refine hS _ _ ?_; clear hS KS) | (refine hA _ ?_; clear hA KA)))
 | ((with_reducible (first | refine r_region ?_ | refine r_cond (fun KA hA KB hB => ?_) | refine r_ret ?_ | refine And.intro rfl ?_ | intro b)); conv => whnf)
 | ((with_reducible refine CallK.at 282 ?_); refine CallK.pu (fun w => fname282 ht w) ?_; rw [htn]; conv => whnf)
 | (refine if_ndecT (by assumption) ?_; conv => whnf)
 | (refine if_ndecF (by assumption) ?_; conv => whnf))
        all_goals (refine FinK.pu ?_; simp [den, *])
      · cases hle : leS t f
        · skip
          conv => whnf
          repeat' (first
 | with_reducible ((first | refine r_seq (fun KS hS => ?_) | (refine hS _ _ ?_; clear hS KS) | (refine hB _ ?_; clear hB KB)))
 | ((with_reducible (first | refine r_region ?_ | refine r_cond (fun KA hA KB hB => ?_) | refine r_ret ?_ | refine r_skip ?_ | refine And.intro rfl ?_ | intro b)); conv => whnf)
 | ((with_reducible refine CallK.at 282 ?_); refine CallK.pu (fun w => fname282 ht w) ?_; rw [htn]; conv => whnf)
 | ((with_reducible refine OpK.id ?_); refine OpK.geS rfl rfl rfl ?_; conv => whnf)
 | (refine if_ndecT (by assumption) ?_; conv => whnf)
 | (refine if_ndecF (by assumption) ?_; conv => whnf)
 | (refine if_f (by first | rfl | assumption | (simp; done) | (simp; omega)) ?_; conv => whnf)
 | with_reducible apply_assumption -symm -exfalso)
          all_goals (refine FinK.pu ?_; simp [den, *])
        · skip
          conv => whnf
          repeat' (first
 | with_reducible ((first | refine r_seq (fun KS hS => ?_) | (refine hS _ _ ?_; clear hS KS) | (refine hA _ ?_; clear hA KA) | (refine hB _ ?_; clear hB KB)))
 | ((with_reducible (first | refine r_region ?_ | refine r_cond (fun KA hA KB hB => ?_) | refine r_ret ?_ | refine r_skip ?_ | refine And.intro rfl ?_ | intro b)); conv => whnf)
 | ((with_reducible refine CallK.at 282 ?_); refine CallK.pu (fun w => fname282 ht w) ?_; rw [htn]; conv => whnf)
 | ((with_reducible refine OpK.id ?_); refine OpK.geS rfl rfl rfl ?_; conv => whnf)
 | (refine if_ndecT (by assumption) ?_; conv => whnf)
 | (refine if_ndecF (by assumption) ?_; conv => whnf)
 | (refine if_t (by first | rfl | assumption | (simp; done) | (simp; omega)) ?_; conv => whnf)
 | with_reducible apply_assumption -symm -exfalso)
          all_goals (refine FinK.pu ?_; simp [den, *])
  · cases hfn : nameOk f
    · skip
      conv => whnf
      repeat' (first
 | with_reducible ((first | refine r_seq (fun KS hS => ?_) | (refine hS _ _ ?_; clear hS KS) | (refine hA _ ?_; clear hA KA)))
 | ((with_reducible (first | refine r_region ?_ | refine r_cond (fun KA hA KB hB => ?_) | refine r_ret ?_ | refine And.intro rfl ?_ | intro b)); conv => whnf)
 | ((with_reducible refine CallK.at 282 ?_); refine CallK.pu (fun w => fname282 hf w) ?_; rw [hfn]; conv => whnf)
 | (refine if_ndecT (by assumption) ?_; conv => whnf))
      all_goals (refine FinK.pu ?_; simp [den, *])
    · skip
      by_cases ht0 : t = ⟨#[]⟩
      · skip
        conv => whnf
        repeat' (first
 | with_reducible ((first | refine r_seq (fun KS hS => ?_) | (refine hS _ _ ?_; clear hS KS) | (refine hB _ ?_; clear hB KB)))
 | ((with_reducible (first | refine r_region ?_ | refine r_cond (fun KA hA KB hB => ?_) | refine r_ret ?_ | refine r_skip ?_ | refine And.intro rfl ?_ | intro b)); conv => whnf)
 | ((with_reducible refine CallK.at 282 ?_); refine CallK.pu (fun w => fname282 hf w) ?_; rw [hfn]; conv => whnf)
 | (refine if_ndecT (by assumption) ?_; conv => whnf)
 | (refine if_ndecF (by assumption) ?_; conv => whnf)
 | with_reducible apply_assumption -symm -exfalso)
        all_goals (refine FinK.pu ?_; simp [den, *])
      · cases htn : nameOk t
        · skip
          conv => whnf
          repeat' (first
 | with_reducible ((first | refine r_seq (fun KS hS => ?_) | (refine hS _ _ ?_; clear hS KS) | (refine hA _ ?_; clear hA KA)))
 | ((with_reducible (first | refine r_region ?_ | refine r_cond (fun KA hA KB hB => ?_) | refine r_ret ?_ | refine And.intro rfl ?_ | intro b)); conv => whnf)
 | ((with_reducible refine CallK.at 282 ?_); refine CallK.pu (fun w => fname282 hf w) ?_; rw [hfn]; conv => whnf)
 | ((with_reducible refine CallK.at 282 ?_); refine CallK.pu (fun w => fname282 ht w) ?_; rw [htn]; conv => whnf)
 | (refine if_ndecT (by assumption) ?_; conv => whnf))
          all_goals (refine FinK.pu ?_; simp [den, *])
        · cases hle : leS t f
          · skip
            conv => whnf
            repeat' (first
 | with_reducible ((first | refine r_seq (fun KS hS => ?_) | (refine hS _ _ ?_; clear hS KS) | (refine hB _ ?_; clear hB KB)))
 | ((with_reducible (first | refine r_region ?_ | refine r_cond (fun KA hA KB hB => ?_) | refine r_ret ?_ | refine r_skip ?_ | refine And.intro rfl ?_ | intro b)); conv => whnf)
 | ((with_reducible refine CallK.at 282 ?_); refine CallK.pu (fun w => fname282 hf w) ?_; rw [hfn]; conv => whnf)
 | ((with_reducible refine CallK.at 282 ?_); refine CallK.pu (fun w => fname282 ht w) ?_; rw [htn]; conv => whnf)
 | ((with_reducible refine OpK.id ?_); refine OpK.geS rfl rfl rfl ?_; conv => whnf)
 | (refine if_ndecT (by assumption) ?_; conv => whnf)
 | (refine if_f (by first | rfl | assumption | (simp; done) | (simp; omega)) ?_; conv => whnf)
 | with_reducible apply_assumption -symm -exfalso)
            all_goals (refine FinK.pu ?_; simp [den, *])
          · skip
            conv => whnf
            repeat' (first
 | with_reducible ((first | refine r_seq (fun KS hS => ?_) | (refine hS _ _ ?_; clear hS KS) | (refine hA _ ?_; clear hA KA) | (refine hB _ ?_; clear hB KB)))
 | ((with_reducible (first | refine r_region ?_ | refine r_cond (fun KA hA KB hB => ?_) | refine r_ret ?_ | refine r_skip ?_ | refine And.intro rfl ?_ | intro b)); conv => whnf)
 | ((with_reducible refine CallK.at 282 ?_); refine CallK.pu (fun w => fname282 hf w) ?_; rw [hfn]; conv => whnf)
 | ((with_reducible refine CallK.at 282 ?_); refine CallK.pu (fun w => fname282 ht w) ?_; rw [htn]; conv => whnf)
 | ((with_reducible refine OpK.id ?_); refine OpK.geS rfl rfl rfl ?_; conv => whnf)
 | (refine if_ndecT (by assumption) ?_; conv => whnf)
 | (refine if_t (by first | rfl | assumption | (simp; done) | (simp; omega)) ?_; conv => whnf)
 | with_reducible apply_assumption -symm -exfalso)
            all_goals (refine FinK.pu ?_; simp [den, *])
end Go.Proofs.YtbgnoibellfojaaGreatDoor

namespace Go.Proofs.YtbgnoibellfojaaGreatDoor
open Go Go.X
set_option maxRecDepth 100000
set_option maxHeartbeats 0
theorem withinBad298 {a lo hi : Int} (h : ¬ (lo ≤ a ∧ a ≤ hi)) (w : World) : Pu Tryz.prog 298 #[.int .i64 a, .int .i64 lo, .int .i64 hi] w (.bool false) := by
  refine enter_sound TBok Tryz.func298 rfl rfl Tryz.ntmps298 [.v (.int .i64 a), .v (.int .i64 lo), .v (.int .i64 hi)] (Kn.start w noS) rfl rfl ?_
  conv => whnf
  repeat' (first
 | with_reducible ((first | refine r_seq (fun KS hS => ?_) | (refine hS _ _ ?_; clear hS KS)))
 | ((with_reducible (first | refine r_region ?_ | refine r_ret ?_)); conv => whnf)
 | (refine if_dec (fun h => ?_) (fun h => ?_); all_goals (conv => whnf)))
  all_goals (refine FinK.pu ?_; first | rfl | (simp [den]; omega) | (exfalso; omega))
theorem dataBad237 {s : ByteArray} (h : ¬ s.size ≤ 65536) (w : World) : Pu Tryz.prog 237 #[.string s] w (.bool false) := by
  refine enter_sound TBok Tryz.func237 rfl rfl Tryz.ntmps237 [.v (.string s)] (Kn.start w noS) rfl rfl ?_
  conv => whnf
  repeat' (first
 | with_reducible ((first | refine r_seq (fun KS hS => ?_) | (refine hS _ _ ?_; clear hS KS)))
 | ((with_reducible (first | refine r_region ?_ | refine r_ret ?_)); conv => whnf))
  refine FinK.pu ?_
  simp [den]; omega
theorem checkEffT102 {s t p d : Int} {k : ByteArray} (hks : k.size ≤ 1099511627776) : ∃ e : Int, (e = 0 ↔ (EffOk s t p ∧ nameOk k = true ∧ d ≠ 0 ∧ NumOk d)) ∧ ∀ w, Pu Tryz.prog 102 #[.agg #[.int .i64 1, .int .i64 0, .int .i64 0, .int .i64 s, .int .i64 t, .int .i64 p, .string k, .int .i64 d, .int .i64 0, .string ⟨#[]⟩, .string ⟨#[]⟩, .int .i64 0, .string ⟨#[]⟩, .int .i64 0, .int .i64 0, .slice none 0 0, .int .i64 0, .int .i64 0, .int .i64 0, .int .i64 0, .bool false, .int .i64 0, .int .i64 0, .string ⟨#[]⟩]] w (.int .i64 e) := by
  by_cases h : EffOk s t p
  rcases Bool.eq_false_or_eq_true (nameOk k) with hk | hk
  by_cases hd : d = 0
  refine ⟨2, by simp [hd], fun w => ?_⟩
  rotate_left
  by_cases hn : NumOk d
  exact ⟨0, by simp [h, hk, hd, hn], fun w => checkEff102 h hk hks hd hn w⟩
  refine ⟨2, by simp [hn], fun w => ?_⟩
  rotate_left
  refine ⟨2, by simp [hk], fun w => ?_⟩
  rotate_left
  refine ⟨2, by simp [h], fun w => ?_⟩
  all_goals (refine enter_sound TBok Tryz.func102 rfl rfl Tryz.ntmps102 [.agg [.v (.int .i64 1), .v (.int .i64 0), .v (.int .i64 0), .v (.int .i64 s), .v (.int .i64 t), .v (.int .i64 p), .v (.string k), .v (.int .i64 d), .v (.int .i64 0), .v (.string ⟨#[]⟩), .v (.string ⟨#[]⟩), .v (.int .i64 0), .v (.string ⟨#[]⟩), .v (.int .i64 0), .v (.int .i64 0), .v (.slice none 0 0), .v (.int .i64 0), .v (.int .i64 0), .v (.int .i64 0), .v (.int .i64 0), .v (.bool false), .v (.int .i64 0), .v (.int .i64 0), .v (.string ⟨#[]⟩)]] (Kn.start w noS) rfl rfl ?_; conv => whnf)
  repeat' (first
 | with_reducible ((first | refine r_seq (fun KS hS => ?_) | (refine hS _ _ ?_; clear hS KS) | (refine hA _ ?_; clear hA KA) | (refine hB _ ?_; clear hB KB) | refine r_block ?_))
 | ((with_reducible (first | refine r_region ?_ | refine r_cond (fun KA hA KB hB => ?_) | refine r_ret ?_ | refine r_skip ?_ | refine r_exit ?_ | refine And.intro rfl ?_ | intro b)); conv => whnf)
 | ((with_reducible refine WrapK.i64 ?_ ?_); (focus omega); conv => whnf)
 | ((with_reducible refine CallK.id ?_); (first | apply in103 | apply in143 | apply in144 | apply in145 | apply in216 | apply in210 | apply in288 | apply in220 | apply in215 | apply in292 | apply in225); rfl; rfl; rfl; intro A; conv => whnf)
 | (refine aq217 ?_; conv => whnf)
 | (refine ak217 ?_; conv => whnf)
 | ((with_reducible refine CallK.at 94 ?_); refine CallK.pu (fun w => effOk94 h w) ?_; conv => whnf)
 | ((with_reducible refine CallK.at 94 ?_); refine CallK.pu (fun w => effBad94 h w) ?_; conv => whnf)
 | ((with_reducible refine CallQ.at 218 ?_); refine CallQ.pu (fun w => name218 hks w) ?_; rw [hk]; conv => whnf)
 | ((with_reducible refine CallK.at 131 ?_); refine CallK.pu (fun w => numBad131 hn w) ?_; conv => whnf)
 | ((with_reducible apply OpK.more); (focus refine sok); (conv => whnf); fail_if_success guard_target =ₛ False)
 | with_reducible (first | refine Rounds.step (fun KL hL => ?_) | refine r_rounds 100 ?_)
 | (apply r_quiet; refine mixed; kernel_rfl; kernel_rfl; kernel_rfl; conv => whnf)
 | ((first | refine if_ndecT (by omega) ?_ | refine if_ndecF (by omega) ?_); conv => whnf)
 | with_reducible apply_assumption -symm -exfalso)
  all_goals exact FinK.pu rfl
theorem checkOutT102 {m : Int} {f t : ByteArray} (hf : f.size ≤ 1099511627776) (ht : t.size ≤ 1099511627776) : ∃ e : Int, (e = 0 ↔ ((1 ≤ m ∧ m ≤ 64) ∧ rangeOk f t = true)) ∧ ∀ w, Pu Tryz.prog 102 #[.agg #[.int .i64 3, .int .i64 0, .int .i64 0, .int .i64 0, .int .i64 0, .int .i64 0, .string ⟨#[]⟩, .int .i64 0, .int .i64 m, .string f, .string t, .int .i64 0, .string ⟨#[]⟩, .int .i64 0, .int .i64 0, .slice none 0 0, .int .i64 0, .int .i64 0, .int .i64 0, .int .i64 0, .bool false, .int .i64 0, .int .i64 0, .string ⟨#[]⟩]] w (.int .i64 e) := by
  by_cases hm : 1 ≤ m ∧ m ≤ 64
  rcases Bool.eq_false_or_eq_true (rangeOk f t) with hr | hr
  refine ⟨0, by simp [hm, hr], fun w => ?_⟩
  rotate_left
  refine ⟨2, by simp [hr], fun w => ?_⟩
  rotate_left
  refine ⟨2, by simp [hm], fun w => ?_⟩
  all_goals (refine enter_sound TBok Tryz.func102 rfl rfl Tryz.ntmps102 [.agg [.v (.int .i64 3), .v (.int .i64 0), .v (.int .i64 0), .v (.int .i64 0), .v (.int .i64 0), .v (.int .i64 0), .v (.string ⟨#[]⟩), .v (.int .i64 0), .v (.int .i64 m), .v (.string f), .v (.string t), .v (.int .i64 0), .v (.string ⟨#[]⟩), .v (.int .i64 0), .v (.int .i64 0), .v (.slice none 0 0), .v (.int .i64 0), .v (.int .i64 0), .v (.int .i64 0), .v (.int .i64 0), .v (.bool false), .v (.int .i64 0), .v (.int .i64 0), .v (.string ⟨#[]⟩)]] (Kn.start w noS) rfl rfl ?_; conv => whnf)
  repeat' (first
 | with_reducible ((first | refine r_seq (fun KS hS => ?_) | (refine hS _ _ ?_; clear hS KS) | (refine hA _ ?_; clear hA KA) | (refine hB _ ?_; clear hB KB) | refine r_block ?_))
 | ((with_reducible (first | refine r_region ?_ | refine r_cond (fun KA hA KB hB => ?_) | refine r_ret ?_ | refine r_skip ?_ | refine r_exit ?_ | refine And.intro rfl ?_ | intro b)); conv => whnf)
 | ((with_reducible refine WrapK.i64 ?_ ?_); (focus omega); conv => whnf)
 | ((with_reducible refine CallK.id ?_); (first | apply in103 | apply in147 | apply in148 | apply in226 | apply in297 | apply in229 | apply in302 | apply in235 | apply in29 | apply in66 | apply in112); rfl; rfl; rfl; intro A; conv => whnf)
 | (refine aq228 ?_; conv => whnf)
 | (refine ak228 ?_; conv => whnf)
 | ((with_reducible refine CallQ.at 298 ?_); refine CallQ.pu (fun w => within298 hm w) ?_; conv => whnf)
 | ((with_reducible refine CallQ.at 298 ?_); refine CallQ.pu (fun w => withinBad298 hm w) ?_; conv => whnf)
 | ((with_reducible refine CallK.at 230 ?_); refine CallK.pu (fun w => rangeT230 hf ht w) ?_; rw [hr]; conv => whnf)
 | ((with_reducible apply OpK.more); (focus refine sok); (conv => whnf); fail_if_success guard_target =ₛ False)
 | with_reducible (first | refine Rounds.step (fun KL hL => ?_) | refine r_rounds 100 ?_)
 | (apply r_quiet; refine mixed; kernel_rfl; kernel_rfl; kernel_rfl; conv => whnf)
 | with_reducible apply_assumption -symm -exfalso)
  all_goals exact FinK.pu rfl
theorem checkInT102 {m : Int} {f t x : ByteArray} (hf : f.size ≤ 1099511627776) (ht : t.size ≤ 1099511627776) : ∃ e : Int, (e = 0 ↔ ((1 ≤ m ∧ m ≤ 64) ∧ rangeOk f t = true ∧ x.size ≤ 65536)) ∧ ∀ w, Pu Tryz.prog 102 #[.agg #[.int .i64 4, .int .i64 0, .int .i64 0, .int .i64 0, .int .i64 0, .int .i64 0, .string ⟨#[]⟩, .int .i64 0, .int .i64 m, .string f, .string t, .int .i64 0, .string ⟨#[]⟩, .int .i64 0, .int .i64 0, .slice none 0 0, .int .i64 0, .int .i64 0, .int .i64 0, .int .i64 0, .bool false, .int .i64 0, .int .i64 0, .string x]] w (.int .i64 e) := by
  by_cases hm : 1 ≤ m ∧ m ≤ 64
  rcases Bool.eq_false_or_eq_true (rangeOk f t) with hr | hr
  by_cases hx : x.size ≤ 65536
  refine ⟨0, by simp [hm, hr, hx], fun w => ?_⟩
  rotate_left
  refine ⟨2, by simp [hx], fun w => ?_⟩
  rotate_left
  refine ⟨2, by simp [hr], fun w => ?_⟩
  rotate_left
  refine ⟨2, by simp [hm], fun w => ?_⟩
  all_goals (refine enter_sound TBok Tryz.func102 rfl rfl Tryz.ntmps102 [.agg [.v (.int .i64 4), .v (.int .i64 0), .v (.int .i64 0), .v (.int .i64 0), .v (.int .i64 0), .v (.int .i64 0), .v (.string ⟨#[]⟩), .v (.int .i64 0), .v (.int .i64 m), .v (.string f), .v (.string t), .v (.int .i64 0), .v (.string ⟨#[]⟩), .v (.int .i64 0), .v (.int .i64 0), .v (.slice none 0 0), .v (.int .i64 0), .v (.int .i64 0), .v (.int .i64 0), .v (.int .i64 0), .v (.bool false), .v (.int .i64 0), .v (.int .i64 0), .v (.string x)]] (Kn.start w noS) rfl rfl ?_; conv => whnf)
  repeat' (first
 | with_reducible ((first | refine r_seq (fun KS hS => ?_) | (refine hS _ _ ?_; clear hS KS) | (refine hA _ ?_; clear hA KA) | (refine hB _ ?_; clear hB KB) | refine r_block ?_))
 | ((with_reducible (first | refine r_region ?_ | refine r_cond (fun KA hA KB hB => ?_) | refine r_ret ?_ | refine r_skip ?_ | refine r_exit ?_ | refine And.intro rfl ?_ | intro b)); conv => whnf)
 | ((with_reducible refine WrapK.i64 ?_ ?_); (focus omega); conv => whnf)
 | ((with_reducible refine CallK.id ?_); (first | apply in103 | apply in147 | apply in148 | apply in149 | apply in216 | apply in226 | apply in288 | apply in297 | apply in229 | apply in292 | apply in302 | apply in235 | apply in29 | apply in66 | apply in112); rfl; rfl; rfl; intro A; conv => whnf)
 | (refine aq228 ?_; conv => whnf)
 | (refine ak228 ?_; conv => whnf)
 | (refine aq236 ?_; conv => whnf)
 | (refine ak236 ?_; conv => whnf)
 | ((with_reducible refine CallQ.at 298 ?_); refine CallQ.pu (fun w => within298 hm w) ?_; conv => whnf)
 | ((with_reducible refine CallQ.at 298 ?_); refine CallQ.pu (fun w => withinBad298 hm w) ?_; conv => whnf)
 | ((with_reducible refine CallK.at 230 ?_); refine CallK.pu (fun w => rangeT230 hf ht w) ?_; rw [hr]; conv => whnf)
 | ((with_reducible refine CallQ.at 237 ?_); refine CallQ.pu (fun w => data237 hx w) ?_; conv => whnf)
 | ((with_reducible refine CallQ.at 237 ?_); refine CallQ.pu (fun w => dataBad237 hx w) ?_; conv => whnf)
 | ((with_reducible apply OpK.more); (focus refine sok); (conv => whnf); fail_if_success guard_target =ₛ False)
 | with_reducible (first | refine Rounds.step (fun KL hL => ?_) | refine r_rounds 100 ?_)
 | (apply r_quiet; refine mixed; kernel_rfl; kernel_rfl; kernel_rfl; conv => whnf)
 | with_reducible apply_assumption -symm -exfalso)
  all_goals exact FinK.pu rfl
end Go.Proofs.YtbgnoibellfojaaGreatDoor

namespace Go.Proofs.YtbgnoibellfojaaGreatDoor
open Go Go.X
set_option maxRecDepth 100000
set_option maxHeartbeats 0
theorem fits61 (c : CmdC) {s t p m g : Int} {i : Bool} (hc : c.kd = 1 ∨ c.kd = 3 ∨ c.kd = 4 → ∀ w, Pu Tryz.prog 102 #[c.V] w (.int .i64 0)) (w : World) : PuE Tryz.prog 61 #[c.V, .agg #[.int .i64 s, .int .i64 t, .int .i64 p, .int .i64 m, .bool i, .int .i64 g]] w (fun y => ∃ bb : Bool, (bb = true ↔ fitP c s t p m i) ∧ y = .bool bb) := by
  obtain ⟨kd, cl, sg, cs, ct, cp, key, cd, mv, fr, tt, gr, dn, dr, dd, sa, sn, sc, ia, ib, ic, id, ie, ig, rs, cx⟩ := c
  dsimp only at hc
  unfold fitP
  dsimp only
  cases i
  all_goals (refine enter_sound TBok Tryz.func61 rfl rfl Tryz.ntmps61 [.agg [.v (.int .i64 kd), .v (.int .i64 cl), .v (.int .i64 sg), .v (.int .i64 cs), .v (.int .i64 ct), .v (.int .i64 cp), .v (.string key), .v (.int .i64 cd), .v (.int .i64 mv), .v (.string fr), .v (.string tt), .v (.int .i64 gr), .v (.string dn), .v (.int .i64 dr), .v (.int .i64 dd), .v (.slice sa sn sc), .v (.int .i64 ia), .v (.int .i64 ib), .v (.int .i64 ic), .v (.int .i64 id), .v (.bool ie), .v (.int .i64 ig), .v (.int .i64 rs), .v (.string cx)], .agg [.v (.int .i64 s), .v (.int .i64 t), .v (.int .i64 p), .v (.int .i64 m), .v (.bool _), .v (.int .i64 g)]] (Kn.start w noS) rfl rfl ?_; conv => whnf)
  repeat' (first
 | with_reducible ((first | refine r_seq (fun KS hS => ?_) | (refine hS _ _ ?_; clear hS KS) | (refine hA _ ?_; clear hA KA) | (refine hB _ ?_; clear hB KB) | refine r_block ?_))
 | ((with_reducible (first | refine r_region ?_ | refine r_cond (fun KA hA KB hB => ?_) | refine r_ret ?_ | refine r_skip ?_ | refine And.intro rfl ?_ | intro b)); conv => whnf)
 | ((with_reducible refine CallK.id ?_); refine CallK.pu (fun w => hc (by omega) w) ?_; conv => whnf)
 | ((with_reducible apply OpK.more); (focus refine sok); (conv => whnf); fail_if_success guard_target =ₛ False)
 | ((first | refine if_dec (fun h => ?_) (fun h => ?_) | refine if_cond (fun h => ?_) (fun h => ?_)); all_goals (conv => whnf))
 | with_reducible apply_assumption -symm -exfalso)
  all_goals (refine FinK.puE ⟨_, ?_, rfl⟩)
  all_goals (have hE : (cs = s ∧ ct = t ∧ cp = p) ↔ (decide (cs = s) && (decide (ct = t) && (decide (cp = p) && true))) = true := by simp)
  all_goals rw [hE]
  all_goals clear hE
  all_goals generalize (decide (cs = s) && (decide (ct = t) && (decide (cp = p) && true))) = E at *
  all_goals cases E
  all_goals try contradiction
  all_goals simp only [decide_true, decide_eq_true_eq, Bool.false_eq_true, if_false, if_true, true_iff, false_iff, and_true, true_and, and_false, false_and, not_false_eq_true, reduceCtorEq]
  all_goals first | omega | (split <;> omega) | (intro hh; split at hh <;> omega)
theorem fits80 (c : CmdC) {s t p m g : Int} {i : Bool} {w : World} {L : List (ByteArray × Int)} (hr : RdS w 144 2 c.sa c.sn c.sc (stC L)) (hc : ∀ w, RdS w 144 2 c.sa c.sn c.sc (stC L) → PuE Tryz.prog 130 #[c.V] w (fun v => ∃ q : Int, (q ≠ 0 → c.Off) ∧ v = .int .i64 q)) : PuE Tryz.prog 80 #[c.V, .agg #[.int .i64 s, .int .i64 t, .int .i64 p, .int .i64 m, .bool i, .int .i64 g]] w (fun y => ∃ bb : Bool, (bb = true ↔ fitR c s t p m i) ∧ y = .bool bb) := by
  obtain ⟨kd, cl, sg, cs, ct, cp, key, cd, mv, fr, tt, gr, dn, dr, dd, sa, sn, sc, ia, ib, ic, id, ie, ig, rs, cx⟩ := c
  have hs := fun n' r H => Sees.old (c := ⟨Tryz.prog, TB, n', w, noS, r, TBok⟩) (H := H) hr.old
  unfold CmdC.Off at hc
  dsimp only at hc hs
  unfold fitR
  dsimp only
  cases i
  all_goals (refine enter_sound TBok Tryz.func80 rfl rfl Tryz.ntmps80 [.agg [.v (.int .i64 kd), .v (.int .i64 cl), .v (.int .i64 sg), .v (.int .i64 cs), .v (.int .i64 ct), .v (.int .i64 cp), .v (.string key), .v (.int .i64 cd), .v (.int .i64 mv), .v (.string fr), .v (.string tt), .v (.int .i64 gr), .v (.string dn), .v (.int .i64 dr), .v (.int .i64 dd), .v (.slice sa sn sc), .v (.int .i64 ia), .v (.int .i64 ib), .v (.int .i64 ic), .v (.int .i64 id), .v (.bool ie), .v (.int .i64 ig), .v (.int .i64 rs), .v (.string cx)], .agg [.v (.int .i64 s), .v (.int .i64 t), .v (.int .i64 p), .v (.int .i64 m), .v (.bool _), .v (.int .i64 g)]] (Kn.start w noS) rfl rfl ?_; conv => whnf)
  repeat' (first
 | with_reducible ((first | refine r_seq (fun KS hS => ?_) | (refine hS _ _ ?_; clear hS KS) | (refine hA _ ?_; clear hA KA) | (refine hB _ ?_; clear hB KB)))
 | ((with_reducible (first | refine r_region ?_ | refine r_cond (fun KA hA KB hB => ?_) | refine r_ret ?_ | refine r_skip ?_ | refine And.intro rfl ?_ | intro b)); conv => whnf)
 | ((with_reducible refine CallK.id ?_); refine CallK.puE (fun ms w hk => hc w (Sees.rd (hs _ _ _) hk)) ?_; rintro _ ⟨q, hq, rfl⟩; conv => whnf)
 | ((with_reducible apply OpK.more); (focus refine sok); (conv => whnf); fail_if_success guard_target =ₛ False)
 | ((first | refine if_dec (fun h => ?_) (fun h => ?_) | refine if_ndec (fun h => ?_) (fun h => ?_)); all_goals (conv => whnf))
 | with_reducible apply_assumption -symm -exfalso)
  all_goals (refine FinK.puE ⟨_, ?_, rfl⟩)
  all_goals (try (have hoff := hq (by omega)))
  all_goals (have hE : (cs = s ∧ ct = t ∧ cp = p) ↔ (decide (cs = s) && (decide (ct = t) && (decide (cp = p) && true))) = true := by simp)
  all_goals rw [hE]
  all_goals clear hE
  all_goals generalize (decide (cs = s) && (decide (ct = t) && (decide (cp = p) && true))) = E at *
  all_goals cases E
  all_goals try contradiction
  all_goals simp only [decide_true, decide_eq_true_eq, Bool.false_eq_true, if_false, if_true, true_iff, false_iff, and_true, true_and, and_false, false_and, not_false_eq_true, reduceCtorEq]
  all_goals first | omega | (split <;> omega) | (intro hh; split at hh <;> omega)
end Go.Proofs.YtbgnoibellfojaaGreatDoor

namespace Go.Proofs.YtbgnoibellfojaaGreatDoor
open Go Go.X
set_option maxRecDepth 100000
set_option maxHeartbeats 0
theorem close305 {x k : ByteArray} {d e : Int} {q : Nat} {w : World} (h : OldC w q 0 [.v (.string k), .v (.int .i64 e)]) : PuE Tryz.prog 305 #[.agg #[.string x, .int .i64 d], pv q] w (fun v => ∃ r, v = .bool r) := by
  have pq := fun n r H => OldC.pc (c := ⟨Tryz.prog, TB, n, w, noS, r, TBok⟩) (H := H) h (fun h => h)
  refine enter_sound TBok Tryz.func305 rfl rfl Tryz.ntmps305 [.agg [.v (.string x), .v (.int .i64 d)], .v (pv q)] (Kn.start w noS) rfl rfl ?_
  unfold pv
  conv => whnf
  repeat' (first
 | with_reducible ((first | refine r_seq (fun KS hS => ?_) | (refine hS _ _ ?_; clear hS KS)))
 | ((with_reducible (first | refine r_region ?_ | refine r_ret ?_ | refine And.intro rfl ?_ | intro b)); conv => whnf)
 | ((with_reducible refine OpK.id ?_); (first | refine OpK.fap rfl rfl (pq _ _ _) ?_ | refine OpK.ldp rfl rfl (by assumption) (List.cons_ne_nil _ _) ?_); conv => whnf))
  all_goals exact FinK.puE ⟨_, rfl⟩
end Go.Proofs.YtbgnoibellfojaaGreatDoor

namespace Go.Proofs.YtbgnoibellfojaaGreatDoor
open Go Go.X
set_option maxRecDepth 100000
set_option maxHeartbeats 0
theorem OldC.of {w : World} {b t : Nat} {cs : List SV} {f : Nat × Nat} (h : w.heap[b]? = some (.cells (denL cs).toArray t f)) : OldC w b 0 cs := ⟨_, _, _, h, fun j v hj => by simpa using hj⟩
theorem RdS.takeSt {w : World} {l : List (ByteArray × Int)} {a : Option Addr} {n cap i : Nat} (h : RdS w 144 2 a n cap (((stC l).drop ((0 : Int).toNat * 2)).take (((i : Int).toNat - (0 : Int).toNat) * 2))) : RdS w 144 2 a n cap (stC (l.take i)) := by
  rw [← stC_take]
  exact h
theorem index327 {l : List (ByteArray × Int)} {a : Option Addr} {n cap : Nat} {k : ByteArray} {e : Int} {q : Nat} {w : World} (hr : RdS w 144 2 a n cap (stC l)) (hq : OldC w q 0 [.v (.string k), .v (.int .i64 e)]) (hl : n ≤ 1000) : PuE Tryz.prog 327 #[.slice a n cap, .func (.func 305) #[] #[pv q]] w (fun v => ∃ i, v = .int .i64 i) := by
  have hlen := hr.len
  rw [stC_length] at hlen
  obtain rfl : n = l.length := by omega
  have hs := fun n' r H => Sees.old (c := ⟨Tryz.prog, TB, n', w, noS, r, TBok⟩) (H := H) hr.old
  have pq := fun n r H => OldC.pc (c := ⟨Tryz.prog, TB, n, w, noS, r, TBok⟩) (H := H) hq (fun h => h)
  refine enter_sound TBok Tryz.func327 rfl rfl Tryz.ntmps327 [.v (.slice a l.length cap), .fn 305 [.v (pv q)]] (Kn.start w noS) rfl rfl ?_
  conv => whnf
  repeat' (first
 | with_reducible ((first | refine r_seq (fun KS hS => ?_) | (refine hS _ _ ?_; clear hS KS) | refine r_block ?_))
 | ((with_reducible refine r_region ?_); conv => whnf))
  refine r_loop (α := Nat) (fun i => [(0, .v (.slice a l.length cap)), (1, .fn 305 [.v (pv q)]), (7, .v (.int .i64 (l.length : Nat))), (8, .v (.int .i64 (i : Nat)))]) (fun _ => []) (fun i => i ≤ l.length) (fun i => l.length - i) 0 (by omega) ?_ (HSub.refl _) ?_
  · repeat' (first | exact Sub.nil | (refine Sub.cons rfl rfl ?_))
  rintro i h1 KL hL
  by_cases hi : i < l.length
  · have hst := stC_at l i hi
    conv => whnf
    repeat' (first
 | with_reducible ((first | refine r_seq (fun KS hS => ?_) | (refine hS _ _ ?_; clear hS KS) | (refine hA _ ?_; clear hA KA) | (refine hB _ ?_; clear hB KB) | refine r_block ?_))
 | ((with_reducible (first | refine r_region ?_ | refine r_cond (fun KA hA KB hB => ?_) | refine r_ret ?_ | refine r_skip ?_)); conv => whnf)
 | ((with_reducible refine WrapK.i64 ?_ ?_); (focus omega); conv => whnf)
 | (refine hL (i + 1) _ _ (by omega) (by omega) ?_ (HSub.refl _); repeat' (first | exact Sub.nil | (refine Sub.cons rfl rfl ?_)))
 | ((with_reducible refine OpK.id ?_); (first | refine OpK.idx (k := 2) rfl rfl rfl rfl rfl rfl rfl (hs _ _ _) (by omega) (by omega) hst (fun b off hp => ?_) | refine OpK.ldp rfl rfl hp (List.cons_ne_nil _ _) ?_); conv => whnf)
 | ((with_reducible refine CallK.id ?_); refine CallK.puE (fun ms w hk => close305 ((pq _ _ _).oldC hk)) ?_; rintro _ ⟨r, rfl⟩; conv => whnf)
 | (refine if_decT (by omega) ?_; conv => whnf)
 | (refine if_cond (fun h => ?_) (fun h => ?_); all_goals (conv => whnf))
 | with_reducible apply_assumption -symm -exfalso)
    all_goals exact FinK.puE ⟨_, rfl⟩
  · conv => whnf
    repeat' (first
 | with_reducible ((first | refine r_seq (fun KS hS => ?_) | (refine hS _ _ ?_; clear hS KS) | (refine hB _ ?_; clear hB KB)))
 | ((with_reducible (first | refine r_region ?_ | refine r_cond (fun KA hA KB hB => ?_) | refine r_ret ?_ | refine r_exit ?_)); conv => whnf)
 | (refine if_decF (by omega) ?_; conv => whnf)
 | with_reducible apply_assumption -symm -exfalso)
    all_goals exact FinK.puE ⟨_, rfl⟩
theorem contains304 {l : List (ByteArray × Int)} {a : Option Addr} {n cap : Nat} {k : ByteArray} {e : Int} {q : Nat} {w : World} (hr : RdS w 144 2 a n cap (stC l)) (hq : OldC w q 0 [.v (.string k), .v (.int .i64 e)]) (hl : n ≤ 1000) : PuE Tryz.prog 304 #[.slice a n cap, .func (.func 305) #[] #[pv q]] w (fun v => ∃ i, v = .bool i) := by
  have hs := fun n' r H => Sees.old (c := ⟨Tryz.prog, TB, n', w, noS, r, TBok⟩) (H := H) hr.old
  have pq := fun n r H => OldC.pc (c := ⟨Tryz.prog, TB, n, w, noS, r, TBok⟩) (H := H) hq (fun h => h)
  refine enter_sound TBok Tryz.func304 rfl rfl Tryz.ntmps304 [.v (.slice a n cap), .fn 305 [.v (pv q)]] (Kn.start w noS) rfl rfl ?_
  conv => whnf
  repeat' (first
 | with_reducible ((first | refine r_seq (fun KS hS => ?_) | (refine hS _ _ ?_; clear hS KS)))
 | ((with_reducible (first | refine r_region ?_ | refine r_ret ?_)); conv => whnf)
 | ((with_reducible refine CallK.id ?_); refine CallK.puE (fun ms w hk => index327 (Sees.rd (hs _ _ _) hk) ((pq _ _ _).oldC hk) hl) ?_; rintro _ ⟨q, rfl⟩; conv => whnf))
  all_goals exact FinK.puE ⟨_, rfl⟩
end Go.Proofs.YtbgnoibellfojaaGreatDoor

namespace Go.Proofs.YtbgnoibellfojaaGreatDoor
open Go Go.X
set_option maxRecDepth 100000
theorem in256 : InSt 256 Tryz.f256 15 := InSt.mk' Tryz.func256 rfl Tryz.ntmps256
theorem in146 : InSt 146 Tryz.f146 2 := InSt.mk' Tryz.func146 rfl Tryz.ntmps146
theorem in150 : InSt 150 Tryz.f150 2 := InSt.mk' Tryz.func150 rfl Tryz.ntmps150
theorem in152 : InSt 152 Tryz.f152 2 := InSt.mk' Tryz.func152 rfl Tryz.ntmps152
theorem in153 : InSt 153 Tryz.f153 2 := InSt.mk' Tryz.func153 rfl Tryz.ntmps153
theorem in154 : InSt 154 Tryz.f154 2 := InSt.mk' Tryz.func154 rfl Tryz.ntmps154
theorem in240 : InSt 240 Tryz.f240 9 := InSt.mk' Tryz.func240 rfl Tryz.ntmps240
theorem in151 : InSt 151 Tryz.f151 2 := InSt.mk' Tryz.func151 rfl Tryz.ntmps151
theorem in252 : InSt 252 Tryz.f252 20 := InSt.mk' Tryz.func252 rfl Tryz.ntmps252
theorem in258 : InSt 258 Tryz.f258 9 := InSt.mk' Tryz.func258 rfl Tryz.ntmps258
theorem in244 : InSt 244 Tryz.f244 21 := InSt.mk' Tryz.func244 rfl Tryz.ntmps244
theorem in255 : InSt 255 Tryz.f255 6 := InSt.mk' Tryz.func255 rfl Tryz.ntmps255
theorem in260 : InSt 260 Tryz.f260 5 := InSt.mk' Tryz.func260 rfl Tryz.ntmps260
theorem in248 : InSt 248 Tryz.f248 6 := InSt.mk' Tryz.func248 rfl Tryz.ntmps248
end Go.Proofs.YtbgnoibellfojaaGreatDoor

namespace Go.Proofs.YtbgnoibellfojaaGreatDoor
open Go Go.X
set_option maxRecDepth 100000
theorem in303 : InSt 303 Tryz.f303 12 := InSt.mk' Tryz.func303 rfl Tryz.ntmps303
end Go.Proofs.YtbgnoibellfojaaGreatDoor

namespace Go.Proofs.YtbgnoibellfojaaGreatDoor
open Go Go.X
set_option maxRecDepth 100000
set_option maxHeartbeats 0
/-- what is read of texts is short -/
def StS (l : List (ByteArray × Int)) : Prop := ∀ x ∈ l, x.1.size ≤ 65536
theorem defn241 {x : ByteArray} {r d : Int} {l : List (ByteArray × Int)} {a : Option Addr} {cap : Nat} {w : World} (hr : RdS w 144 2 a l.length cap (stC l)) (hx : x.size ≤ 1099511627776) (hk : StS l) (hl : l.length ≤ 8) : PuE Tryz.prog 241 #[.agg #[.string x, .int .i64 r, .int .i64 d, .slice a l.length cap]] w (fun v => ∃ q, v = .int .i64 q) := by
  have hs := fun n' r H => Sees.old (c := ⟨Tryz.prog, TB, n', w, noS, r, TBok⟩) (H := H) hr.old
  refine enter_sound TBok Tryz.func241 rfl rfl Tryz.ntmps241 [.agg [.v (.string x), .v (.int .i64 r), .v (.int .i64 d), .v (.slice a l.length cap)]] (Kn.start w noS) rfl rfl ?_
  rcases Bool.eq_false_or_eq_true (nameOk x) with hn | hn
  all_goals (conv => whnf)
  all_goals repeat' (first
 | with_reducible ((first | refine r_seq (fun KS hS => ?_) | (refine hS _ _ ?_; clear hS KS) | (refine hA _ ?_; clear hA KA) | (refine hB _ ?_; clear hB KB) | refine r_block ?_))
 | ((with_reducible (first | refine r_region ?_ | refine r_cond (fun KA hA KB hB => ?_) | refine r_ret ?_ | refine r_skip ?_ | refine And.intro rfl ?_ | intro b)); conv => whnf)
 | ((with_reducible refine WrapK.i64 ?_ ?_); (focus omega); conv => whnf)
 | (apply in303; rfl; rfl; rfl; intro A; conv => whnf)
 | ((with_reducible refine CallK.at 218 ?_); refine CallK.pu (fun w => name218 hx w) ?_; rw [hn]; conv => whnf)
 | (refine if_ndecF (by omega) ?_; conv => whnf)
 | ((first | refine if_dec (fun h => ?_) (fun h => ?_) | refine if_ndec (fun h => ?_) (fun h => ?_)); all_goals (conv => whnf))
 | with_reducible apply_assumption -symm -exfalso)
  all_goals first | exact FinK.puE ⟨_, rfl⟩ | skip
  refine r_loop (α := Nat) (fun i => [(1, .loc b 0 0), (31, .v (.slice a l.length cap)), (32, .v (.int .i64 (l.length : Nat))), (33, .v (.int .i64 (i : Nat)))]) (fun _ => [.blk 0 b [.v (.string x), .v (.int .i64 r), .v (.int .i64 d), .v (.slice a l.length cap)] 46]) (fun i => i ≤ l.length) (fun i => l.length - i) 0 (by omega) ?_ (HSub.refl _) ?_
  · repeat' (first | exact Sub.nil | (refine Sub.cons rfl rfl ?_))
  rintro i h1 KL hL
  by_cases hi : i < l.length
  · have hst := stC_at l i hi
    have hks : l[i].1.size ≤ 1099511627776 := by have := hk _ (List.getElem_mem hi); omega
    rcases Bool.eq_false_or_eq_true (nameOk l[i].1) with hni | hni
    all_goals (by_cases hnu : NumOk l[i].2)
    all_goals (conv => whnf)
    all_goals repeat' (first
 | with_reducible ((first | refine r_seq (fun KS hS => ?_) | (refine hS _ _ ?_; clear hS KS) | (refine hA _ ?_; clear hA KA) | (refine hB _ ?_; clear hB KB) | refine r_block ?_))
 | ((with_reducible (first | refine r_region ?_ | refine r_cond (fun KA hA KB hB => ?_) | refine r_ret ?_ | refine r_skip ?_ | refine And.intro rfl ?_ | intro b)); conv => whnf)
 | ((with_reducible refine WrapK.i64 ?_ ?_); (focus omega); conv => whnf)
 | (refine hL (i + 1) _ _ (by omega) (by omega) (by repeat' (first | exact Sub.nil | (refine Sub.cons rfl rfl ?_))) (by (try dsimp only [List.cons_append, List.nil_append, den, denL]); refine SelI.spec ?_; (repeat (first | refine SelI.blk (by repeat (first | with_reducible apply Rm.head | apply Rm.tail)) ?_ | refine SelI.ext (by repeat (first | with_reducible apply Rm.head | apply Rm.tail)) ?_ | (refine SelI.blk' (by repeat (first | with_reducible apply Rm.head | apply Rm.tail)) ?_ ?_; focus rfl) | (refine SelI.ext' (by repeat (first | with_reducible apply Rm.head | apply Rm.tail)) ?_ ?_; focus rfl))); exact SelI.nil))
 | ((with_reducible refine OpK.id ?_); (first | (refine OpK.idx (k := 2) rfl rfl rfl rfl rfl rfl rfl (hs _ _ _) (by omega) (by omega) hst (fun b off hp => ?_); conv => whnf) | (refine OpK.ldp rfl rfl hp (List.cons_ne_nil _ _) ?_; conv => whnf) | (refine OpK.slR (k := 2) rfl rfl rfl rfl rfl rfl (hs _ _ _) ?_; (conv => whnf); refine ⟨by omega, by omega, by omega, fun a' hsee => ?_⟩; (conv => whnf))))
 | ((with_reducible refine CallK.id ?_); refine CallK.puE (fun ms w hk => contains304 (RdS.takeSt (Sees.rd hsee hk)) (OldC.of (hk.got (by repeat (first | constructor | apply List.Mem.tail)))) (by omega)) ?_; rintro _ ⟨q, rfl⟩; conv => whnf)
 | ((with_reducible refine CallK.at 218 ?_); refine CallK.pu (fun w => name218 hks w) ?_; rw [hni]; conv => whnf)
 | ((with_reducible refine CallK.at 131 ?_); refine CallK.pu (fun w => numOk131 hnu w) ?_; conv => whnf)
 | ((with_reducible refine CallK.at 131 ?_); refine CallK.pu (fun w => numBad131 hnu w) ?_; conv => whnf)
 | (refine if_decT (by omega) ?_; conv => whnf)
 | ((first | refine if_dec (fun h => ?_) (fun h => ?_) | refine if_cond (fun h => ?_) (fun h => ?_)); all_goals (conv => whnf))
 | with_reducible apply_assumption -symm -exfalso)
    all_goals first | exact FinK.puE ⟨_, rfl⟩ | skip
  · conv => whnf
    repeat' (first
 | with_reducible ((first | refine r_seq (fun KS hS => ?_) | (refine hS _ _ ?_; clear hS KS) | (refine hB _ ?_; clear hB KB)))
 | ((with_reducible (first | refine r_region ?_ | refine r_cond (fun KA hA KB hB => ?_) | refine r_ret ?_ | refine r_exit ?_)); conv => whnf)
 | (refine if_decF (by omega) ?_; conv => whnf)
 | with_reducible apply_assumption -symm -exfalso)
    all_goals exact FinK.puE ⟨_, rfl⟩
end Go.Proofs.YtbgnoibellfojaaGreatDoor

namespace Go.Proofs.YtbgnoibellfojaaGreatDoor
open Go Go.X
set_option maxRecDepth 100000
set_option maxHeartbeats 0
theorem fdefn281 {x : ByteArray} {r d : Int} {l : List (ByteArray × Int)} {a : Option Addr} {n cap : Nat} {w : World} (hr : RdS w 144 2 a n cap (stC l)) (hx : x.size ≤ 1099511627776) (hk : StS l) (hl : l.length ≤ 8) : PuE Tryz.prog 281 #[.agg #[.string x, .int .i64 r, .int .i64 d, .slice a n cap]] w (fun v => ∃ q, v = .int .i64 q) := by
  have hlen := hr.len
  rw [stC_length] at hlen
  obtain rfl : n = l.length := by omega
  have hs := fun n' r H => Sees.old (c := ⟨Tryz.prog, TB, n', w, noS, r, TBok⟩) (H := H) hr.old
  refine enter_sound TBok Tryz.func281 rfl rfl Tryz.ntmps281 [.agg [.v (.string x), .v (.int .i64 r), .v (.int .i64 d), .v (.slice a l.length cap)]] (Kn.start w noS) rfl rfl ?_
  rcases Bool.eq_false_or_eq_true (nameOk x) with hn | hn
  all_goals (conv => whnf)
  all_goals repeat' (first
 | with_reducible ((first | refine r_seq (fun KS hS => ?_) | (refine hS _ _ ?_; clear hS KS) | (refine hA _ ?_; clear hA KA) | (refine hB _ ?_; clear hB KB) | refine r_block ?_))
 | ((with_reducible (first | refine r_region ?_ | refine r_cond (fun KA hA KB hB => ?_) | refine r_ret ?_ | refine r_skip ?_ | refine And.intro rfl ?_ | intro b)); conv => whnf)
 | ((with_reducible refine CallK.at 282 ?_); refine CallK.pu (fun w => fname282 hx w) ?_; rw [hn]; conv => whnf)
 | (refine if_decF (by omega) ?_; conv => whnf)
 | (refine if_dec (fun h => ?_) (fun h => ?_); all_goals (conv => whnf))
 | with_reducible apply_assumption -symm -exfalso)
  all_goals first | exact FinK.puE ⟨_, rfl⟩ | skip
  refine r_loop (α := Nat) (fun i => [(1, .loc b 0 0), (3, .v (.int .i64 (i : Nat)))]) (fun _ => [.blk 0 b [.v (.string x), .v (.int .i64 r), .v (.int .i64 d), .v (.slice a l.length cap)] 46]) (fun i => i ≤ l.length) (fun i => l.length - i) 0 (by omega) (by repeat' (first | exact Sub.nil | (refine Sub.cons rfl rfl ?_))) (HSub.refl _) ?_
  rename Nat => bx
  rintro i h1 KL hL
  by_cases hi : i < l.length
  · have hst := stC_at l i hi
    have hks : l[i].1.size ≤ 1099511627776 := by have := hk _ (List.getElem_mem hi); omega
    rcases Bool.eq_false_or_eq_true (nameOk l[i].1) with hni | hni
    all_goals (conv => whnf)
    all_goals repeat' (first
 | with_reducible ((first | refine r_seq (fun KS hS => ?_) | (refine hS _ _ ?_; clear hS KS) | (refine hA _ ?_; clear hA KA) | (refine hB _ ?_; clear hB KB) | refine r_block ?_))
 | ((with_reducible (first | refine r_region ?_ | refine r_cond (fun KA hA KB hB => ?_) | refine r_ret ?_ | refine r_skip ?_ | refine And.intro rfl ?_ | intro b)); conv => whnf)
 | ((with_reducible refine OpK.id ?_); (first | refine OpK.idx (k := 2) rfl rfl rfl rfl rfl rfl rfl (hs _ _ _) (by omega) (by omega) hst (fun b off hp => ?_) | refine OpK.ldp rfl rfl hp (List.cons_ne_nil _ _) ?_); conv => whnf)
 | ((with_reducible refine CallK.at 282 ?_); refine CallK.pu (fun w => fname282 hks w) ?_; rw [hni]; conv => whnf)
 | (refine if_decT (by omega) ?_; conv => whnf)
 | (refine if_dec (fun h => ?_) (fun h => ?_); all_goals (conv => whnf))
 | with_reducible apply_assumption -symm -exfalso)
    all_goals first | exact FinK.puE ⟨_, rfl⟩ | skip
    refine r_loop (α := Nat) (fun k => [(1, .loc bx 0 0), (3, .v (.int .i64 (i : Nat))), (4, .loc b 1 0), (5, .v (.int .i64 (k : Nat)))]) (fun _ => [.blk 1 b [.v (.string l[i].1), .v (.int .i64 l[i].2)] 144, .blk 0 bx [.v (.string x), .v (.int .i64 r), .v (.int .i64 d), .v (.slice a l.length cap)] 46]) (fun k => k ≤ i) (fun k => i - k) 0 (by omega) (by repeat' (first | exact Sub.nil | (refine Sub.cons rfl rfl ?_))) (HSub.refl _) ?_
    rename Nat => b4
    rintro k hk1 KL2 hL2
    by_cases hki : k < i
    · have hst2 := stC_at l k (by omega)
      conv => whnf
      repeat' (first
 | with_reducible ((first | refine r_seq (fun KS hS => ?_) | (refine hS _ _ ?_; clear hS KS) | (refine hA _ ?_; clear hA KA) | (refine hB _ ?_; clear hB KB) | refine r_block ?_))
 | ((with_reducible (first | refine r_region ?_ | refine r_cond (fun KA hA KB hB => ?_) | refine r_ret ?_ | refine r_skip ?_ | refine And.intro rfl ?_)); conv => whnf)
 | ((with_reducible refine WrapK.i64 ?_ ?_); (focus omega); conv => whnf)
 | (refine hL2 (k + 1) _ _ (by omega) (by omega) (by repeat' (first | exact Sub.nil | (refine Sub.cons rfl rfl ?_))) (by (try dsimp only [List.cons_append, List.nil_append, den, denL]); refine SelI.spec ?_; (repeat (first | refine SelI.blk (by repeat (first | with_reducible apply Rm.head | apply Rm.tail)) ?_ | refine SelI.ext (by repeat (first | with_reducible apply Rm.head | apply Rm.tail)) ?_ | (refine SelI.blk' (by repeat (first | with_reducible apply Rm.head | apply Rm.tail)) ?_ ?_; focus rfl) | (refine SelI.ext' (by repeat (first | with_reducible apply Rm.head | apply Rm.tail)) ?_ ?_; focus rfl))); exact SelI.nil))
 | ((with_reducible refine IK.id ?_); refine IK.fap rfl rfl ?_; conv => whnf)
 | ((with_reducible refine OpK.id ?_); (first | refine OpK.idx (k := 2) rfl rfl rfl rfl rfl rfl rfl (hs _ _ _) (by omega) (by omega) hst2 (fun b off hp => ?_) | refine OpK.ldp rfl rfl (by assumption) (List.cons_ne_nil _ _) ?_); conv => whnf)
 | (apply r_any (id := 12); refine mixed; kernel_rfl; kernel_rfl; conv => whnf)
 | ((with_reducible ((first | refine InAt.mk (fun K' hK => ?_) | refine AnyAt.mk (fun K' hK => ?_) | (refine hK _ ?_; clear hK K') | (refine hK _ _ ?_; clear hK K')))); conv => whnf)
 | (refine And.intro ?_ ?_; all_goals (conv => whnf))
 | (refine if_decT (by omega) ?_; conv => whnf)
 | (refine if_dec (fun h => ?_) (fun h => ?_); all_goals (conv => whnf))
 | with_reducible apply_assumption -symm -exfalso)
      all_goals exact FinK.puE ⟨_, rfl⟩
    · conv => whnf
      repeat' (first
 | with_reducible ((first | refine r_seq (fun KS hS => ?_) | (refine hS _ _ ?_; clear hS KS) | (refine hB _ ?_; clear hB KB)))
 | ((with_reducible (first | refine r_region ?_ | refine r_cond (fun KA hA KB hB => ?_) | refine r_exit ?_)); conv => whnf)
 | ((with_reducible refine WrapK.i64 ?_ ?_); (focus omega); conv => whnf)
 | (refine hL (i + 1) _ _ (by omega) (by omega) (by repeat' (first | exact Sub.nil | (refine Sub.cons rfl rfl ?_))) (by (try dsimp only [List.cons_append, List.nil_append, den, denL]); refine SelI.spec ?_; (repeat (first | refine SelI.blk (by repeat (first | with_reducible apply Rm.head | apply Rm.tail)) ?_ | refine SelI.ext (by repeat (first | with_reducible apply Rm.head | apply Rm.tail)) ?_ | (refine SelI.blk' (by repeat (first | with_reducible apply Rm.head | apply Rm.tail)) ?_ ?_; focus rfl) | (refine SelI.ext' (by repeat (first | with_reducible apply Rm.head | apply Rm.tail)) ?_ ?_; focus rfl))); exact SelI.nil))
 | (refine if_decF (by omega) ?_; conv => whnf)
 | with_reducible apply_assumption -symm -exfalso)
  · conv => whnf
    repeat' (first
 | with_reducible ((first | refine r_seq (fun KS hS => ?_) | (refine hS _ _ ?_; clear hS KS) | (refine hB _ ?_; clear hB KB)))
 | ((with_reducible (first | refine r_region ?_ | refine r_cond (fun KA hA KB hB => ?_) | refine r_ret ?_ | refine r_exit ?_ | refine And.intro rfl ?_)); conv => whnf)
 | (refine if_decF (by omega) ?_; conv => whnf)
 | with_reducible apply_assumption -symm -exfalso)
    all_goals exact FinK.puE ⟨_, rfl⟩
end Go.Proofs.YtbgnoibellfojaaGreatDoor

namespace Go.Proofs.YtbgnoibellfojaaGreatDoor
open Go Go.X
set_option maxRecDepth 100000
theorem in121 : InSt 121 Tryz.f121 118 := InSt.mk' Tryz.func121 rfl Tryz.ntmps121
theorem in208 : InSt 208 Tryz.f208 210 := InSt.mk' Tryz.func208 rfl Tryz.ntmps208
end Go.Proofs.YtbgnoibellfojaaGreatDoor
