/- Contracts and lemmas for the claim (part 2); no condition of its own. -/
import Derived.Test.YtjkmpaggfbghiaaGreatDoorYQC1001
import Derived.OrdersIn
import Derived.Deep.Quiet
import Derived.LoopNIn
set_option linter.all false
set_option maxRecDepth 100000
set_option maxHeartbeats 0
set_option linter.unusedVariables false
set_option linter.unusedSimpArgs false
set_option linter.unnecessarySimpa false
namespace Go.X
open Go
section
variable {c : Cx}
inductive Sub : Env → Env → Prop
  | nil {E : Env} : Sub [] E
  | cons {t : Nat} {s s' : SV} {r E : Env} (h : look t E = some s') (e : s' = s) (hr : Sub r E) : Sub ((t, s) :: r) E
theorem Sub.spec {E' E : Env} (h : Sub E' E) : ∀ t s, look t E' = some s → look t E = some s := by
  induction h with
  | nil => intro t s h; cases h
  | @cons t0 s0 s' r E h e hr ih =>
    intro t s hs
    simp only [look] at hs
    cases hb : Nat.beq t0 t with
    | true => rw [hb] at hs; have := beq_true hb; subst this; simp at hs; subst hs; rw [h, e]
    | false => rw [hb] at hs; exact ih t s hs
theorem Has.sub {n ds E E' a} (h : Has n ds E a) (hs : Sub E' E) : Has n ds E' a :=
  ⟨h.size, h.defers, fun t s ht => h.get t s (hs.spec t s ht)⟩
theorem Holds.split {w : World} : ∀ (A B : List Blk) {T : Nat → Prop}, Holds w (A ++ B) T → ∃ TA TB, Holds w A TA ∧ Holds w B TB ∧ (∀ k, TA k → TB k → False) ∧ ∀ k, T k ↔ TA k ∨ TB k := by
  intro A
  induction A with
  | nil => intro B T h; exact ⟨_, T, .nil, h, fun _ h _ => h, fun k => ⟨.inr, fun h => h.elim False.elim id⟩⟩
  | cons x A ih =>
    intro B T h
    cases h with
    | @cons _ _ Sx T' hx hb hH hd =>
      obtain ⟨TA, TB, h1, h2, h3, h4⟩ := ih B hH
      refine ⟨_, TB, .cons hx hb h1 (fun k hk hk' => hd k hk ((h4 k).2 (.inl hk'))), h2, fun k hk hk' => ?_, fun k => ?_⟩
      · rcases hk with hk | hk
        · exact hd k hk ((h4 k).2 (.inr hk'))
        · exact h3 k hk hk'
      · constructor
        · rintro (h | h)
          · exact .inl (.inl h)
          · exact ((h4 k).1 h).imp .inr id
        · rintro ((h | h) | h)
          · exact .inl h
          · exact .inr ((h4 k).2 (.inl h))
          · exact .inr ((h4 k).2 (.inr h))
theorem Holds.glue {w : World} : ∀ (A B : List Blk) {TA TB : Nat → Prop}, Holds w A TA → Holds w B TB → (∀ k, TA k → TB k → False) → ∃ T, Holds w (A ++ B) T ∧ ∀ k, T k ↔ TA k ∨ TB k := by
  intro A
  induction A with
  | nil => intro B TA TB h1 h2 _; cases h1; exact ⟨TB, h2, fun k => ⟨.inr, fun h => h.elim False.elim id⟩⟩
  | cons x A ih =>
    intro B TA TB h1 h2 h3
    cases h1 with
    | @cons _ _ Sx T' hx hb hH hd =>
      obtain ⟨T, h4, h5⟩ := ih B hH h2 (fun k hk hk' => h3 k (.inr hk) hk')
      refine ⟨_, .cons hx hb h4 (fun k hk hk' => ?_), fun k => ?_⟩
      · rcases (h5 k).1 hk' with h | h
        · exact hd k hk h
        · exact h3 k (.inl hk) h
      · rw [h5 k]; exact or_assoc.symm
def HSub (H' H : List Blk) : Prop := ∀ w S, Holds w H S → ∃ S', Holds w H' S' ∧ ∀ k, S' k → S k
theorem Holds.hsub {w : World} {H' H : List Blk} (hs : HSub H' H) {S : Nat → Prop} (h : Holds w H S) : ∃ S', Holds w H' S' ∧ ∀ k, S' k → S k := hs w S h
theorem HSub.nil : HSub [] [] := fun _ _ h => ⟨_, h, fun _ h => h⟩
theorem HSub.refl (H : List Blk) : HSub H H := fun _ _ h => ⟨_, h, fun _ h => h⟩
theorem HSub.trans {A B C : List Blk} (h : HSub A B) (h' : HSub B C) : HSub A C := fun w S hS => by
  obtain ⟨S1, h1, h2⟩ := h' w S hS
  obtain ⟨S2, h3, h4⟩ := h w S1 h1
  exact ⟨S2, h3, fun k hk => h2 k (h4 k hk)⟩
theorem HSub.app2 {A A' B B' : List Blk} (h : HSub A' A) (h' : HSub B' B) : HSub (A' ++ B') (A ++ B) := fun w S hS => by
  obtain ⟨TA, TB, h1, h2, h3, h4⟩ := hS.split A B
  obtain ⟨S1, h5, h6⟩ := h w TA h1
  obtain ⟨S2, h7, h8⟩ := h' w TB h2
  obtain ⟨T, h9, h10⟩ := Holds.glue A' B' h5 h7 (fun k hk hk' => h3 k (h6 k hk) (h8 k hk'))
  exact ⟨T, h9, fun k hk => (h4 k).2 (((h10 k).1 hk).imp (h6 k) (h8 k))⟩
theorem HSub.one {x y : Blk} (e : ∀ w S, y.holds w S → x.holds w S) : HSub [x] [y] := fun w S hS => by
  cases hS with
  | @cons _ _ Sx T hx hb hH hd => exact ⟨_, .cons (e _ _ hx) hb hH hd, fun _ h => h⟩
theorem HSub.keep {i j b : Nat} {cs cs' : List SV} {t : TypeId} {H' H : List Blk} (e : denL cs' = denL cs) (h : HSub H' H) : HSub (.blk i b cs t :: H') (.blk j b cs' t :: H) :=
  HSub.app2 (A := [_]) (A' := [_]) (HSub.one fun w S hx => ⟨hx.1, by rw [← e]; exact hx.2⟩) h
theorem HSub.ext {i j : Nat} {A B : Ass} {H' H : List Blk} (e : ∀ w S, B.holds w S → A.holds w S) (h : HSub H' H) : HSub (.ext i A :: H') (.ext j B :: H) :=
  HSub.app2 (A := [_]) (A' := [_]) (HSub.one fun w S hx => e w S hx) h
theorem HSub.drop {x : Blk} {H' H : List Blk} (h : HSub H' H) : HSub H' (x :: H) :=
  HSub.app2 (A := [x]) (A' := []) (fun w S hS => ⟨_, .nil, fun _ h => h.elim⟩) h
theorem HSub.perm {A B : List Blk} (hp : B.Perm A) : HSub A B := fun w S hS => by
  obtain ⟨T, h1, h2⟩ := Holds.perm hp hS
  exact ⟨T, h1, fun k hk => (h2 k).1 hk⟩
theorem HSub.app {H' H : List Blk} (h : HSub H' H) (ms : List Nat) : HSub (ms.map DB ++ H') (ms.map DB ++ H) := (HSub.refl _).app2 h
theorem Kn0.hsub {W S H H' w} (h : Kn0 W S H w) (hs : HSub H' H) : Kn0 W S H' w := by
  obtain ⟨T, hT, ho⟩ := h.foot
  obtain ⟨T', h1, h2⟩ := hT.hsub hs
  exact ⟨h.os, h.tape, h.output, h.size, h.old, T', h1, fun k hk => ho k (h2 k hk)⟩
theorem Kn.hsub {W S ms H H' w} (h : Kn W S ms H w) (hs : HSub H' H) : Kn W S ms H' w := Kn0.hsub h (hs.app ms)
theorem Run.weaken {x : Code} {E E' : Env} {H H' : List Blk} {k : KC} (h : Run c x E' H' k) (hE : Sub E' E) (hH : HSub H' H) : Run c x E H k :=
  .of fun ms a w ha hk => h.out ms a w (ha.sub hE) (hk.hsub hH)
theorem r_cut {α : Type} (I : α → Env) (HH : α → List Blk) (Φ : α → Prop) {x y : Code} {E : Env} {H : List Blk} {k : KC}
    (hx : ∀ KL : KE, (∀ z E' H', Φ z → Sub (I z) E' → HSub (HH z) H' → KL E' H') → Run c x E H (thenK KL k))
    (hy : ∀ z, Φ z → Run c y (I z) (HH z) k) : Run c (.seq x y) E H k := by
  refine .of fun ms a w ha hk => ?_
  refine wpIn_seq (wpIn_mono ((hx (fun E' H' => ∃ z, Φ z ∧ Sub (I z) E' ∧ HSub (HH z) H') (fun z _ _ p1 p2 p3 => ⟨z, p1, p2, p3⟩)).out ms a w ha hk) (thenK_sem ?_))
  rintro E' H' ⟨z, p1, p2, p3⟩
  exact ((hy z p1).weaken p2 p3).out
theorem least {P : Nat → Prop} : ∀ n, P n → ∃ m, P m ∧ ∀ k, P k → m ≤ k := by
  intro n
  induction n using Nat.strongRecOn with
  | _ n ih =>
    intro hn
    by_cases h : ∃ k, k < n ∧ P k
    · obtain ⟨k, hk, hp⟩ := h
      exact ih k hk hp
    · refine ⟨n, hn, fun k hk => ?_⟩
      rcases Nat.lt_or_ge k n with h1 | h1
      · exact absurd ⟨k, h1, hk⟩ h
      · exact h1
theorem r_loop {α : Type} (I : α → Env) (HH : α → List Blk) (Φ : α → Prop) (μ : α → Nat) {b : Code} {E : Env} {H : List Blk} {k : KC} (x0 : α)
    (h0 : Φ x0) (hE : Sub (I x0) E) (hH : HSub (HH x0) H)
    (hb : ∀ x, Φ x → ∀ KL : KE, (∀ y E' H', Φ y → μ y < μ x → Sub (I y) E' → HSub (HH y) H' → KL E' H') → Run c b (I x) (HH x) (thenK KL k)) : Run c (.loop b) E H k := by
  refine .of fun ms a w ha hk => ?_
  let Inv : Act → World → Nat → Prop := fun a w n => ∃ ms x, Φ x ∧ μ x = n ∧ Has c.n ms (I x) a ∧ Kn c.W c.S ms (HH x) w
  let M : Act → World → Nat := fun a w => Classical.epsilon (fun m => Inv a w m ∧ ∀ k, Inv a w k → m ≤ k)
  have hM : ∀ a w n, Inv a w n → Inv a w (M a w) ∧ M a w ≤ n := by
    intro a w n hn
    have h1 := Classical.epsilon_spec (least (P := Inv a w) n hn)
    exact ⟨h1.1, h1.2 n hn⟩
  refine wpIn_loop (fun a w => ∃ n, Inv a w n) M ⟨μ x0, ms, x0, h0, rfl, ha.sub hE, hk.hsub hH⟩ ?_
  rintro a w ⟨n, hn⟩
  obtain ⟨⟨ms', x, hx, hμ, h1, h2⟩, _⟩ := hM a w n hn
  have := Run.out (hb x hx (fun E' H' => ∃ y, Φ y ∧ μ y < μ x ∧ Sub (I y) E' ∧ HSub (HH y) H') (fun y E' H' p1 p2 p3 p4 => ⟨y, p1, p2, p3, p4⟩)) ms' a w h1 h2
  refine wpIn_mono this ?_
  intro e a' w' hq
  cases e with
  | normal =>
    obtain ⟨ms2, E', H', q1, q2, y, p1, p2, p3, p4⟩ := hq
    have hinv : Inv a' w' (μ y) := ⟨ms2, y, p1, rfl, q1.sub p3, q2.hsub p4⟩
    exact ⟨⟨μ y, hinv⟩, by have := (hM a' w' _ hinv).2; omega⟩
  | ret => exact hq
  | exit j => exact hq
  | goto j => exact hq
  | panic j => exact hq
  | outgrown => exact hq
end
end Go.X

namespace Go.X
open Go
def FPost (S : Nat → Prop) (w : World) (A' : Ass) (w' : World) : Prop :=
  Eff S w w' ∧ ∃ S', A'.holds w' S' ∧ ∀ k, S' k → k < w'.heap.size ∧ (S k ∨ w.heap.size ≤ k)
def Fr (P : Program) (f : FuncId) (args : Array Value) (w : World) (A : Ass) (v : Value) (A' : Ass) : Prop :=
  ∀ S, A.holds w S → (∀ k, S k → k < w.heap.size) → CT P f args w (fun e w' => e = .returned v ∧ FPost S w A' w')
def blkA (b : Nat) (cs : List Value) (t : TypeId) : Ass :=
  ⟨fun w S => S b ∧ w.heap[b]? = some (.cells cs.toArray t (0, 0)), fun _ _ _ h hx => ⟨hx.1, by rw [h b hx.1]; exact hx.2⟩⟩
def Blk.ass : Blk → Ass
  | .blk _ b cs t => blkA b (denL cs) t
  | .ext _ A => A
theorem Blk.ass_holds (x : Blk) (w : World) (S : Nat → Prop) : x.ass.holds w S ↔ x.holds w S := by cases x <;> exact Iff.rfl
theorem lt_of_same {w w' : World} {k : Nat} (h : w'.heap[k]? = w.heap[k]?) (hk : k < w.heap.size) : k < w'.heap.size := by
  rcases Nat.lt_or_ge k w'.heap.size with h1 | h1
  · exact h1
  · rw [Array.getElem?_eq_none h1, Array.getElem?_eq_getElem hk] at h; cases h
theorem Holds.loc {w w' : World} {H : List Blk} {S : Nat → Prop} (h : Holds w H S) (he : ∀ k, S k → w'.heap[k]? = w.heap[k]?) : Holds w' H S := by
  induction h with
  | nil => exact .nil
  | cons hx hb hH hd ih =>
    exact .cons (Blk.loc (fun k hk => he k (.inl hk)) hx) (fun k hk => lt_of_same (he k (.inl hk)) (hb k hk)) (ih fun k hk => he k (.inr hk)) hd
def AssL (H : List Blk) : Ass := ⟨fun w S => Holds w H S, fun _ _ _ h hx => hx.loc h⟩
inductive Upd : List Blk → Blk → Blk → List Blk → Prop
  | head {x y : Blk} {H : List Blk} : Upd (x :: H) x y (y :: H)
  | tail {z x y : Blk} {H H' : List Blk} (h : Upd H x y H') : Upd (z :: H) x y (z :: H')
theorem Upd.spec {H H' : List Blk} {x y : Blk} (h : Upd H x y H') : ∃ A B, H = A ++ x :: B ∧ H' = A ++ y :: B := by
  induction h with
  | head => exact ⟨[], _, rfl, rfl⟩
  | @tail z _ _ _ _ h ih => obtain ⟨A, B, h1, h2⟩ := ih; exact ⟨z :: A, B, by rw [h1]; rfl, by rw [h2]; rfl⟩
theorem Kn.openA {W S ms w} {A B : List Blk} {x : Blk} (h : Kn W S ms (A ++ x :: B) w) :
    ∃ T, x.ass.holds w T ∧ (∀ k, T k → k < w.heap.size) ∧ ∀ y w', FPost T w (Blk.ass y) w' → Kn W S ms (A ++ y :: B) w' := by
  have hp : ∀ y, (ms.map DB ++ (A ++ y :: B)).Perm (y :: (ms.map DB ++ (A ++ B))) := by
    intro y
    rw [← List.append_assoc, ← List.append_assoc]
    exact List.perm_middle
  have h0 := Kn0.perm h (hp x)
  obtain ⟨T0, hT0, hb⟩ := h0.foot
  cases hT0 with
  | @cons _ _ T T' hx hbx hH hd =>
    refine ⟨T, (Blk.ass_holds _ _ _).2 hx, hbx, fun y w' ⟨he, S', h1, h2⟩ => ?_⟩
    refine (Kn0.eff h0 (T := T) (fun k hk => hb k (.inl hk)) he (H' := y :: (ms.map DB ++ (A ++ B)))
      (.cons ((Blk.ass_holds _ _ _).1 h1) (fun k hk => (h2 k hk).1) (hH.mono he.size fun k hk => he.old k (hH.lt k hk) fun h => hd k h hk) fun k hk hk' => ?_) fun k hk => ?_).perm (hp y).symm
    · rcases (h2 k hk).2 with h | h
      · exact hd k h hk'
      · have := hH.lt k hk'; omega
    · rcases hk with hk | hk
      · rcases (h2 k hk).2 with h | h
        · exact .inl h
        · have := h0.size; exact .inr (.inr (by omega))
      · exact .inr (hb k (.inr hk))
theorem Kn.upd {W S ms H H' w} {x y : Blk} (hu : Upd H x y H') (h : Kn W S ms H w) :
    ∃ T, x.ass.holds w T ∧ (∀ k, T k → k < w.heap.size) ∧ ∀ w', FPost T w y.ass w' → Kn W S ms H' w' := by
  obtain ⟨A, B, rfl, rfl⟩ := hu.spec
  obtain ⟨T, h3, h4, h5⟩ := h.openA
  exact ⟨T, h3, h4, h5 y⟩
section
variable {c : Cx}
theorem CallK.fr {g : FuncId} {l : List SV} {H H' : List Blk} {nx : K1} {x y : Blk} {v : Value}
    (hu : Upd H x y H') (h : ∀ ms w, Kn c.W c.S ms H w → Fr c.P g (denL l).toArray w x.ass v y.ass) (hn : nx (.v v) H') : CallK c g l H nx := by
  refine CallK.gen fun ms w hk => ?_
  obtain ⟨T, h1, h2, h3⟩ := hk.upd hu
  refine (h ms w hk T h1 h2).mono ?_
  rintro e w' ⟨rfl, hp⟩
  exact ⟨.v v, H', rfl, h3 w' hp, hn⟩
theorem CallV.fr {fv : Value} {l : List SV} {H H' : List Blk} {nx : K1} {x y : Blk} {v : Value}
    (hu : Upd H x y H') (h : ∀ w S, x.ass.holds w S → (∀ k, S k → k < w.heap.size) → VC c.P fv (denL l).toArray w (fun v' w' => v' = v ∧ FPost S w y.ass w')) (hn : nx (.v v) H') : CallV c fv l H nx := by
  refine ⟨?_⟩
  intro ms w hk
  obtain ⟨T, h1, h2, h3⟩ := hk.upd hu
  obtain ⟨w1, nxt, hr, hq⟩ := h w T h1 h2
  refine ⟨w1, nxt, hr, ?_⟩
  cases nxt with
  | enter f as => exact hq.mono fun e w' ⟨v', he, hv, hp⟩ => ⟨v', he, .v v, H', hv, h3 w' hp, hn⟩
  | round l f tmps as bd => exact hq.mono fun e w' ⟨v', he, hv, hp⟩ => ⟨v', he, .v v, H', hv, h3 w' hp, hn⟩
  | _ => exact hq
theorem Kn.init {W : World} {S T : Nat → Prop} {H : List Blk} (h : Holds W H T) (hT : ∀ k, T k → S k) : Kn W S [] H W :=
  ⟨rfl, rfl, rfl, Nat.le_refl _, fun _ _ _ => rfl, T, h, fun k hk => .inl (hT k hk)⟩
theorem enter_fr {P : Program} {T : TR} (hT : TOk P T) {f : FuncId} {fn : Func} {x : Code} {W : World} {A A' : Ass} {v : Value} {n : Nat} {H : List Blk}
    (hA : ∀ S, A.holds W S → (∀ k, S k → k < W.heap.size) → ∃ T, Holds W H T ∧ ∀ k, T k → S k)
    (hf : P.funcs[f]? = some fn) (hb : fn.body = some x) (hnm : (fn.name == "runtime.NumGoroutine") = false) (hn : fn.ntmps = n)
    (args : List SV) (hlen : Nat.ble (lenL args) n = true) {rs : List ResultVar} (hrs : fn.results.toList = rs)
    (h' : ∀ S, envF 0 args (fun E => Run ⟨P, T, n, W, S, none, hT⟩ x E H (endF ⟨P, T, n, W, S, none, hT⟩ rs (fun e w' => e = .returned v ∧ FPost S W A' w')))) :
    Fr P f (denL args).toArray W A v A' := by
  intro S hS hlt
  obtain ⟨T, h1, h2⟩ := hA S hS hlt
  exact enter_sound hT hf hb hnm hn args (Kn.init h1 h2) hlen hrs (h' S)
theorem all_foot {W : World} {H : List Blk} : ∀ S, (AssL H).holds W S → (∀ k, S k → k < W.heap.size) → ∃ T, Holds W H T ∧ ∀ k, T k → S k :=
  fun S h _ => ⟨S, h, fun _ h => h⟩
theorem FinK.frL {P : Program} {T : TR} {n : Nat} {W : World} {S : Nat → Prop} {r : Option Nat} {hT : TOk P T} {v : Value} {s : SV} {H H' : List Blk} (hs : den s = v) (hH : HSub H' H) :
    FinK ⟨P, T, n, W, S, r, hT⟩ (fun e w' => e = .returned v ∧ FPost S W (AssL H') w') s H := by
  refine FinK.mk fun w hk => ⟨by rw [hs], ⟨Kn0.os hk, Kn0.tape hk, Kn0.output hk, Kn0.size hk, Kn0.old hk⟩, ?_⟩
  obtain ⟨T, h1, h2⟩ := Kn0.foot (hk.hsub hH)
  exact ⟨T, h1, fun k hk => ⟨h1.lt k hk, h2 k hk⟩⟩
theorem FinK.fr {P : Program} {T : TR} {n : Nat} {W : World} {S : Nat → Prop} {r : Option Nat} {hT : TOk P T} {v : Value} {s : SV} {H : List Blk} {y : Blk} {A' : Ass} (hs : den s = v) (hH : HSub [y] H)
    (hy : ∀ w S, y.ass.holds w S → A'.holds w S) :
    FinK ⟨P, T, n, W, S, r, hT⟩ (fun e w' => e = .returned v ∧ FPost S W A' w') s H := by
  refine FinK.mk fun w hk => ⟨by rw [hs], ⟨Kn0.os hk, Kn0.tape hk, Kn0.output hk, Kn0.size hk, Kn0.old hk⟩, ?_⟩
  obtain ⟨T, h1, h2⟩ := Kn0.foot (hk.hsub hH)
  have h1 : Holds w [y] T := h1
  cases h1 with
  | @cons _ _ Sy T' hx hb hH hd =>
    exact ⟨Sy, hy _ _ ((Blk.ass_holds _ _ _).2 hx), fun k hk => ⟨hb k hk, h2 k (.inl hk)⟩⟩
end
end Go.X

namespace Go.X
open Go
def lrA (l : Nat) (rc : Loop) : Ass :=
  ⟨fun w S => S l ∧ w.heap[l]? = some (.loop rc), fun _ _ _ h hx => ⟨hx.1, by rw [h l hx.1]; exact hx.2⟩⟩
def putsE : List Tmp → List SV → Env → Env
  | p :: ps, s :: l, E => putsE ps l ((p, s) :: E)
  | _, _, E => E
section
variable {P : Program} {T : TR} {n : Nat} {hT : TOk P T}
theorem Kn.single {W : World} {S : Nat → Prop} {H : List Blk} {w : World} (h : Kn W S [] H w) : FPost S W (AssL H) w := by
  refine ⟨⟨Kn0.os h, Kn0.tape h, Kn0.output h, Kn0.size h, Kn0.old h⟩, ?_⟩
  obtain ⟨T, h1, h2⟩ := Kn0.foot h
  exact ⟨T, h1, fun k hk => ⟨Holds.lt h1 k hk, h2 k hk⟩⟩
theorem FPost.trans {S S' : Nat → Prop} {w w1 w2 : World} {A : Ass} (h : Eff S w w1) (hS : ∀ k, S' k → S k ∨ w.heap.size ≤ k) (h' : FPost S' w1 A w2) : FPost S w A w2 := by
  obtain ⟨he, S'', h1, h2⟩ := h'
  refine ⟨⟨he.os.trans h.os, he.tape.trans h.tape, he.output.trans h.output, Nat.le_trans h.size he.size, fun k hk hn => ?_⟩, S'', h1, fun k hk => ⟨(h2 k hk).1, ?_⟩⟩
  · rw [he.old k (Nat.lt_of_lt_of_le hk h.size) fun hk' => by
      rcases hS k hk' with h3 | h3
      · exact hn h3
      · omega]
    exact h.old k hk hn
  · rcases (h2 k hk).2 with h3 | h3
    · exact hS k h3
    · exact .inr (Nat.le_trans h.size h3)
theorem setObj_run {P : Program} {w : World} {l : Nat} {o o' : Obj} (h : w.heap[l]? = some o) (ho : ∀ c t f, o ≠ .cells c t f) :
    (setObj l o').run P w = .ok () { w with heap := w.heap.setIfInBounds l o' } := by
  cases o with
  | cells c t f => exact absurd rfl (ho c t f)
  | _ => simp only [setObj, Sem.run, h]
theorem getLoop_run {P : Program} {w : World} {l : Nat} {rc : Loop} (h : w.heap[l]? = some (.loop rc)) : (Instr.getLoop l).run P w = .ok rc w := by
  simp only [Instr.getLoop, getObj, Sem.run_bind, Sem.run, h, Result.andThen_ok]
  rfl
theorem Kn.putLoop {W S ms A B w} {i l : Nat} {rc rc' : Loop} (h : Kn W S ms (A ++ .ext i (lrA l rc) :: B) w) :
    w.heap[l]? = some (.loop rc) ∧ Kn W S ms (A ++ .ext i (lrA l rc') :: B) { w with heap := w.heap.setIfInBounds l (.loop rc') } := by
  obtain ⟨T, h1, h2, h3⟩ := h.openA
  have h1 : T l ∧ w.heap[l]? = some (.loop rc) := h1
  refine ⟨h1.2, h3 (.ext i (lrA l rc')) _ ⟨⟨rfl, rfl, rfl, by simp, fun k hk hn => ?_⟩, T, ⟨h1.1, ?_⟩, fun k hk => ⟨by simpa using h2 k hk, .inl hk⟩⟩⟩
  · simp only [Array.getElem?_setIfInBounds]
    rw [if_neg]
    rintro rfl
    exact hn h1.1
  · simp [h2 l h1.1]
theorem zip_fold_has {n : Nat} {ms : List Nat} : ∀ (ps : List Tmp) (l : List SV) (E : Env) (tmps : Array Value), ps.length = l.length → (∀ p ∈ ps, p < n) → Has n ms E ⟨tmps, ms.map mk⟩ →
    Has n ms (putsE ps l E) ⟨(ps.zip (denL l)).foldl (fun t p => t.setIfInBounds p.1 p.2) tmps, ms.map mk⟩
  | [], [], E, tmps, _, _, h => h
  | p :: ps, s :: l, E, tmps, hl, hp, h => by
    simp only [putsE, denL, List.zip_cons_cons, List.foldl_cons]
    exact zip_fold_has ps l _ _ (by simpa using hl) (fun q hq => hp q (by simp [hq])) (by
      have := h.put (hp p (by simp)) s
      exact this)
  | [], _ :: _, _, _, h, _, _ => by simp at h
  | _ :: _, [], _, _, h, _, _ => by simp at h
theorem HSub.dropAll : ∀ (ms : List Nat) (H : List Blk), HSub H (ms.map DB ++ H)
  | [], H => HSub.refl H
  | _ :: ms, H => .drop (HSub.dropAll ms H)
end
end Go.X

namespace Go.X
open Go
structure IK (c : Cx) (o : Oper) (E : Env) (k : SV → Prop) : Prop where mk' ::
  get : ∃ s, (∀ ms a, Has c.n ms E a → ∀ w, (execOp a.eval o).run c.P w = .ok (.value (den s)) w) ∧ k s
structure QK (c : Cx) (o : Oper) (E : Env) (H : List Blk) (k : SV → Prop) : Prop where mk' ::
  get : ∃ s, (∀ ms a w, Has c.n ms E a → Kn c.W c.S ms H w → (execOp a.eval o).run c.P w = .ok (.value (den s)) w) ∧ k s
structure CallQ (c : Cx) (f : FuncId) (args : List SV) (H : List Blk) (k : SV → Prop) : Prop where mk' ::
  get : ∃ s, (∀ ms w, Kn c.W c.S ms H w → CT c.P f (denL args).toArray w (fun e w' => e = .returned (den s) ∧ Kn c.W c.S ms H w')) ∧ k s
def intQ (op : BinOp) (q : IntKind) (a b : Int) (no : Prop) (k : SV → Prop) : Prop :=
  match op with
  | .eql => k (.v (.bool (decide (a = b))))
  | .neq => k (.v (.bool (!decide (a = b))))
  | .lss => k (.v (.bool (decide (a < b))))
  | .leq => k (.v (.bool (decide (a ≤ b))))
  | .gtr => k (.v (.bool (decide (b < a))))
  | .geq => k (.v (.bool (decide (b ≤ a))))
  | .add => WrapK q (a + b) (fun r => k (.v (.int q r)))
  | .sub => WrapK q (a - b) (fun r => k (.v (.int q r)))
  | .mul => WrapK q (a * b) (fun r => k (.v (.int q r)))
  | .quo => QuoK q a b (fun r => k (.v (.int q r)))
  | .rem => RemK a b (fun r => k (.v (.int q r)))
  | _ => no
def inertF (c : Cx) (o : Oper) (E : Env) (k : SV → Prop) : Prop :=
  match o.op with
  | .move x => match opd E x with | some s => k s | none => False
  | .assign x => match opd E x with | some s => k s | none => False
  | .pick p a b => match opd E p with
    | some (.v (.bool p)) => cond p (match opd E a with | some s => k s | none => False) (match opd E b with | some s => k s | none => False)
    | _ => False
  | .fieldAddr t x f => match opd E x with
    | some (.loc b i off) => fieldF c t f (fun m => k (.loc b i (off + m)))
    | _ => IK c o E k
  | .nilCheck x => match opd E x with
    | some (.loc b i off) => k (.loc b i off)
    | some (.fn g caps) => k (.fn g caps)
    | some (.v (.pointer (some a))) => k (.v (.pointer (some a)))
    | _ => IK c o E k
  | .binOp op _ x y _ => match opd E x, opd E y with
    | some (.v (.int q a)), some (.v (.int q' b)) => cond (ikEq q q') (intQ op q a b (IK c o E k) k) False
    | some (.v (.string a)), some (.v (.string b)) => match op with
      | .eql => k (.v (.bool (decide (a = b))))
      | .neq => k (.v (.bool (!decide (a = b))))
      | _ => IK c o E k
    | _, _ => IK c o E k
  | .unOp op _ x => match op, opd E x with
    | .not, some (.v (.bool p)) => k (.v (.bool (!p)))
    | _, _ => IK c o E k
  | .extract x j => match opd E x with
    | some (.tup l) => nthF j l k
    | some (.v (.tuple vs)) => valsF vs.toList (fun l => nthF j l k)
    | _ => IK c o E k
  | _ => IK c o E k
def q1 (c : Cx) (o : Oper) (E : Env) (H : List Blk) (k : SV → Prop) : Prop :=
  match o.op with
  | .load t x => match opd E x with
    | some (.loc b i off) => findF i H (fun b' cs => b' = b ∧ loadF c t cs off k)
    | some _ => QK c o E H k
    | none => False
  | .call cl => match cl.callee with
    | .value f => match opd E f with
      | some (.fn g caps) => opdsF E cl.args.toList (fun l => appF l caps (fun l => CallQ c g l H k))
      | _ => False
    | .builtin .len => match cl.args.toList, cl.argTypes.toList with
      | [x], [t] => match opd E x, c.T.get t with
        | some s, some i => match i.desc, s with
          | .string, .v (.string s) => k (.v (.int .i64 s.size))
          | .slice _, .v (.slice _ m _) => k (.v (.int .i64 m))
          | .slice _, .slc _ _ _ m _ => k (.v (.int .i64 m))
          | _, _ => QK c o E H k
        | _, _ => False
      | _, _ => False
    | _ => QK c o E H k
  | .move _ => inertF c o E k
  | .assign _ => inertF c o E k
  | .pick _ _ _ => inertF c o E k
  | .fieldAddr _ _ _ => inertF c o E k
  | .nilCheck _ => inertF c o E k
  | .binOp _ _ _ _ _ => inertF c o E k
  | .unOp _ _ _ => inertF c o E k
  | .extract _ _ => inertF c o E k
  | _ => QK c o E H k
section
variable {c : Cx}
theorem r_fieldAt2 (hT : TOk c.P c.T) {t f : Nat} {k : Nat → Prop} (h : fieldF c t f k) (b off : Nat) :
    ∃ m, (∀ w, (Instr.fieldAt t (.pointer (some ⟨b, off, none⟩)) f).run c.P w = .ok (.pointer (some ⟨b, off + m, none⟩)) w) ∧ k m := by
  obtain ⟨i, fs, fd, j, h1, h2, h3, h4, h5, h6⟩ := fieldF_spec h
  refine ⟨fd.offset, fun w => ?_, h6⟩
  have hu := r_underlying (hT t i h1) w
  have hs := r_sizeOf (hT _ j h4) w
  unfold Instr.fieldAt
  rw [Sem.run_bind, hu]
  simp only [Result.andThen_ok, h2, h3]
  simp [Instr.sureAddr, fieldPlace, hs, h5, add_none]
theorem IK.out {o : Oper} {E : Env} {k : SV → Prop} (h : IK c o E k) : ∃ s, (∀ ms a, Has c.n ms E a → ∀ w, (execOp a.eval o).run c.P w = .ok (.value (den s)) w) ∧ k s := h.get
theorem inertF_spec (hT : TOk c.P c.T) {o : Oper} {E : Env} {k : SV → Prop} (h : inertF c o E k) :
    ∃ s, (∀ ms a, Has c.n ms E a → ∀ w, (execOp a.eval o).run c.P w = .ok (.value (den s)) w) ∧ k s := by
  unfold inertF at h
  split at h
  case h_1 x ho =>
    split at h
    · rename_i s hs
      exact ⟨s, fun ms a ha w => by simp [execOp, ho, ha.opd hs], h⟩
    · exact h.elim
  case h_2 x ho =>
    split at h
    · rename_i s hs
      exact ⟨s, fun ms a ha w => by simp [execOp, ho, ha.opd hs], h⟩
    · exact h.elim
  case h_3 p x y ho =>
    split at h
    · rename_i b hp
      cases b with
      | true =>
        simp only [cond_true] at h
        split at h
        · rename_i s hs
          refine ⟨s, fun ms a ha w => ?_, h⟩
          have e := ha.opd hp; simp only [den] at e
          simp [execOp, ho, e, ha.opd hs, asBool]
        · exact h.elim
      | false =>
        simp only [cond_false] at h
        split at h
        · rename_i s hs
          refine ⟨s, fun ms a ha w => ?_, h⟩
          have e := ha.opd hp; simp only [den] at e
          simp [execOp, ho, e, ha.opd hs, asBool]
        · exact h.elim
    · exact h.elim
  case h_4 t x f ho =>
    split at h
    · rename_i b i off hs
      obtain ⟨m, h1, h2⟩ := r_fieldAt2 hT h b off
      refine ⟨_, fun ms a ha w => ?_, h2⟩
      have e := ha.opd hs; simp only [den] at e
      simp [execOp, ho, e, h1, den]
    · exact h.get
  case h_5 x ho =>
    split at h
    · rename_i b i off hs
      refine ⟨_, fun ms a ha w => ?_, h⟩
      have e := ha.opd hs; simp only [den] at e
      simp [execOp, ho, e, den]
    · rename_i g caps hs
      refine ⟨_, fun ms a ha w => ?_, h⟩
      have e := ha.opd hs; simp only [den] at e
      simp [execOp, ho, e, den]
    · rename_i p hs
      refine ⟨_, fun ms a ha w => ?_, h⟩
      have e := ha.opd hs; simp only [den] at e
      simp [execOp, ho, e, den]
    · exact h.get
  case h_6 op ty x y ty' ho =>
    split at h
    · rename_i q m q' n hs ht
      obtain ⟨rfl, g⟩ := ikc h
      have key : ∀ v : Value, (∀ w, (Go.binOp op ty (.int q m) (.int q n)).run c.P w = .ok v w) → k (.v v) → ∃ s, (∀ ms a, Has c.n ms E a → ∀ w, (execOp a.eval o).run c.P w = .ok (.value (den s)) w) ∧ k s := by
        intro v hv hn
        refine ⟨.v v, fun ms a ha w => ?_, hn⟩
        have e1 := ha.opd hs
        have e2 := ha.opd ht
        simp only [den] at e1 e2
        simp only [execOp, ho, e1, e2]
        cases op <;> simp [eqGuard, hv, den]
      cases op <;> simp only [intQ] at g
      case add => exact key _ (fun w => by simp [Go.binOp, Op.intArith]) g.out
      case sub => exact key _ (fun w => by simp [Go.binOp, Op.intArith]) g.out
      case mul => exact key _ (fun w => by simp [Go.binOp, Op.intArith]) g.out
      case quo => exact key _ (fun w => by simp [Go.binOp, Op.intDiv, g.out.1]) g.out.2
      case rem => exact key _ (fun w => by simp [Go.binOp, Op.intDiv, g.out.1]) g.out.2
      case eql => exact key _ (fun w => by simp [Go.binOp, Op.intCmp, int_beq]) g
      case neq => exact key _ (fun w => by simp [Go.binOp, Op.intCmp, int_bne]) g
      case lss => exact key _ (fun w => by simp [Go.binOp, Op.intCmp]) g
      case leq => exact key _ (fun w => by simp [Go.binOp, Op.intCmp]) g
      case gtr => exact key _ (fun w => by simp [Go.binOp, Op.intCmp]) g
      case geq => exact key _ (fun w => by simp [Go.binOp, Op.intCmp]) g
      all_goals exact g.get
    · rename_i m n hs ht
      have key : ∀ v : Value, (∀ w, (Go.binOp op ty (.string m) (.string n)).run c.P w = .ok v w) → k (.v v) → ∃ s, (∀ ms a, Has c.n ms E a → ∀ w, (execOp a.eval o).run c.P w = .ok (.value (den s)) w) ∧ k s := by
        intro v hv hn
        refine ⟨.v v, fun ms a ha w => ?_, hn⟩
        have e1 := ha.opd hs
        have e2 := ha.opd ht
        simp only [den] at e1 e2
        simp only [execOp, ho, e1, e2]
        cases op <;> simp [eqGuard, hv, den]
      split at h
      · exact key _ (fun w => by simp [Go.binOp, Op.stringOp, str_beq]) h
      · exact key _ (fun w => by simp [Go.binOp, Op.stringOp, str_beq]) h
      · exact h.get
    · exact h.get
  case h_7 op ty x ho =>
    split at h
    · rename_i p hs
      refine ⟨_, fun ms a ha w => ?_, h⟩
      have e := ha.opd hs; simp only [den] at e
      simp [execOp, ho, e, den, Op.unary]
    · exact h.get
  case h_8 x j ho =>
    split at h
    · rename_i l hs
      obtain ⟨s, h1, h2⟩ := nthF_spec h
      refine ⟨s, fun ms a ha w => ?_, h2⟩
      have e := ha.opd hs; simp only [den] at e
      simp [execOp, ho, e, Instr.extract, denL_getElem?, h1]
    · rename_i vs hs
      obtain ⟨s, h1, h2⟩ := nthF_spec (valsF_spec h)
      refine ⟨s, fun ms a ha w => ?_, h2⟩
      have e := ha.opd hs; simp only [den] at e
      rw [List.getElem?_map, Option.map_eq_some_iff] at h1
      obtain ⟨v, h1, rfl⟩ := h1
      have h1 : vs[j]? = some v := by simpa using h1
      simp [execOp, ho, e, Instr.extract, h1, den]
    · exact h.get
  · exact h.get
theorem opdsF_spec2 {E : Env} : ∀ {l : List Operand} {k : List SV → Prop}, opdsF E l k → ∃ r, (∀ {n ms a}, Has n ms E a → l.map a.eval = denL r) ∧ k r
  | [], _, h => ⟨[], fun _ => rfl, h⟩
  | x :: l, k, h => by
    simp only [opdsF] at h
    split at h
    · rename_i s hs
      obtain ⟨r, h1, h2⟩ := opdsF_spec2 (l := l) h
      exact ⟨s :: r, fun ha => by simp [h1 ha, denL, ha.opd hs], h2⟩
    · exact h.elim
theorem q1_spec (hT : TOk c.P c.T) {o : Oper} {E : Env} {H : List Blk} {k : SV → Prop} (h : q1 c o E H k) :
    ∃ s, (∀ ms a, Has c.n ms E a → ∀ w, Kn c.W c.S ms H w → Oper.quietUpon c.P (fun w => Kn c.W c.S ms H w) w (den s) ((execOp a.eval o).run c.P w)) ∧ k s := by
  have of_inert : inertF c o E k → ∃ s, (∀ ms a, Has c.n ms E a → ∀ w, Kn c.W c.S ms H w → Oper.quietUpon c.P (fun w => Kn c.W c.S ms H w) w (den s) ((execOp a.eval o).run c.P w)) ∧ k s := by
    intro h
    obtain ⟨s, h1, h2⟩ := inertF_spec hT h
    exact ⟨s, fun ms a ha w _ => by rw [h1 ms a ha w]; exact ⟨rfl, rfl⟩, h2⟩
  have of_Q : QK c o E H k → ∃ s, (∀ ms a, Has c.n ms E a → ∀ w, Kn c.W c.S ms H w → Oper.quietUpon c.P (fun w => Kn c.W c.S ms H w) w (den s) ((execOp a.eval o).run c.P w)) ∧ k s := by
    rintro ⟨s, h1, h2⟩
    exact ⟨s, fun ms a ha w hk => by rw [h1 ms a w ha hk]; exact ⟨rfl, rfl⟩, h2⟩
  unfold q1 at h
  split at h
  case h_1 t x ho =>
    split at h
    · rename_i b i off hs
      obtain ⟨A, j, b', cs, t', B, rfl, h1, h2, h3, h4⟩ := findF_spec' h
      have hex : ∃ s, (∀ w t' f, w.heap[b]? = some (.cells (denL cs).toArray t' f) → (loadVar t ⟨b, off, none⟩).run c.P w = .ok (den s) w) ∧ k s := by
        unfold loadF at h4
        split at h4
        · rename_i i hi
          have hti := hT t i hi
          cases ha : TypeDesc.isAgg i.desc with
          | true =>
            rw [ha] at h4
            obtain ⟨h5, h6⟩ := dropF_spec h4
            obtain ⟨h7, h8⟩ := takeF_spec h6
            refine ⟨_, fun w t' f hb => ?_, h8⟩
            simp only [List.length_drop] at h7
            rw [(r_loadVar hti hb).1 ha (by simp [denL_length]; omega)]
            simp [den, denL_take, denL_drop]
          | false =>
            rw [ha] at h4
            obtain ⟨s, h5, h6⟩ := nthF_spec h4
            refine ⟨s, fun w t' f hb => ?_, h6⟩
            exact (r_loadVar hti hb).2 ha _ (by simp [denL_getElem?, h5])
        · exact h4.elim
      obtain ⟨s, h5, h6⟩ := hex
      refine ⟨s, fun ms a ha w hk => ?_, h6⟩
      have hy := hk.got (i := j) (b := b') (cs := cs) (t := t') (by simp)
      rw [h3] at hy
      have e := ha.opd hs
      simp only [den] at e
      have e2 : (execOp a.eval o).run c.P w = .ok (.value (den s)) w := by
        simp [execOp, ho, e, Instr.loadAt, Instr.sureAddr, h5 w _ _ hy]
      rw [e2]; exact ⟨rfl, rfl⟩
    · exact of_Q h
    · exact h.elim
  case h_2 cl ho =>
    split at h
    · rename_i f hcal
      split at h
      · rename_i g caps hf
        obtain ⟨r, h1, h2⟩ := opdsF_spec2 h
        obtain ⟨s, h3, h4⟩ := appF_spec h2
        refine ⟨s, fun ms a ha w hk => ?_, h4⟩
        obtain ⟨hb, h3⟩ := (h3 ms w hk).both
        have e2 := ha.opd hf
        simp only [den] at e2
        have hargs : cl.args.map a.eval = (denL r).toArray := by rw [← h1 ha]; cases cl.args; simp
        have : (execOp a.eval o).run c.P w = .ok (.enter g (denL (r ++ caps)).toArray) w := by
          simp only [execOp, ho]
          simp [resolve, hcal, e2, Deferred.ofValue, invoke, hargs, run_callFunc hb, denL_append]
        rw [this]; exact ⟨rfl, h3⟩
      · exact h.elim
    · rename_i hcal
      split at h
      · rename_i x t hx hty
        have hargs : cl.args = #[x] := by cases hc : cl.args; rw [hc] at hx; simpa using hx
        have htys : cl.argTypes = #[t] := by cases hc : cl.argTypes; rw [hc] at hty; simpa using hty
        split at h
        · rename_i s i hs hi
          have key : ∀ n : Int, k (.v (.int .i64 n)) → (∀ ms a, Has c.n ms E a → ∀ w, (execOp a.eval o).run c.P w = .ok (.value (.int .i64 n)) w) →
              ∃ s, (∀ ms a, Has c.n ms E a → ∀ w, Kn c.W c.S ms H w → Oper.quietUpon c.P (fun w => Kn c.W c.S ms H w) w (den s) ((execOp a.eval o).run c.P w)) ∧ k s := by
            intro n hk h1
            exact ⟨_, fun ms a ha w _ => by rw [h1 ms a ha w]; exact ⟨rfl, rfl⟩, hk⟩
          split at h
          · rename_i str hd
            refine key _ h fun ms a ha w => ?_
            have e2 := ha.opd hs
            simp only [den] at e2
            simp only [execOp, ho]
            simp [resolve, hcal, hargs, htys, invoke, Go.builtin, Builtin.len_, e2, r_underlying (hT t i hi) w, hd, goInt]
          · rename_i e m cap hd
            refine key _ h fun ms a ha w => ?_
            have e2 := ha.opd hs
            simp only [den] at e2
            simp only [execOp, ho]
            simp [resolve, hcal, hargs, htys, invoke, Go.builtin, Builtin.len_, e2, r_underlying (hT t i hi) w, hd, goInt]
          · rename_i e m cap hd
            refine key _ h fun ms a ha w => ?_
            have e2 := ha.opd hs
            simp only [den] at e2
            simp only [execOp, ho]
            simp [resolve, hcal, hargs, htys, invoke, Go.builtin, Builtin.len_, e2, r_underlying (hT t i hi) w, hd, goInt]
          · exact of_Q h
        · exact h.elim
      · exact h.elim
    · exact of_Q h
  all_goals first | exact of_inert h | exact of_Q h
end
end Go.X

namespace Go.X
open Go
section
variable {c : Cx}
def noDef (l : List Oper) : Bool := l.all fun o => match o.op with | .defer _ => false | _ => true
theorem noDef_spec {l : List Oper} (h : noDef l = true) {i : Nat} {o : Oper} (hi : l[i]? = some o) (cl) : o.op ≠ .defer cl := by
  intro e
  have := List.all_eq_true.1 h o (List.mem_of_getElem? hi)
  simp [e] at this
theorem wpIn_round {o : Oper} (hnd : ∀ cl, o.op ≠ .defer cl) {a : Act} {w : World} {K : Act → World → Prop} {Q : Exit → Act → World → Prop} :
    o.wpIn c.F 0 c.P a w K Q ↔ o.wpIn Fence.wide 0 c.P a w K Q := by
  unfold Oper.wpIn
  rw [Oper.semAt_eq _ _ _ hnd, Oper.semAt_eq _ _ _ hnd]
  exact Iff.rfl
theorem wpOpIn_round {all : List Oper} (hnd : noDef all = true) {i : Nat} {a : Act} {w : World} {K : Act → World → Prop} {Q : Exit → Act → World → Prop} :
    wpOpIn c.F 0 c.P all.toArray Q i K a w ↔ wpOpIn Fence.wide 0 c.P all.toArray Q i K a w := by
  unfold wpOpIn
  cases h : all.toArray[i]? with
  | none => exact Iff.rfl
  | some o =>
    have hi : all[i]? = some o := by simpa using h
    simp only
    split
    · exact wpIn_round (noDef_spec hnd hi)
    · exact Iff.rfl
theorem wpAnyIn_round {all : List Oper} (hnd : noDef all = true) {md} {Q : Exit → Act → World → Prop} : ∀ (fuel : Nat) (listed : Array Bool) (a : Act) (w : World),
    wpAnyIn c.F 0 c.P md all.toArray Q fuel listed a w ↔ wpAnyIn Fence.wide 0 c.P md all.toArray Q fuel listed a w
  | 0, _, _, _ => Iff.rfl
  | fuel + 1, listed, a, w => by
    simp only [wpAnyIn]
    refine and_congr Iff.rfl (forall_congr' fun i => forall_congr' fun _ => ?_)
    rw [wpOpIn_round hnd]
    constructor
    · exact fun h => wpOpIn_mono (fun a w h => (wpAnyIn_round hnd fuel _ a w).1 h) h
    · exact fun h => wpOpIn_mono (fun a w h => (wpAnyIn_round hnd fuel _ a w).2 h) h
theorem wpAnyIn_more {F : Fence} {P : Program} {md} {ops : Array Oper} {Q : Exit → Act → World → Prop} : ∀ (fuel : Nat) (listed : Array Bool) (a : Act) (w : World),
    wpAnyIn F 0 P md ops Q fuel listed a w → wpAnyIn F 0 P md ops Q (fuel + 1) listed a w
  | 0, listed, a, w, h => ⟨fun _ => h.2, fun i hi => by rw [h.1] at hi; cases hi⟩
  | fuel + 1, listed, a, w, h => ⟨h.1, fun i hi => wpOpIn_mono (fun a w h => wpAnyIn_more fuel _ a w h) (h.2 i hi)⟩
theorem wpAnyIn_add {F : Fence} {P : Program} {md} {ops : Array Oper} {Q : Exit → Act → World → Prop} {fuel : Nat} {listed : Array Bool} {a : Act} {w : World}
    (h : wpAnyIn F 0 P md ops Q fuel listed a w) : ∀ n, wpAnyIn F 0 P md ops Q (n + fuel) listed a w
  | 0 => by simpa using h
  | n + 1 => by rw [Nat.add_right_comm]; exact wpAnyIn_more _ _ _ _ (wpAnyIn_add h n)
def qG (c : Cx) (all : List Oper) (o : Oper) (E : Env) (H : List Blk) (K : Env → Prop) : Prop :=
  cond (okd c o.dst) (match o.guard with
    | none => q1 c o E H (fun s => putF o.dst s E K)
    | some (j, want) => match dstOf all j with
      | none => False
      | some dj => match look dj E with
        | some (.v (.bool p)) => match want with
          | true => cond p (q1 c o ((dj, .v (.bool true)) :: E) H (fun s => putF o.dst s ((dj, .v (.bool true)) :: E) K))
                           (putF o.dst (.v undef) ((dj, .v (.bool false)) :: E) K)
          | false => cond p (putF o.dst (.v undef) ((dj, .v (.bool true)) :: E) K)
                           (q1 c o ((dj, .v (.bool false)) :: E) H (fun s => putF o.dst s ((dj, .v (.bool false)) :: E) K))
        | some (.v (.tuple _)) => putF o.dst (.v undef) E K
        | _ => False) False
def qopsF (c : Cx) (all : List Oper) : List Oper → Env → List Blk → (Env → Prop) → Prop
  | [], E, _, k => k E
  | o :: l, E, H, k => qG c all o E H (fun E => qopsF c all l E H k)
theorem qG_spec (hT : TOk c.P c.T) {ms : List Nat} {all : List Oper} {o : Oper} {E : Env} {H : List Blk} {K : Env → Prop} (h : qG c all o E H K) {a : Act} (ha : Has c.n ms E a) :
    if Region.wanted o (yielded all.toArray a.tmps) then o.quiet c.P a (fun w => Kn c.W c.S ms H w) (fun a' => ∃ E', Has c.n ms E' a' ∧ K E') else ∃ E', Has c.n ms E' (a.put o.dst undef) ∧ K E' := by
  unfold qG at h
  cases hok : okd c o.dst with
  | false => rw [hok] at h; exact h.elim
  | true =>
    rw [hok] at h
    simp only [cond_true] at h
    have hskip : ∀ E', (∀ (hh : Region.wanted o (yielded all.toArray a.tmps) = false), putF o.dst (.v undef) E' K → Has c.n ms E' a →
        if Region.wanted o (yielded all.toArray a.tmps) then o.quiet c.P a (fun w => Kn c.W c.S ms H w) (fun a' => ∃ E', Has c.n ms E' a' ∧ K E') else ∃ E', Has c.n ms E' (a.put o.dst undef) ∧ K E') := by
      intro E' hh h1 h2
      rw [hh]
      exact ⟨_, okd_put hok h2 (.v undef), putF_spec h1⟩
    have hrun : ∀ E', (∀ (hh : Region.wanted o (yielded all.toArray a.tmps) = true), q1 c o E' H (fun s => putF o.dst s E' K) → Has c.n ms E' a →
        if Region.wanted o (yielded all.toArray a.tmps) then o.quiet c.P a (fun w => Kn c.W c.S ms H w) (fun a' => ∃ E', Has c.n ms E' a' ∧ K E') else ∃ E', Has c.n ms E' (a.put o.dst undef) ∧ K E') := by
      intro E' hh h1 h2
      rw [hh]
      obtain ⟨s, h3, h4⟩ := q1_spec hT h1
      exact ⟨den s, fun w hw => h3 ms a h2 w hw, _, okd_put hok h2 s, putF_spec h4⟩
    split at h
    · rename_i hg
      exact hrun E (by simp [Region.wanted, hg]) h ha
    · rename_i j want hg
      split at h
      · exact h.elim
      · rename_i dj hdj
        split at h
        · rename_i p hp
          have hv := ha.get _ _ hp
          simp only [den] at hv
          have hy := yielded_bool hdj hv
          split at h
          · cases p with
            | true => exact hrun _ (by simp [Region.wanted, hg, hy]) h (ha.lit hp rfl)
            | false => exact hskip _ (by simp [Region.wanted, hg, hy]) h (ha.lit hp rfl)
          · cases p with
            | true => exact hskip _ (by simp [Region.wanted, hg, hy]) h (ha.lit hp rfl)
            | false => exact hrun _ (by simp [Region.wanted, hg, hy]) h (ha.lit hp rfl)
        · rename_i vs hp
          have hv := ha.get _ _ hp
          simp only [den] at hv
          have hy := yielded_tuple hdj hv
          exact hskip _ (by simp [Region.wanted, hg, hy]) h ha
        · exact h.elim
theorem qopsF_spec (hT : TOk c.P c.T) {ms : List Nat} {all : List Oper} {H : List Blk} {k : Env → Prop} : ∀ {l : List Oper} {E : Env}, qopsF c all l E H k → ∀ {a : Act}, Has c.n ms E a →
    wpQuiet c.P all.toArray (fun w => Kn c.W c.S ms H w) (fun a => ∃ E', Has c.n ms E' a ∧ k E') l a
  | [], E, h, a, ha => ⟨E, ha, h⟩
  | o :: l, E, h, a, ha => by
    have h1 := qG_spec hT h ha
    unfold wpQuiet
    split
    · rename_i hw
      rw [if_pos hw] at h1
      exact Oper.quiet_mono (fun a ⟨E', h2, h3⟩ => qopsF_spec hT h3 h2) h1
    · rename_i hw
      rw [if_neg hw] at h1
      obtain ⟨E', h2, h3⟩ := h1
      exact qopsF_spec hT h3 h2
def depB (all : List Oper) : Nat → Nat → Nat → Bool
  | 0, _, _ => false
  | f + 1, i, j => match all[i]? with
    | none => false
    | some o => o.after.toList.any fun e => Region.binds .any e && (e.on == j || depB all f e.on j)
def closedL (all : List Oper) (L : Array Bool) : Prop := ∀ i o, all[i]? = some o → L.getD i false = true → ∀ e ∈ o.after, Region.binds .any e = true → L.getD e.on false = true
def readyAt (all : List Oper) (L : Array Bool) (i : Nat) : Prop := ∃ o, all[i]? = some o ∧ ∀ e ∈ o.after, Region.binds .any e = true → L.getD e.on false = true
theorem dep_listed {all : List Oper} {L : Array Bool} (hc : closedL all L) : ∀ (f i j : Nat), depB all f i j = true → readyAt all L i → L.getD j false = true
  | 0, i, j, h, _ => by simp [depB] at h
  | f + 1, i, j, h, ⟨o, ho, hr⟩ => by
    simp only [depB, ho, List.any_eq_true] at h
    obtain ⟨e, he, h⟩ := h
    simp only [Bool.and_eq_true, Bool.or_eq_true, beq_iff_eq] at h
    have he : e ∈ o.after := by simpa using he
    have h1 := hr e he h.1
    rcases h.2 with h2 | h2
    · rw [← h2]; exact h1
    · refine dep_listed hc f e.on j h2 ?_
      cases h3 : all[e.on]? with
      | none =>
        cases f with
        | zero => simp [depB] at h2
        | succ f => simp [depB, h3] at h2
      | some o' => exact ⟨o', h3, fun e' he' hb => hc e.on o' h3 h1 e' he' hb⟩
def tailB (all : List Oper) (m : Nat) : Bool :=
  noDef all && (List.range all.length).all (fun i => Nat.blt i m || (List.range m).all (fun j => depB all all.length i j)) &&
  (List.range m).all (fun i => match all[i]? with
    | some o => o.after.toList.all (fun e => !Region.binds .any e || Nat.blt e.on i) && (match o.guard with | none => true | some (j, _) => Nat.blt j i)
    | none => true)
theorem getD_app {l r : List Bool} {i : Nat} (h : i < l.length) (d : Bool) : (l ++ r).toArray.getD i d = l.toArray.getD i d := by
  simp [Array.getD_eq_getD_getElem?, List.getElem?_append_left h]
theorem any_prefix {all l1 l2 : List Oper} {C : World → Prop} {Q : Exit → Act → World → Prop} {Qf : Act → Prop} {fuel2 : Nat} (hall : all = l1 ++ l2) (ht : tailB all l1.length = true)
    (hfin : ∀ a w, C w → Qf a → wpAnyIn c.F 0 c.P .any all.toArray Q fuel2 (List.replicate l1.length true ++ List.replicate l2.length false).toArray a w) :
    ∀ (fuel : Nat) (listed : List Bool) (a : Act) (w : World), listed.length = l1.length → closedL all (listed ++ List.replicate l2.length false).toArray → C w →
      wpAnyQ c.P .any l1.toArray C Qf fuel listed.toArray a → wpAnyIn c.F 0 c.P .any all.toArray Q (fuel + fuel2) (listed ++ List.replicate l2.length false).toArray a w := by
  simp only [tailB, Bool.and_eq_true] at ht
  obtain ⟨⟨hnd, hdep⟩, hback⟩ := ht
  simp only [List.all_eq_true, List.mem_range, Bool.or_eq_true] at hdep hback
  have hlt : ∀ {i m : Nat}, Nat.blt i m = true → i < m := fun h => Nat.le_of_ble_eq_true h
  have h1 : ∀ i, i < l1.length → all[i]? = l1[i]? := fun i hi => by rw [hall, List.getElem?_append_left hi]
  have hbk : ∀ i o, i < l1.length → all[i]? = some o → (∀ e ∈ o.after, Region.binds .any e = true → e.on < i) ∧ ∀ j b, o.guard = some (j, b) → j < i := by
    intro i o hi ho
    have := hback i hi
    simp only [ho, Bool.and_eq_true, List.all_eq_true, Bool.or_eq_true, Bool.not_eq_true'] at this
    refine ⟨fun e he hb => ?_, fun j b hg => ?_⟩
    · rcases this.1 e (by simpa using he) with h | h
      · rw [hb] at h; cases h
      · exact hlt h
    · have := this.2; rw [hg] at this; exact hlt this
  -- below m, both see the same
  have hrd : ∀ (listed : List Bool), listed.length = l1.length → ∀ i, i < l1.length → (i ∈ Region.ready .any all.toArray (listed ++ List.replicate l2.length false).toArray ↔ i ∈ Region.ready .any l1.toArray listed.toArray) := by
    intro listed hl i hi
    rw [mem_ready, mem_ready, getD_app (by omega)]
    refine and_congr Iff.rfl ?_
    simp only [List.getElem?_toArray, h1 i hi]
    constructor
    · rintro ⟨o, ho, h⟩
      exact ⟨o, ho, fun e he hb => by have := h e he hb; rwa [getD_app (by have := (hbk i o hi (by rw [h1 i hi]; exact ho)).1 e he hb; omega)] at this⟩
    · rintro ⟨o, ho, h⟩
      exact ⟨o, ho, fun e he hb => by have := h e he hb; rwa [getD_app (by have := (hbk i o hi (by rw [h1 i hi]; exact ho)).1 e he hb; omega)]⟩
  -- nothing is ready: all is listed
  have hdone : ∀ (listed : List Bool), listed.length = l1.length → Region.ready .any l1.toArray listed.toArray = [] → listed = List.replicate l1.length true := by
    intro listed hl hr
    have key : ∀ i, i < l1.length → listed[i]? = some true := by
      intro i
      induction i using Nat.strongRecOn with
      | _ i ih =>
        intro hi
        cases hb : listed[i]? with
        | none => rw [List.getElem?_eq_none_iff] at hb; omega
        | some b =>
          cases b with
          | true => rfl
          | false =>
            exfalso
            have : i ∈ Region.ready .any l1.toArray listed.toArray := by
              rw [mem_ready]
              refine ⟨by simp [Array.getD_eq_getD_getElem?, hb], l1[i], by simp [hi], fun e he hbd => ?_⟩
              have h2 := (hbk i l1[i] hi (by rw [h1 i hi]; simp [hi])).1 e he hbd
              have h3 := ih e.on h2 (by omega)
              simp [Array.getD_eq_getD_getElem?, h3]
            rw [hr] at this; cases this
    refine List.ext_getElem? fun i => ?_
    rcases Nat.lt_or_ge i l1.length with h | h
    · rw [key i h, List.getElem?_replicate, if_pos h]
    · rw [List.getElem?_eq_none (by omega), List.getElem?_eq_none (by simp; omega)]
  intro fuel
  induction fuel with
  | zero =>
    intro listed a w hl hc hw h
    have h3 := hdone listed hl h.1
    subst h3
    simpa using hfin a w hw h.2
  | succ fuel ih =>
    intro listed a w hl hc hw h
    by_cases he : Region.ready .any l1.toArray listed.toArray = []
    · have h3 := hdone listed hl he
      subst h3
      have := wpAnyIn_add (hfin a w hw (h.1 he)) (fuel + 1)
      exact this
    · obtain ⟨i0, hi0⟩ := List.exists_mem_of_ne_nil _ he
      have hi0m : i0 < l1.length := by
        obtain ⟨_, o, ho, _⟩ := mem_ready.1 hi0
        rcases Nat.lt_or_ge i0 l1.length with h | h
        · exact h
        · simp [List.getElem?_eq_none h] at ho
      rw [show fuel + 1 + fuel2 = (fuel + fuel2) + 1 from by omega]
      refine ⟨fun h0 => ?_, fun i hi => ?_⟩
      · have := (hrd listed hl i0 hi0m).2 hi0
        rw [h0] at this; cases this
      · obtain ⟨hun, o, ho, hr⟩ := mem_ready.1 hi
        have ho : all[i]? = some o := by simpa using ho
        have him : i < l1.length := by
          rcases Nat.lt_or_ge i l1.length with h | h
          · exact h
          · exfalso
            have hlen : i < all.length := by
              rcases Nat.lt_or_ge i all.length with h | h
              · exact h
              · rw [List.getElem?_eq_none h] at ho; cases ho
            have h4 := hdep i hlen
            have h5 : ¬ Nat.blt i l1.length = true := fun h' => by have := hlt h'; omega
            have h6 := h4.resolve_left h5 i0 hi0m
            have h7 := dep_listed hc _ _ _ h6 ⟨o, ho, hr⟩
            rw [getD_app (by omega)] at h7
            have h8 := (mem_ready.1 hi0).1
            have : listed[i0]? = some listed[i0] := by simp
            simp [Array.getD_eq_getD_getElem?, this] at h7 h8
            rw [h7] at h8; cases h8
        have hq := h.2 i ((hrd listed hl i him).1 hi)
        have hset : (listed ++ List.replicate l2.length false).toArray.setIfInBounds i true = (listed.set i true ++ List.replicate l2.length false).toArray := by
          simp [List.set_append_left, hl, him]
        have hc' : closedL all (listed.set i true ++ List.replicate l2.length false).toArray := by
          rw [← hset]
          intro i' o' ho' hl' e he hb
          by_cases hii : i = i'
          · subst hii
            rw [ho] at ho'; cases ho'
            exact getD_set_true (hr e he hb)
          · rw [getD_set_ne false hii] at hl'
            exact getD_set_true (hc i' o' ho' hl' e he hb)
        have hnext : ∀ a' w', C w' → wpAnyQ c.P .any l1.toArray C Qf fuel (listed.toArray.setIfInBounds i true) a' →
            wpAnyIn c.F 0 c.P .any all.toArray Q (fuel + fuel2) ((listed ++ List.replicate l2.length false).toArray.setIfInBounds i true) a' w' := by
          intro a' w' hw' h'
          rw [hset]
          exact ih (listed.set i true) a' w' (by simpa using hl) hc' hw' (by simpa using h')
        unfold qOp at hq
        unfold wpOpIn
        have ho1 : l1[i]? = some o := by rw [← h1 i him]; exact ho
        simp only [List.getElem?_toArray, ho, ho1] at hq ⊢
        have hwant : Region.wanted o (yielded all.toArray a.tmps) = Region.wanted o (yielded l1.toArray a.tmps) := by
          unfold Region.wanted
          cases hg : o.guard with
          | none => rfl
          | some p =>
            obtain ⟨j, b⟩ := p
            have hj := (hbk i o him ho).2 j b hg
            have : yielded all.toArray a.tmps j = yielded l1.toArray a.tmps j := by
              unfold yielded
              simp only [List.getElem?_toArray, h1 j (by omega)]
            simp only [this]
        rw [hwant]
        split
        · rename_i hw1
          rw [if_pos hw1] at hq
          obtain ⟨v, h2, h3⟩ := hq
          have h4 := h2 w hw
          refine ⟨fun _ _ => trivial, ?_⟩
          rw [Oper.semAt_eq _ _ _ (noDef_spec hnd ho)]
          unfold Oper.quietAt at h4
          generalize (execOp a.eval o).run c.P w = r at *
          cases r with
          | ok n w' =>
            cases n <;> simp only [Oper.quietUpon] at h4 <;> simp only [Oper.uponIn]
            case value u =>
              obtain ⟨rfl, rfl⟩ := h4
              exact hnext _ _ hw h3
            case skip =>
              obtain ⟨rfl, rfl⟩ := h4
              exact hnext _ _ hw h3
            case enter f args =>
              obtain ⟨rfl, hcl⟩ := h4
              refine ⟨fun h => by simp [Cx.F, Fence.wide] at h, (callsIn_of_calls hcl).mono ?_⟩
              rintro e w'' ⟨rfl, hw''⟩
              exact hnext _ _ hw'' h3
          | halt x w' => simp only [Oper.quietUpon] at h4
        · rename_i hw1
          rw [if_neg hw1] at hq
          exact ⟨fun _ _ => trivial, hnext _ _ hw hq⟩
end
end Go.X

namespace Go.X
open Go
def nthB (d : Bool) : List Bool → Nat → Bool
  | b :: _, 0 => b
  | _ :: l, n + 1 => nthB d l n
  | [], _ => d
def bindsA (g : Ground) : Bool := match g with
  | .textOnly _ => false
  | .gcOnly _ => false
  | _ => true
def afterOk (listed : List Bool) : List Edge → Bool
  | [] => true
  | e :: es => cond (bindsA e.ground) (cond (nthB false listed e.on) (afterOk listed es) false) (afterOk listed es)
def readyF (listed : List Bool) : Nat → List Oper → (List (Nat × Oper) → Prop) → Prop
  | _, [], k => k []
  | i, o :: os, k => cond (nthB true listed i) (readyF listed (i + 1) os k) (cond (afterOk listed o.after.toList) (readyF listed (i + 1) os (fun r => k ((i, o) :: r))) (readyF listed (i + 1) os k))
def setBF : List Bool → Nat → (List Bool → Prop) → Prop
  | _ :: l, 0, k => k (true :: l)
  | b :: l, n + 1, k => setBF l n (fun r => k (b :: r))
  | [], _, k => k []
theorem nthB_eq (d : Bool) : ∀ (l : List Bool) (n : Nat), nthB d l n = l.toArray.getD n d
  | [], n => by simp [nthB]
  | b :: l, 0 => by simp [nthB]
  | b :: l, n + 1 => by
    have := nthB_eq d l n
    simp only [nthB, this]
    simp [Array.getD_eq_getD_getElem?]
theorem setBF_spec : ∀ {l : List Bool} {n : Nat} {k : List Bool → Prop}, setBF l n k → k (l.set n true)
  | [], _, _, h => h
  | _ :: _, 0, _, h => h
  | b :: l, n + 1, k, h => by simpa using setBF_spec (l := l) (n := n) h
theorem bindsA_eq (e : Edge) : bindsA e.ground = Region.binds .any e := by
  unfold bindsA Region.binds
  cases e.ground <;> rfl
theorem afterOk_eq (listed : List Bool) : ∀ (es : List Edge), afterOk listed es = true ↔ ∀ e ∈ es, Region.binds .any e = true → listed.toArray.getD e.on false = true
  | [] => by simp [afterOk]
  | e :: es => by
    simp only [afterOk, bindsA_eq, nthB_eq, List.mem_cons, forall_eq_or_imp, ← afterOk_eq listed es]
    cases Region.binds .any e <;> cases listed.toArray.getD e.on false <;> simp
def readyL (listed : List Bool) : Nat → List Oper → List (Nat × Oper)
  | _, [] => []
  | i, o :: os => cond (nthB true listed i) (readyL listed (i + 1) os) (cond (afterOk listed o.after.toList) ((i, o) :: readyL listed (i + 1) os) (readyL listed (i + 1) os))
theorem readyF_spec {listed : List Bool} : ∀ {os : List Oper} {i : Nat} {k : List (Nat × Oper) → Prop}, readyF listed i os k → k (readyL listed i os)
  | [], _, _, h => h
  | o :: os, i, k, h => by
    simp only [readyF] at h
    simp only [readyL]
    cases h1 : nthB true listed i with
    | true => rw [h1] at h; exact readyF_spec h
    | false =>
      rw [h1] at h
      cases h2 : afterOk listed o.after.toList with
      | true => rw [h2] at h; exact readyF_spec (os := os) h
      | false => rw [h2] at h; exact readyF_spec h
theorem mem_readyL {listed : List Bool} : ∀ {os : List Oper} {n i : Nat} {o : Oper}, (i, o) ∈ readyL listed n os ↔
    n ≤ i ∧ os[i - n]? = some o ∧ listed.toArray.getD i true = false ∧ ∀ e ∈ o.after, Region.binds .any e = true → listed.toArray.getD e.on false = true
  | [], n, i, o => by simp [readyL]
  | x :: os, n, i, o => by
    have hrec := mem_readyL (listed := listed) (os := os) (n := n + 1) (i := i) (o := o)
    have hx : afterOk listed x.after.toList = true ↔ ∀ e ∈ x.after, Region.binds .any e = true → listed.toArray.getD e.on false = true := by
      rw [afterOk_eq]; simp
    have hmem : (i, o) ∈ readyL listed n (x :: os) ↔ (i = n ∧ o = x ∧ nthB true listed n = false ∧ afterOk listed x.after.toList = true) ∨ (i, o) ∈ readyL listed (n + 1) os := by
      simp only [readyL]
      cases nthB true listed n <;> cases afterOk listed x.after.toList <;> simp
    rw [hmem, hrec, hx, nthB_eq]
    constructor
    · rintro (⟨rfl, rfl, h1, h2⟩ | ⟨h1, h2, h3⟩)
      · exact ⟨Nat.le_refl _, by simp, h1, h2⟩
      · exact ⟨by omega, by rw [show i - n = (i - (n + 1)) + 1 from by omega]; simpa using h2, h3⟩
    · rintro ⟨h1, h2, h3, h4⟩
      rcases Nat.eq_or_lt_of_le h1 with h | h
      · subst h; simp at h2; subst h2; exact .inl ⟨rfl, rfl, h3, h4⟩
      · exact .inr ⟨h, by rw [show i - n = (i - (n + 1)) + 1 from by omega] at h2; simpa using h2, h3, h4⟩
theorem mem_readyL0 {listed : List Bool} {all : List Oper} {i : Nat} : i ∈ Region.ready .any all.toArray listed.toArray ↔ ∃ o, (i, o) ∈ readyL listed 0 all := by
  simp only [mem_ready, mem_readyL, Nat.zero_le, true_and, Nat.sub_zero, List.getElem?_toArray]
  constructor
  · rintro ⟨h1, o, h2, h3⟩; exact ⟨o, h2, h1, h3⟩
  · rintro ⟨o, h2, h1, h3⟩; exact ⟨h1, o, h2, h3⟩
def isInert : Op → Bool
  | .move _ => true
  | .assign _ => true
  | .pick _ _ _ => true
  | .fieldAddr _ _ _ => true
  | .nilCheck _ => true
  | .binOp _ _ _ _ _ => true
  | .unOp _ _ _ => true
  | .extract _ _ => true
  | .build _ _ => true
  | _ => false
def iG (c : Cx) (all : List Oper) (o : Oper) (E : Env) (K : Env → Prop) : Prop :=
  cond (okd c o.dst) (match o.guard with
    | none => inertF c o E (fun s => putF o.dst s E K)
    | some (j, want) => match dstOf all j with
      | none => False
      | some dj => match look dj E with
        | some (.v (.bool p)) => match want with
          | true => cond p (inertF c o ((dj, .v (.bool true)) :: E) (fun s => putF o.dst s ((dj, .v (.bool true)) :: E) K))
                           (putF o.dst (.v undef) ((dj, .v (.bool false)) :: E) K)
          | false => cond p (putF o.dst (.v undef) ((dj, .v (.bool true)) :: E) K)
                           (inertF c o ((dj, .v (.bool false)) :: E) (fun s => putF o.dst s ((dj, .v (.bool false)) :: E) K))
        | some (.v (.tuple _)) => putF o.dst (.v undef) E K
        | _ => False) False
section
variable {c : Cx}
theorem iG_spec (hT : TOk c.P c.T) {ms : List Nat} {all : List Oper} {o : Oper} {E : Env} {K : Env → Prop} (hin : isInert o.op = true) (h : iG c all o E K) {a : Act} (ha : Has c.n ms E a) :
    ∃ v E', YieldsFenced c.P all.toArray o v a ∧ Has c.n ms E' (a.put o.dst v) ∧ K E' := by
  have hab : ∀ w, o.about c.P w a.eval = none := by
    intro w
    unfold Oper.about
    cases ho : o.op <;> rw [ho] at hin <;> first | rfl | cases hin
  unfold iG at h
  cases hok : okd c o.dst with
  | false => rw [hok] at h; exact h.elim
  | true =>
    rw [hok] at h
    simp only [cond_true] at h
    have hskip : ∀ E', (∀ (hh : Region.wanted o (yielded all.toArray a.tmps) = false), putF o.dst (.v undef) E' K → Has c.n ms E' a →
        ∃ v E', YieldsFenced c.P all.toArray o v a ∧ Has c.n ms E' (a.put o.dst v) ∧ K E') := by
      intro E' hh h1 h2
      exact ⟨undef, _, ⟨.inr ⟨hh, rfl⟩, hab⟩, okd_put hok h2 (.v undef), putF_spec h1⟩
    have hrun : ∀ E', (∀ (hh : Region.wanted o (yielded all.toArray a.tmps) = true), inertF c o E' (fun s => putF o.dst s E' K) → Has c.n ms E' a →
        ∃ v E', YieldsFenced c.P all.toArray o v a ∧ Has c.n ms E' (a.put o.dst v) ∧ K E') := by
      intro E' hh h1 h2
      obtain ⟨s, h3, h4⟩ := inertF_spec hT h1
      exact ⟨den s, _, ⟨.inl ⟨hh, h3 ms a h2⟩, hab⟩, okd_put hok h2 s, putF_spec h4⟩
    split at h
    · rename_i hg
      exact hrun E (by simp [Region.wanted, hg]) h ha
    · rename_i j want hg
      split at h
      · exact h.elim
      · rename_i dj hdj
        split at h
        · rename_i p hp
          have hv := ha.get _ _ hp
          simp only [den] at hv
          have hy := yielded_bool hdj hv
          split at h
          · cases p with
            | true => exact hrun _ (by simp [Region.wanted, hg, hy]) h (ha.lit hp rfl)
            | false => exact hskip _ (by simp [Region.wanted, hg, hy]) h (ha.lit hp rfl)
          · cases p with
            | true => exact hskip _ (by simp [Region.wanted, hg, hy]) h (ha.lit hp rfl)
            | false => exact hrun _ (by simp [Region.wanted, hg, hy]) h (ha.lit hp rfl)
        · rename_i vs hp
          have hv := ha.get _ _ hp
          simp only [den] at hv
          have hy := yielded_tuple hdj hv
          exact hskip _ (by simp [Region.wanted, hg, hy]) h ha
        · exact h.elim
structure InAt (c : Cx) (all : List Oper) (o : Oper) (E : Env) (K : Env → Prop) : Prop where mk' ::
  get : ∀ K' : Env → Prop, (∀ E, K E → K' E) → iG c all o E K'
structure AnyAt (c : Cx) (all : List Oper) (o : Oper) (E : Env) (H : List Blk) (K : KE) : Prop where mk' ::
  get : ∀ K' : KE, (∀ E H, K E H → K' E H) → opG c all o E H K'
def allF : List (Nat × Oper) → (Nat → Oper → Prop) → Prop
  | [], _ => True
  | [(i, o)], f => f i o
  | (i, o) :: rs, f => f i o ∧ allF rs f
def pickF : List (Nat × Oper) → (Nat → Oper → Prop) → Prop → Prop
  | [], _, z => z
  | (i, o) :: rs, f, z => cond (isInert o.op) (f i o) (pickF rs f z)
def anyF (c : Cx) (all : List Oper) (k : KE) : Nat → List Bool → Env → List Blk → Prop
  | 0, listed, E, H => readyF listed 0 all (fun rs => match rs with | [] => k E H | _ => False)
  | fuel + 1, listed, E, H => readyF listed 0 all (fun rs => match rs with
    | [] => k E H
    | rs => pickF rs (fun i o => setBF listed i (fun l' => InAt c all o E (fun E => anyF c all k fuel l' E H)))
             (allF rs (fun i o => setBF listed i (fun l' => AnyAt c all o E H (fun E H => anyF c all k fuel l' E H)))))
theorem allF_spec {rs : List (Nat × Oper)} {f : Nat → Oper → Prop} (h : allF rs f) : ∀ p ∈ rs, f p.1 p.2 := by
  induction rs with
  | nil => simp
  | cons p rs ih =>
    cases rs with
    | nil => simpa [allF] using h
    | cons q rs =>
      simp only [allF] at h
      intro x hx
      rcases List.mem_cons.1 hx with rfl | hx
      · exact h.1
      · exact ih h.2 x hx
theorem pickF_spec {rs : List (Nat × Oper)} {f : Nat → Oper → Prop} {z : Prop} (h : pickF rs f z) : (∃ p ∈ rs, isInert p.2.op = true ∧ f p.1 p.2) ∨ z := by
  induction rs with
  | nil => exact .inr h
  | cons p rs ih =>
    simp only [pickF] at h
    cases hb : isInert p.2.op with
    | true => rw [hb] at h; exact .inl ⟨p, by simp, hb, h⟩
    | false =>
      rw [hb] at h
      rcases ih h with ⟨q, h1, h2⟩ | h
      · exact .inl ⟨q, by simp [h1], h2⟩
      · exact .inr h
def freeB (all : List Oper) : Bool :=
  Region.noSelect all.toArray && (List.range all.length).all fun i => match all[i]? with
    | none => true
    | some oi => !isInert oi.op || (List.range all.length).all fun j => i == j || match all[j]? with
      | none => true
      | some oj => oj.after.toList.any (fun e => Region.binds .any e && e.on == i) || oi.after.toList.any (fun e => Region.binds .any e && e.on == j) || oi.apart all.toArray oj
theorem freeB_spec {all : List Oper} (h : freeB all = true) {i j : Nat} {oi oj : Oper} (hi : all[i]? = some oi) (hin : isInert oi.op = true) (hj : all[j]? = some oj) (hne : j ≠ i)
    (h1 : ∀ e ∈ oj.after, Region.binds .any e = true → e.on ≠ i) (h2 : ∀ e ∈ oi.after, Region.binds .any e = true → e.on ≠ j) : oi.apart all.toArray oj = true := by
  simp only [freeB, Bool.and_eq_true, List.all_eq_true, List.mem_range] at h
  have hil : i < all.length := by
    rcases Nat.lt_or_ge i all.length with h | h
    · exact h
    · rw [List.getElem?_eq_none h] at hi; cases hi
  have hjl : j < all.length := by
    rcases Nat.lt_or_ge j all.length with h | h
    · exact h
    · rw [List.getElem?_eq_none h] at hj; cases hj
  have h3 := h.2 i hil
  simp only [hi, hin, Bool.not_true, Bool.false_or, List.all_eq_true, List.mem_range] at h3
  have h4 := h3 j hjl
  simp only [hj, Bool.or_eq_true, beq_iff_eq, List.any_eq_true, Bool.and_eq_true] at h4
  rcases h4 with h4 | (⟨e, he, h5, h6⟩ | ⟨e, he, h5, h6⟩) | h4
  · exact absurd h4.symm hne
  · exact absurd h6 (h1 e (by simpa using he) h5)
  · exact absurd h6 (h2 e (by simpa using he) h5)
  · exact h4
theorem opG_sound (hT : TOk c.P c.T) {ms : List Nat} {all : List Oper} {o : Oper} {E : Env} {H : List Blk} {K : KE} {Q : Exit → Act → World → Prop} (h : opG c all o E H K) {a : Act} {w : World}
    (ha : Has c.n ms E a) (hk : Kn c.W c.S ms H w) {K' : Act → World → Prop} (hK : ∀ E H, K E H → ∀ ms a w, Has c.n ms E a → Kn c.W c.S ms H w → K' a w) :
    if Region.wanted o (yielded all.toArray a.tmps) = true then o.wpIn c.F 0 c.P a w K' Q else (∀ f, o.about c.P w a.eval = some f → c.F.fn f) ∧ K' (a.put o.dst undef) w := by
  unfold opG at h
  cases hok : okd c o.dst with
  | false => rw [hok] at h; exact h.elim
  | true =>
    rw [hok] at h
    simp only [cond_true] at h
    have hskip : ∀ E', (∀ (hh : Region.wanted o (yielded all.toArray a.tmps) = false), putF o.dst (.v undef) E' (fun E => K E H) → Has c.n ms E' a →
        if Region.wanted o (yielded all.toArray a.tmps) = true then o.wpIn c.F 0 c.P a w K' Q else (∀ f, o.about c.P w a.eval = some f → c.F.fn f) ∧ K' (a.put o.dst undef) w) := by
      intro E' hh h1 h2
      rw [if_neg (by rw [hh]; simp)]
      exact ⟨fun _ _ => trivial, hK _ _ (putF_spec h1) _ _ _ (okd_put hok h2 (.v undef)) hk⟩
    have hrun : ∀ E', (∀ (hh : Region.wanted o (yielded all.toArray a.tmps) = true), op1 c o E' H (fun s H => putF o.dst s E' (fun E => K E H)) → Has c.n ms E' a →
        if Region.wanted o (yielded all.toArray a.tmps) = true then o.wpIn c.F 0 c.P a w K' Q else (∀ f, o.about c.P w a.eval = some f → c.F.fn f) ∧ K' (a.put o.dst undef) w) := by
      intro E' hh h1 h2
      rw [if_pos hh]
      refine Oper.wpIn_mono ?_ (op1_sound hT h1 ms a w h2 hk Q)
      rintro a' w' ⟨s, H', rfl, h3, h4⟩
      exact hK _ _ (putF_spec h4) _ _ _ (okd_put hok h2 s) h3
    split at h
    · rename_i hg
      exact hrun E (by simp [Region.wanted, hg]) h ha
    · rename_i j want hg
      split at h
      · exact h.elim
      · rename_i dj hdj
        split at h
        · rename_i p hp
          have hv := ha.get _ _ hp
          simp only [den] at hv
          have hy := yielded_bool hdj hv
          split at h
          · cases p with
            | true => exact hrun _ (by simp [Region.wanted, hg, hy]) h (ha.lit hp rfl)
            | false => exact hskip _ (by simp [Region.wanted, hg, hy]) h (ha.lit hp rfl)
          · cases p with
            | true => exact hskip _ (by simp [Region.wanted, hg, hy]) h (ha.lit hp rfl)
            | false => exact hrun _ (by simp [Region.wanted, hg, hy]) h (ha.lit hp rfl)
        · rename_i vs hp
          have hv := ha.get _ _ hp
          simp only [den] at hv
          have hy := yielded_tuple hdj hv
          exact hskip _ (by simp [Region.wanted, hg, hy]) h ha
        · exact h.elim
theorem anyF_sound (hT : TOk c.P c.T) {all : List Oper} {k : KE} {kc : KC} (hnd : noDef all = true) (hfr : freeB all = true)
    (hQ : ∀ ms E H a w, k E H → Has c.n ms E a → Kn c.W c.S ms H w → QC c kc .normal a w) :
    ∀ (fuel : Nat) (listed : List Bool) (E : Env) (H : List Blk), anyF c all k fuel listed E H → ∀ ms a w, Has c.n ms E a → Kn c.W c.S ms H w →
      wpAnyIn c.F 0 c.P .any all.toArray (QC c kc) fuel listed.toArray a w := by
  have hnil : ∀ {listed : List Bool}, readyL listed 0 all = [] → Region.ready .any all.toArray listed.toArray = [] := by
    intro listed h
    refine List.eq_nil_iff_forall_not_mem.2 fun i hi => ?_
    obtain ⟨o, ho⟩ := mem_readyL0.1 hi
    rw [h] at ho; cases ho
  intro fuel
  induction fuel with
  | zero =>
    intro listed E H h ms a w ha hk
    have h := readyF_spec h
    split at h
    · rename_i hr
      exact wpAnyIn_done (hnil hr) (hQ ms E H a w h ha hk) 0
    · exact h.elim
  | succ fuel ih =>
    intro listed E H h ms a w ha hk
    have h := readyF_spec h
    split at h
    · rename_i hr
      exact wpAnyIn_done (hnil hr) (hQ ms E H a w h ha hk) (fuel + 1)
    · rename_i hne
      rcases pickF_spec h with ⟨⟨i, o⟩, hmem, hin, h⟩ | h
      · have h := setBF_spec h
        obtain ⟨v, E', h1, h2, h3⟩ := iG_spec hT hin (h.get _ (fun _ h => h)) ha
        obtain ⟨_, ho, hun, hr⟩ := mem_readyL.1 hmem
        simp only [Nat.sub_zero] at ho
        have hnext := ih _ E' H h3 ms _ w h2 hk
        have h4 := (wpAnyIn_round hnd _ _ _ _).1 hnext
        refine (wpAnyIn_round hnd _ _ _ _).2 (wpAnyIn_first rfl (by simpa using ho) (fun j o cs b hj => Region.noSelect_spec (by have := hfr; simp only [freeB, Bool.and_eq_true] at this; exact this.1) j o cs b hj) ?_ fuel listed.toArray a w ?_ ?_ h1 ?_)
        · intro c a w h; exact h
        · intro j oj hj hji hunj hno
          refine freeB_spec hfr ho hin (by simpa using hj) hji hno fun e he hb heq => ?_
          have := hr e he hb
          rw [heq] at this
          simp only [Array.getD_eq_getD_getElem?, List.getElem?_toArray] at hunj this
          cases hj' : listed[j]? with
          | none => rw [hj'] at this; cases this
          | some b => rw [hj'] at this hunj; simp at this hunj; rw [this] at hunj; cases hunj
        · exact mem_readyL0.2 ⟨o, hmem⟩
        · simpa using h4
      · have hall := allF_spec h
        refine ⟨fun h0 => ?_, fun i hi => ?_⟩
        · exfalso
          cases hr : readyL listed 0 all with
          | nil => exact hne hr
          | cons p rs =>
            have : p.1 ∈ Region.ready .any all.toArray listed.toArray := mem_readyL0.2 ⟨p.2, by rw [hr]; simp⟩
            rw [h0] at this; cases this
        · obtain ⟨o, ho⟩ := mem_readyL0.1 hi
          have h1 := setBF_spec (hall (i, o) ho)
          obtain ⟨_, ho', _, _⟩ := mem_readyL.1 ho
          simp only [Nat.sub_zero] at ho'
          unfold wpOpIn
          simp only [List.getElem?_toArray, ho']
          refine opG_sound hT (h1.get _ (fun _ _ h => h)) ha hk fun E H h ms a w ha hk => ?_
          simpa using ih _ E H h ms a w ha hk
theorem wpAnyQ_start {l1 : List Oper} {C : World → Prop} {Qf : Act → Prop} {a : Act} (hB : Region.lexB .any l1.toArray = true) (h : wpQuiet c.P l1.toArray C Qf l1 a) :
    wpAnyQ c.P .any l1.toArray C Qf l1.length (List.replicate l1.length false).toArray a := by
  simp only [Region.lexB, Bool.and_eq_true] at hB
  have := wpAnyQ_lex (C := C) (Q := Qf) (P := c.P) (md := .any) hB.1 l1 0 (Array.replicate l1.length false) a (by simp) (by simpa using hB.2) h
  simpa using this
theorem Kn.drawn {W S ms H w} (h : Kn W S ms H w) : Kn W S ms H { w with drawn := w.drawn + 1 } := by
  obtain ⟨T, hT, ho⟩ := Kn0.foot h
  exact Kn0.eff h (T := fun _ => False) (fun _ h => h.elim) ⟨rfl, rfl, rfl, Nat.le_refl _, fun k hk _ => rfl⟩ (hT.mono (Nat.le_refl _) fun k hk => rfl) fun k hk => .inr (ho k hk)
theorem r_drawn0 {id : Nat} (l1 l2 : List Oper) {all : List Oper} {E : Env} {H : List Blk} {k : KC} {K0 : Env → Prop} (hm : c.P.follows .mixedOrders = true) (hall : all = l1 ++ l2)
    (hB : Region.lexB .any l1.toArray = true) (ht : tailB all l1.length = true) (hfr : freeB all = true)
    (h : qopsF c l1 l1 E H K0) (hK : ∀ E', K0 E' → anyF c all (k .nrm) l2.length (List.replicate l1.length true ++ List.replicate l2.length false) E' H) :
    Run c (.region id all.toArray true) E H k := by
  refine .of fun ms a w ha hk => ?_
  have hnd : noDef all = true := by simp only [tailB, Bool.and_eq_true] at ht; exact ht.1.1
  refine wpIn_region_any hm ?_
  have hkd : Kn c.W c.S ms H { w with drawn := w.drawn + 1 } := Kn.drawn hk
  have hq := qopsF_spec c.ok h ha
  have := any_prefix (c := c) (fuel2 := l2.length) (Q := QC c k) hall ht (C := fun w => Kn c.W c.S ms H w) (Qf := fun a => ∃ E', Has c.n ms E' a ∧ K0 E')
    (fun a w hw ⟨E', h1, h2⟩ => anyF_sound c.ok hnd hfr (kc := k) (fun ms E H a w h ha hk => ⟨ms, E, H, ha, hk, h⟩) _ _ _ _ (hK E' h2) ms a w h1 hw)
    l1.length (List.replicate l1.length false) a _ (by simp) ?_ hkd (wpAnyQ_start hB hq)
  · have e : all.toArray.size = l1.length + l2.length := by simp [hall]
    rw [e]
    have e2 : Array.replicate (l1.length + l2.length) false = (List.replicate l1.length false ++ List.replicate l2.length false).toArray := by
      simp [List.replicate_append_replicate]
    rw [e2]; exact this
  · intro i o ho hl
    exfalso
    rw [List.replicate_append_replicate, Array.getD_eq_getD_getElem?, List.getElem?_toArray, List.getElem?_replicate] at hl
    split at hl <;> cases hl
theorem r_drawn {id : Nat} (l1 l2 : List Oper) {all : List Oper} {E : Env} {H : List Blk} {k : KC} (hm : c.P.follows .mixedOrders = true) (hall : all = l1 ++ l2)
    (hB : Region.lexB .any l1.toArray = true) (ht : tailB all l1.length = true) (hfr : freeB all = true)
    (h : ∀ K : Env → Prop, (∀ E', anyF c all (k .nrm) l2.length (List.replicate l1.length true ++ List.replicate l2.length false) E' H → K E') → qopsF c l1 l1 E H K) :
    Run c (.region id all.toArray true) E H k :=
  r_drawn0 l1 l2 hm hall hB ht hfr (h _ fun _ h => h) fun _ h => h
theorem readyF_all {n : Nat} : ∀ {os : List Oper} {i : Nat} {k : List (Nat × Oper) → Prop}, i + os.length ≤ n → k [] → readyF (List.replicate n true) i os k
  | [], _, _, _, h => h
  | o :: os, i, k, hl, h => by
    simp only [List.length_cons] at hl
    have : nthB true (List.replicate n true) i = true := by
      rw [nthB_eq, Array.getD_eq_getD_getElem?, List.getElem?_toArray, List.getElem?_replicate, if_pos (by omega)]; rfl
    simp only [readyF, this]
    exact readyF_all (by omega) h
theorem r_quiet {id : Nat} {l : List Oper} {E : Env} {H : List Blk} {k : KC} (hm : c.P.follows .mixedOrders = true)
    (hB : Region.lexB .any l.toArray = true) (ht : tailB l l.length = true) (hfr : freeB l = true)
    (h : qopsF c l l E H (fun E' => k .nrm E' H)) : Run c (.region id l.toArray true) E H k := by
  refine r_drawn0 l [] hm (by simp) hB ht hfr h fun E' hk => ?_
  simp only [List.length_nil, List.replicate_zero, List.append_nil, anyF]
  exact readyF_all (by simp) hk
theorem r_any {id : Nat} {l : List Oper} {E : Env} {H : List Blk} {k : KC} (hm : c.P.follows .mixedOrders = true) (hnd : noDef l = true) (hfr : freeB l = true)
    (h : anyF c l (k .nrm) l.length (List.replicate l.length false) E H) : Run c (.region id l.toArray true) E H k := by
  refine .of fun ms a w ha hk => ?_
  refine wpIn_region_any hm ?_
  have := anyF_sound c.ok hnd hfr (kc := k) (fun ms E H a w h ha hk => ⟨ms, E, H, ha, hk, h⟩) _ _ _ _ h ms a _ ha (Kn.drawn hk)
  simpa using this
theorem InAt.mk {all : List Oper} {o : Oper} {E : Env} {K : Env → Prop} (h : ∀ K' : Env → Prop, (∀ E, K E → K' E) → iG c all o E K') : InAt c all o E K := ⟨h⟩
theorem AnyAt.mk {all : List Oper} {o : Oper} {E : Env} {H : List Blk} {K : KE} (h : ∀ K' : KE, (∀ E H, K E H → K' E H) → opG c all o E H K') : AnyAt c all o E H K := ⟨h⟩
theorem CallQ.pu {g : FuncId} {l : List SV} {H : List Blk} {k : SV → Prop} {v : Value} (h : ∀ w, Pu c.P g (denL l).toArray w v) (hn : k (.v v)) : CallQ c g l H k := by
  refine ⟨?_⟩
  exact ⟨.v v, fun ms w hk => CT.mono (h w) fun e w' ⟨he, hb⟩ => ⟨he, Kn.below hk hb⟩, hn⟩
theorem CallQ.puW {g : FuncId} {l : List SV} {H : List Blk} {k : SV → Prop} {v : Value} (h : ∀ ms w, Kn c.W c.S ms H w → Pu c.P g (denL l).toArray w v) (hn : k (.v v)) : CallQ c g l H k := by
  refine ⟨?_⟩
  exact ⟨.v v, fun ms w hk => CT.mono (h ms w hk) fun e w' ⟨he, hb⟩ => ⟨he, Kn.below hk hb⟩, hn⟩
end
end Go.X

namespace Go.X
open Go
def assB (i : Nat) (L : List Blk) : Blk := .ext i (AssL L)
theorem HSub.join {i : Nat} {L : List Blk} : HSub [assB i L] L := fun w S h =>
  ⟨_, .cons (x := assB i L) h (fun k hk => h.lt k hk) .nil (fun _ _ h => h), fun _ hk => hk.elim id False.elim⟩
theorem HSub.unjoin {i : Nat} {L : List Blk} : HSub L [assB i L] := fun w S h => by
  cases h with
  | @cons _ _ Sx T hx hb hH hd => exact ⟨Sx, hx, fun _ h => .inl h⟩
theorem HSub.close {i : Nat} {A : Ass} {L : List Blk} (e : ∀ w S, Holds w L S → A.holds w S) : HSub [.ext i A] L := fun w S h =>
  ⟨_, .cons (x := .ext i A) (e w S h) (fun k hk => h.lt k hk) .nil (fun _ _ h => h), fun _ hk => hk.elim id False.elim⟩
theorem HSub.front (x : Blk) (A B : List Blk) : HSub (x :: (A ++ B)) (A ++ x :: B) := HSub.perm List.perm_middle
theorem HSub.snoc (x : Blk) (A : List Blk) : HSub (A ++ [x]) (x :: A) := HSub.perm (by
  have := (List.perm_append_comm (l₁ := [x]) (l₂ := A)); simpa using this)
def snocF : List Blk → Blk → (List Blk → Prop) → Prop
  | [], x, k => k [x]
  | y :: l, x, k => snocF l x (fun r => k (y :: r))
theorem snocF_spec {x : Blk} : ∀ {l : List Blk} {k : List Blk → Prop}, snocF l x k → k (l ++ [x])
  | [], _, h => h
  | _ :: l, k, h => snocF_spec (l := l) h
def unsnocF (A : Ass) : List Blk → (List Blk → Prop) → Prop
  | [], _ => False
  | [.ext _ B], k => B = A ∧ k []
  | x :: y :: l, k => unsnocF A (y :: l) (fun r => k (x :: r))
  | [.blk _ _ _ _], _ => False
theorem unsnocF_spec {A : Ass} : ∀ {l : List Blk} {k : List Blk → Prop}, unsnocF A l k → ∃ l' i, l = l' ++ [.ext i A] ∧ k l'
  | [], _, h => h.elim
  | [.ext i B], k, h => by obtain ⟨rfl, h⟩ := h; exact ⟨[], i, rfl, h⟩
  | [.blk _ _ _ _], _, h => h.elim
  | x :: y :: l, k, h => by
    simp only [unsnocF] at h
    obtain ⟨l', i, h1, h2⟩ := unsnocF_spec h
    exact ⟨x :: l', i, by rw [h1]; rfl, h2⟩
def inK (c : Cx) (A : Ass) (rs : List ResultVar) (nx : K1) : KC := fun e E H => match e with
  | .exit _ => False
  | _ => resF c E H rs (fun l => unsnocF A H (fun H => match l with
    | [s] => nx s H
    | l => nx (.tup l) H))
theorem Kn.pack {W S ms H w} (h : Kn W S ms H w) : Kn W S [] (H ++ [.ext 0 (AssL (ms.map DB))]) w := by
  have h0 : Kn0 W S (ms.map DB ++ H) w := h
  have h1 : HSub (.ext 0 (AssL (ms.map DB)) :: H) (ms.map DB ++ H) := (HSub.join (i := 0)).app2 (HSub.refl H)
  exact (h0.hsub h1).hsub (HSub.snoc _ _)
theorem Kn.unpack {W S ms H w i} (h : Kn W S [] (H ++ [.ext i (AssL (ms.map DB))]) w) : Kn W S ms H w := by
  have h0 : Kn0 W S (H ++ [.ext i (AssL (ms.map DB))]) w := h
  have h1 : HSub (.ext i (AssL (ms.map DB)) :: H) (H ++ [.ext i (AssL (ms.map DB))]) := HSub.perm (by
    have := (List.perm_append_comm (l₁ := [Blk.ext i (AssL (ms.map DB))]) (l₂ := H)); simpa using this.symm)
  have h2 : HSub (ms.map DB ++ H) (.ext i (AssL (ms.map DB)) :: H) := (HSub.unjoin (i := i)).app2 (HSub.refl H)
  exact (h0.hsub h1).hsub h2
theorem CallK.inline {P : Program} {T : TR} {n n' : Nat} {W : World} {S : Nat → Prop} {r : Option Nat} {hT : TOk P T} {g : FuncId} {args : List SV} {H : List Blk} {nx : K1} {fn : Func} {x : Code} {rs : List ResultVar}
    (hf : P.funcs[g]? = some fn) (hb : fn.body = some x) (hnm : (fn.name == "runtime.NumGoroutine") = false) (hn : fn.ntmps = n')
    (hlen : Nat.ble (lenL args) n' = true) (hrs : fn.results.toList = rs)
    (h : ∀ A : Ass, snocF H (.ext 0 A) (fun H' => envF 0 args (fun E => Run ⟨P, T, n', W, S, none, hT⟩ x E H' (inK ⟨P, T, n', W, S, none, hT⟩ A rs nx)))) :
    CallK ⟨P, T, n, W, S, r, hT⟩ g args H nx := by
  refine CallK.gen fun ms w hk => ?_
  have hk' := Kn.pack hk
  have h1 := snocF_spec (h (AssL (ms.map DB)))
  refine enter_sound hT hf hb hnm hn args hk' hlen hrs ?_
  have h2 := envF_spec h1
  have key : ∀ (l : List SV) (m : Nat) (k : Env → Prop), k ((l.zipIdx m).map fun p => (p.2, p.1)) → envF m l k := by
    intro l
    induction l with
    | nil => intro m k h; exact h
    | cons s l ih => intro m k h; exact ih (m + 1) _ (by simpa [List.zipIdx_cons] using h)
  refine key _ _ _ (Run.of fun ms' a w ha hk => wpIn_mono (Run.out h2 ms' a w ha hk) ?_)
  have go : ∀ (e : Ex) (E : Env) (H' : List Blk), inK ⟨P, T, n', W, S, none, hT⟩ (AssL (ms.map DB)) rs nx e E H' →
      endF ⟨P, T, n', W, S, none, hT⟩ rs (fun e w' => ∃ s H', e = .returned (den s) ∧ Kn W S ms H' w' ∧ nx s H') e E H' := by
    intro e E H' h
    have mono : ∀ (rs : List ResultVar) (k k' : List SV → Prop), (∀ l, k l → k' l) → resF ⟨P, T, n', W, S, none, hT⟩ E H' rs k → resF ⟨P, T, n', W, S, none, hT⟩ E H' rs k' := by
      intro rs
      induction rs with
      | nil => intro k k' hkk h; exact hkk _ h
      | cons r rs ih =>
        intro k k' hkk h
        cases r with
        | tmp t =>
          simp only [resF] at h ⊢
          split at h
          · rename_i s hs; exact ih _ _ (fun l => hkk _) h
          · exact h.elim
        | cell p t =>
          simp only [resF] at h ⊢
          split at h
          · rename_i b i off hs
            have fm : ∀ (Hx : List Blk) (f f' : Nat → List SV → Prop), (∀ b cs, f b cs → f' b cs) → findF i Hx f → findF i Hx f' := by
              intro Hx
              induction Hx with
              | nil => intro f f' _ h; exact h
              | cons x Hx ihx =>
                intro f f' hff h
                cases x with
                | blk j b cs t =>
                  simp only [findF] at h ⊢
                  cases hb : Nat.beq j i with
                  | true => rw [hb] at h; exact hff _ _ h
                  | false => rw [hb] at h; exact ihx f f' hff h
                | ext j A => exact ihx f f' hff h
            refine fm H' _ _ ?_ h
            rintro b' cs ⟨rfl, g⟩
            refine ⟨rfl, ?_⟩
            unfold loadF at g ⊢
            split at g
            · rename_i ti hti
              cases hag : TypeDesc.isAgg ti.desc with
              | true =>
                rw [hag] at g
                have dm : ∀ (n : Nat) (l : List SV) (f f' : List SV → Prop), (∀ l, f l → f' l) → dropF n l f → dropF n l f' := by
                  intro n
                  induction n with
                  | zero => intro l f f' hff h; exact hff _ h
                  | succ n ihn => intro l f f' hff h; cases l with
                    | nil => exact h
                    | cons x l => exact ihn l f f' hff h
                have tm : ∀ (n : Nat) (l : List SV) (f f' : List SV → Prop), (∀ l, f l → f' l) → takeF n l f → takeF n l f' := by
                  intro n
                  induction n with
                  | zero => intro l f f' hff h; exact hff _ h
                  | succ n ihn => intro l f f' hff h; cases l with
                    | nil => exact h
                    | cons x l => exact ihn l _ _ (fun l => hff _) h
                simp only [cond_true] at g ⊢
                exact dm _ _ _ _ (fun l => tm _ _ _ _ (fun l h => ih _ _ (fun l => hkk _) h)) g
              | false =>
                rw [hag] at g
                have nm : ∀ (n : Nat) (l : List SV) (f f' : SV → Prop), (∀ s, f s → f' s) → nthF n l f → nthF n l f' := by
                  intro n
                  induction n with
                  | zero => intro l f f' hff h; cases l with
                    | nil => exact h
                    | cons x l => exact hff _ h
                  | succ n ihn => intro l f f' hff h; cases l with
                    | nil => exact h
                    | cons x l => exact ihn l f f' hff h
                simp only [cond_false] at g ⊢
                exact nm _ _ _ _ (fun s h => ih _ _ (fun l => hkk _) h) g
            · exact g.elim
          · exact h.elim
    have fin : ∀ l : List SV, unsnocF (AssL (ms.map DB)) H' (fun H => match l with | [s] => nx s H | l => nx (.tup l) H) →
        match l with
        | [s] => FinK ⟨P, T, n', W, S, none, hT⟩ (fun e w' => ∃ s H', e = .returned (den s) ∧ Kn W S ms H' w' ∧ nx s H') s H'
        | l => FinK ⟨P, T, n', W, S, none, hT⟩ (fun e w' => ∃ s H', e = .returned (den s) ∧ Kn W S ms H' w' ∧ nx s H') (.tup l) H' := by
      intro l h
      obtain ⟨H2, i, e2, g⟩ := unsnocF_spec h
      subst e2
      match l, g with
      | [], g => exact FinK.mk fun w hk => ⟨_, H2, rfl, Kn.unpack hk, g⟩
      | [s], g => exact FinK.mk fun w hk => ⟨_, H2, rfl, Kn.unpack hk, g⟩
      | s :: t :: l, g => exact FinK.mk fun w hk => ⟨_, H2, rfl, Kn.unpack hk, g⟩
    cases e with
    | exit j => exact h
    | nrm => exact mono rs _ _ fin h
    | ret => exact mono rs _ _ fin h
  intro e a w hq
  cases e with
  | normal => obtain ⟨ms', E, H', h1, h2, h3⟩ := hq; exact ⟨ms', E, H', h1, h2, go .nrm E H' h3⟩
  | ret => obtain ⟨ms', E, H', h1, h2, h3⟩ := hq; exact ⟨ms', E, H', h1, h2, go .ret E H' h3⟩
  | exit j => obtain ⟨ms', E, H', h1, h2, h3⟩ := hq; exact ⟨ms', E, H', h1, h2, go (.exit j) E H' h3⟩
  | goto j => exact hq
  | panic j => exact hq
  | outgrown => exact hq
section
variable {c : Cx}
def Rounds (c : Cx) (b : Code) (k : KC) : Nat → KE
  | 0, _, _ => False
  | m + 1, E, H => Run c b E H (thenK (Rounds c b k m) k)
theorem Rounds.out {b : Code} {k : KC} : ∀ {m : Nat} {E : Env} {H : List Blk}, Rounds c b k m E H → ∀ ms a w, Has c.n ms E a → Kn c.W c.S ms H w → Code.roundsIn c.F 0 c.P b (QC c k) m a w
  | 0, _, _, h, _, _, _, _, _ => h.elim
  | m + 1, E, H, h, ms, a, w, ha, hk => by
    rw [roundsIn_succ]
    refine wpIn_mono (Run.out h ms a w ha hk) ?_
    intro e a' w' hq
    cases e with
    | normal =>
      obtain ⟨ms', E', H', h1, h2, h3⟩ := hq
      exact Rounds.out h3 ms' a' w' h1 h2
    | ret => exact hq
    | exit j => exact hq
    | goto j => exact hq
    | panic j => exact hq
    | outgrown => exact hq
theorem r_rounds (m : Nat) {b : Code} {E : Env} {H : List Blk} {k : KC} (h : Rounds c b k m E H) : Run c (.loop b) E H k :=
  .of fun ms a w ha hk => wpIn_loop_rounds m (h.out ms a w ha hk)
theorem Rounds.step {m : Nat} {b : Code} {E : Env} {H : List Blk} {k : KC} (h : ∀ KL : KE, (∀ E H, Rounds c b k m E H → KL E H) → Run c b E H (thenK KL k)) : Rounds c b k (m + 1) E H :=
  h _ fun _ _ h => h
theorem Run.open {α : Type} {x : Code} {E : Env} {H : List Blk} {k : KC} {A B : List Blk} (HZ : α → List Blk) (hA : ∀ w S, Holds w H S → ∃ z S', Holds w (HZ z) S' ∧ ∀ k, S' k → S k)
    (h : ∀ z, Run c x E (HZ z) k) : Run c x E H k := by
  refine .of fun ms a w ha hk => ?_
  obtain ⟨T, hT, ho⟩ := Kn0.foot hk
  obtain ⟨TM, TH, h1, h2, h3, h4⟩ := hT.split _ _
  obtain ⟨z, S', h5, h6⟩ := hA w TH h2
  obtain ⟨T', h7, h8⟩ := Holds.glue _ _ h1 h5 (fun k hk hk' => h3 k hk (h6 k hk'))
  refine Run.out (h z) ms a w ha ⟨Kn0.os hk, Kn0.tape hk, Kn0.output hk, Kn0.size hk, Kn0.old hk, T', h7, fun k hk => ho k ((h4 k).2 (((h8 k).1 hk).imp id (h6 k)))⟩
end
attribute [irreducible] Rounds
end Go.X
