/- Contracts and lemmas for the claim (part XE37); no condition of its own. -/
import Derived.Test.YtbgnoibellfojaaGreatDoorXE36
set_option linter.all false
set_option linter.unusedVariables false
set_option linter.unusedSimpArgs false
set_option linter.unnecessarySimpa false
namespace Go.X
open Go
/-- a node of a region's orders: what is left to do, what is done, and what is known there -/
structure Node (α : Type) where
  fuel : Nat
  done : List Bool
  env : α → Env
  mem : α → List Blk
def eqLB : List Bool → List Bool → Bool
  | [], [] => true
  | a :: l, b :: r => cond a (cond b (eqLB l r) false) (cond b false (eqLB l r))
  | _, _ => false
theorem eqLB_eq : ∀ {l r : List Bool}, eqLB l r = true → l = r
  | [], [], _ => rfl
  | [], _ :: _, h => by cases h
  | _ :: _, [], h => by cases h
  | a :: l, b :: r, h => by
    cases a <;> cases b <;> simp only [eqLB, cond_true, cond_false] at h
    · rw [eqLB_eq h]
    · cases h
    · cases h
    · rw [eqLB_eq h]
def findN {α : Type} (n : Nat) (l : List Bool) : List (Node α) → Option (Node α)
  | [] => none
  | q :: qs => cond (Nat.beq q.fuel n) (cond (eqLB q.done l) (some q) (findN n l qs)) (findN n l qs)
theorem findN_spec {α : Type} {n : Nat} {l : List Bool} : ∀ {qs : List (Node α)} {q : Node α}, findN n l qs = some q → q ∈ qs ∧ q.fuel = n ∧ q.done = l
  | [], _, h => by cases h
  | p :: qs, q, h => by
    unfold findN at h
    cases h1 : Nat.beq p.fuel n with
    | false =>
      rw [h1] at h
      obtain ⟨a, b⟩ := findN_spec (qs := qs) h
      exact ⟨List.mem_cons_of_mem _ a, b⟩
    | true =>
      rw [h1] at h
      cases h2 : eqLB p.done l with
      | false =>
        rw [h2] at h
        obtain ⟨a, b⟩ := findN_spec (qs := qs) h
        exact ⟨List.mem_cons_of_mem _ a, b⟩
      | true =>
        rw [h2] at h
        simp only [cond_true, Option.some.injEq] at h
        subst h
        exact ⟨List.mem_cons_self, Nat.eq_of_beq_eq_true h1, eqLB_eq h2⟩
def anyC {α : Type} (c : Cx) (all : List Oper) (k : KE) (qs : List (Node α)) (C : (α → Env) → (α → List Blk) → KE) : Nat → List Bool → Env → List Blk → Prop
  | 0, listed, E, H => readyF listed 0 all (fun rs => match rs with | [] => k E H | _ => False)
  | fuel + 1, listed, E, H => readyF listed 0 all (fun rs => match rs with
    | [] => k E H
    | rs => pickF rs (fun i o => setBF listed i (fun l' => InAt c all o E (fun E => match findN fuel l' qs with | some q => C q.env q.mem E H | none => anyC c all k qs C fuel l' E H)))
             (allF rs (fun i o => setBF listed i (fun l' => AnyAt c all o E H (fun E H => match findN fuel l' qs with | some q => C q.env q.mem E H | none => anyC c all k qs C fuel l' E H)))))
/-- what the rest of the orders comes to -/
def AnyR (c : Cx) (all : List Oper) (kc : KC) (n : Nat) (l : List Bool) (E : Env) (H : List Blk) : Prop := ∀ ms a w, Has c.n ms E a → Kn c.W c.S ms H w → wpAnyIn c.F 0 c.P .any all.toArray (QC c kc) n l.toArray a w
theorem AnyR.weaken {c : Cx} {all : List Oper} {kc : KC} {n : Nat} {l : List Bool} {E E' : Env} {H H' : List Blk} (h : AnyR c all kc n l E' H') (hE : SubD E' E) (hH : HSub H' H) : AnyR c all kc n l E H :=
  fun ms a w ha hk => h ms a w (ha.subD hE) (hk.hsub hH)
theorem anyC_sound {α : Type} {c : Cx} (hT : TOk c.P c.T) {all : List Oper} {k : KE} {kc : KC} (hnd : noDef all = true) (hfr : freeB all = true) {qs : List (Node α)} {C : (α → Env) → (α → List Blk) → KE}
    (hQ : ∀ ms E H a w, k E H → Has c.n ms E a → Kn c.W c.S ms H w → QC c kc .normal a w) :
    ∀ (fuel : Nat), (∀ n l q E H, n < fuel → findN n l qs = some q → C q.env q.mem E H → AnyR c all kc n l E H) → ∀ (listed : List Bool) (E : Env) (H : List Blk), anyC c all k qs C fuel listed E H → AnyR c all kc fuel listed E H := by
  have hnil : ∀ {listed : List Bool}, readyL listed 0 all = [] → Region.ready .any all.toArray listed.toArray = [] := by
    intro listed h
    refine List.eq_nil_iff_forall_not_mem.2 fun i hi => ?_
    obtain ⟨o, ho⟩ := mem_readyL0.1 hi
    rw [h] at ho; cases ho
  intro fuel
  induction fuel with
  | zero =>
    intro _ listed E H h ms a w ha hk
    have h := readyF_spec h
    split at h
    · rename_i hr
      exact wpAnyIn_done (hnil hr) (hQ ms E H a w h ha hk) 0
    · exact h.elim
  | succ fuel ih =>
    intro hC listed E H h ms a w ha hk
    have ih' := ih fun n l q E H hn hf h => hC n l q E H (by omega) hf h
    have hstep : ∀ (l' : List Bool) (E : Env) (H : List Blk), (match findN fuel l' qs with | some q => C q.env q.mem E H | none => anyC c all k qs C fuel l' E H) → AnyR c all kc fuel l' E H := by
      intro l' E H h
      split at h
      · rename_i q hq
        exact hC fuel l' q E H (by omega) hq h
      · exact ih' l' E H h
    have h := readyF_spec h
    split at h
    · rename_i hr
      exact wpAnyIn_done (hnil hr) (hQ ms E H a w h ha hk) (fuel + 1)
    · rename_i hne
      rcases pickF_spec h with ⟨⟨i, o⟩, hmem, hin, h⟩ | h
      · have h := setBF_spec h
        obtain ⟨v, E', h1, h2, h3⟩ := iG_spec hT hin (h.get _ (fun _ h => h)) ha
        obtain ⟨_, ho, hun, hr⟩ := mem_readyL.1 hmem
        simp only [Nat.sub_zero] at ho
        have hnext := hstep _ E' H h3 ms _ w h2 hk
        have h4 := (wpAnyIn_round hnd _ _ _ _).1 hnext
        refine (wpAnyIn_round hnd _ _ _ _).2 (wpAnyIn_first rfl (by simpa using ho) (fun j o cs b hj => Region.noSelect_spec (by have := hfr; simp only [freeB, Bool.and_eq_true] at this; exact this.1) j o cs b hj) ?_ fuel listed.toArray a w ?_ ?_ h1 ?_)
        · intro c a w h; exact h
        · intro j oj hj hji hunj hno
          refine freeB_spec hfr ho hin (by simpa using hj) hji hno fun e he hb heq => ?_
          have := hr e he hb
          rw [heq] at this
          simp only [Array.getD_eq_getD_getElem?, List.getElem?_toArray] at hunj this
          cases hj' : listed[j]? with
          | none => rw [hj'] at this; cases this
          | some b => rw [hj'] at this hunj; simp at this hunj; rw [this] at hunj; cases hunj
        · exact mem_readyL0.2 ⟨o, hmem⟩
        · simpa using h4
      · have hall := allF_spec h
        refine ⟨fun h0 => ?_, fun i hi => ?_⟩
        · exfalso
          cases hr : readyL listed 0 all with
          | nil => exact hne hr
          | cons p rs =>
            have : p.1 ∈ Region.ready .any all.toArray listed.toArray := mem_readyL0.2 ⟨p.2, by rw [hr]; simp⟩
            rw [h0] at this; cases this
        · obtain ⟨o, ho⟩ := mem_readyL0.1 hi
          have h1 := setBF_spec (hall (i, o) ho)
          obtain ⟨_, ho', _, _⟩ := mem_readyL.1 ho
          simp only [Nat.sub_zero] at ho'
          unfold wpOpIn
          simp only [List.getElem?_toArray, ho']
          refine opG_sound hT (h1.get _ (fun _ _ h => h)) ha hk fun E H h ms a w ha hk => ?_
          simpa using hstep _ E H h ms a w ha hk
def allN {α : Type} : List (Node α) → (Node α → Prop) → Prop
  | [], _ => True
  | [q], f => f q
  | q :: qs, f => f q ∧ allN qs f
theorem allN_spec {α : Type} {qs : List (Node α)} {f : Node α → Prop} (h : allN qs f) : ∀ q ∈ qs, f q := by
  induction qs with
  | nil => simp
  | cons p rs ih =>
    cases rs with
    | nil => simpa [allN] using h
    | cons q rs =>
      simp only [allN] at h
      intro x hx
      rcases List.mem_cons.1 hx with rfl | hx
      · exact h.1
      · exact ih h.2 x hx
/-- A REGION IN ANY ORDER, with nodes where orders meet -/
theorem r_dag {α : Type} (qs : List (Node α)) {c : Cx} {id : Nat} {l : List Oper} {E : Env} {H : List Blk} {k : KC} (hm : c.P.follows .mixedOrders = true) (hnd : noDef l = true) (hfr : freeB l = true)
    (h0 : ∀ KL : (α → Env) → (α → List Blk) → KE, (∀ I M z E' H', SubD (I z) E' → HSub (M z) H' → KL I M E' H') → anyC c l (k .nrm) qs KL l.length (List.replicate l.length false) E H)
    (hs : ∀ KL : (α → Env) → (α → List Blk) → KE, (∀ I M z E' H', SubD (I z) E' → HSub (M z) H' → KL I M E' H') → allN qs (fun q => ∀ z, anyC c l (k .nrm) qs KL q.fuel q.done (q.env z) (q.mem z))) :
    Run c (.region id l.toArray true) E H k := by
  have hQ : ∀ ms E H a w, k .nrm E H → Has c.n ms E a → Kn c.W c.S ms H w → QC c k .normal a w := fun ms E H a w h ha hk => ⟨ms, E, H, ha, hk, h⟩
  have key : ∀ N n, n < N → ∀ q ∈ qs, q.fuel = n → ∀ z, AnyR c l k n q.done (q.env z) (q.mem z) := by
    intro N
    induction N with
    | zero => intro n hn; omega
    | succ N ih =>
      intro n hn q hq hqn z
      subst hqn
      refine anyC_sound c.ok hnd hfr hQ q.fuel (C := fun I M E H => ∃ z, SubD (I z) E ∧ HSub (M z) H) ?_ _ _ _ (allN_spec (hs _ fun I M z E' H' h1 h2 => ⟨z, h1, h2⟩) q hq z)
      rintro n' l' q' E H hn' hf ⟨z', h1, h2⟩
      obtain ⟨m1, m2, rfl⟩ := findN_spec hf
      exact (ih n' (by omega) q' m1 m2 z').weaken h1 h2
  refine .of fun ms a w ha hk => ?_
  refine wpIn_region_any hm ?_
  have := anyC_sound c.ok hnd hfr hQ l.length (qs := qs) (C := fun I M E H => ∃ z, SubD (I z) E ∧ HSub (M z) H) (by
    rintro n' l' q' E H hn' hf ⟨z', h1, h2⟩
    obtain ⟨m1, m2, rfl⟩ := findN_spec hf
    exact (key (n' + 1) n' (by omega) q' m1 m2 z').weaken h1 h2) _ _ _ (h0 _ fun I M z E' H' h1 h2 => ⟨z, h1, h2⟩) ms a _ ha (Kn.drawn hk)
  simpa using this
end Go.X
