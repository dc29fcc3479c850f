/- Contracts and lemmas for the claim (part XE38); no condition of its own. -/
import Derived.Test.YtbgnoibellfojaaGreatDoorXE37
set_option linter.all false
set_option linter.unusedVariables false
set_option linter.unusedSimpArgs false
set_option linter.unnecessarySimpa false
namespace Go.X
open Go
/-- what one operation of a region does by itself: its number, those that it waits for, its value, and the blocks that it makes -/
structure PN (β : Type) where
  i : Nat
  deps : List Nat
  use : Option Nat
  val : List β → β → SV
  mem : List β → β → List Blk
def SV.force (s : SV) (k : SV → Prop) : Prop := match s with
  | .v x => k (.v x)
  | .loc b i o => k (.loc b i o)
  | .agg cs => k (.agg cs)
  | .tup vs => k (.tup vs)
  | .fn f cs => k (.fn f cs)
  | .slc b i o l c => k (.slc b i o l c)
theorem SV.force_eq (s : SV) (k : SV → Prop) : s.force k = k s := by cases s <;> rfl
def mapZ {β : Type} (z : Nat → β) : List Nat → List β
  | [] => []
  | j :: js => z j :: mapZ z js
theorem mapZ_congr {β : Type} {z z' : Nat → β} : ∀ {js : List Nat}, (∀ j ∈ js, z j = z' j) → mapZ z js = mapZ z' js
  | [], _ => rfl
  | j :: js, h => by
    simp only [mapZ]
    rw [h j (by simp), mapZ_congr (fun k hk => h k (by simp [hk]))]
def PN.v {β : Type} (p : PN β) (z : Nat → β) : SV := p.val (mapZ z p.deps) (z p.i)
def PN.m {β : Type} (p : PN β) (z : Nat → β) : List Blk := p.mem (mapZ z p.deps) (z p.i)
def findP {β : Type} (j : Nat) : List (PN β) → Option (PN β)
  | [] => none
  | p :: ps => cond (Nat.beq p.i j) (some p) (findP j ps)
theorem findP_spec {β : Type} {j : Nat} : ∀ {ps : List (PN β)} {p : PN β}, findP j ps = some p → p ∈ ps ∧ p.i = j
  | [], _, h => by cases h
  | q :: ps, p, h => by
    simp only [findP] at h
    cases hb : Nat.beq q.i j with
    | true => rw [hb] at h; simp only [cond_true, Option.some.injEq] at h; subst h; exact ⟨by simp, Nat.eq_of_beq_eq_true hb⟩
    | false => rw [hb] at h; obtain ⟨h1, h2⟩ := findP_spec (ps := ps) h; exact ⟨by simp [h1], h2⟩
def appB : List Blk → List Blk → (List Blk → Prop) → Prop
  | [], l, k => k l
  | x :: a, l, k => appB a l (fun r => k (x :: r))
theorem appB_eq : ∀ (a l : List Blk) (k : List Blk → Prop), appB a l k = k (a ++ l)
  | [], _, _ => rfl
  | x :: a, l, k => by simp only [appB, List.cons_append]; rw [appB_eq a l]
def idsP {β : Type} : List (PN β) → List Nat
  | [] => []
  | p :: ps => p.i :: idsP ps
def dstsP {β : Type} (all : List Oper) : List (PN β) → List Nat
  | [] => []
  | p :: ps => match dstOf all p.i with
    | some d => d :: dstsP all ps
    | none => dstsP all ps
theorem mem_idsP {β : Type} {j : Nat} : ∀ {ps : List (PN β)}, j ∈ idsP ps ↔ ∃ p ∈ ps, p.i = j
  | [] => by simp [idsP]
  | p :: ps => by
    simp only [idsP, List.mem_cons]
    rw [mem_idsP (ps := ps)]
    constructor
    · rintro (rfl | ⟨q, h1, h2⟩)
      · exact ⟨p, .inl rfl, rfl⟩
      · exact ⟨q, .inr h1, h2⟩
    · rintro ⟨q, rfl | h1, h2⟩
      · exact .inl h2.symm
      · exact .inr ⟨q, h1, h2⟩
theorem mem_dstsP {β : Type} {all : List Oper} {p : PN β} {d : Nat} : ∀ {ps : List (PN β)}, p ∈ ps → dstOf all p.i = some d → d ∈ dstsP all ps
  | q :: ps, h, hd => by
    rcases List.mem_cons.1 h with rfl | h
    · simp [dstsP, hd]
    · have := mem_dstsP h hd
      simp only [dstsP]
      split
      · simp [this]
      · exact this
def dropK (ds : List Nat) : Env → Env
  | [] => []
  | (t, s) :: E => cond (memN t ds) (dropK ds E) ((t, s) :: dropK ds E)
def dropKF (ds : List Nat) : Env → (Env → Prop) → Prop
  | [], k => k []
  | (t, s) :: E, k => cond (memN t ds) (dropKF ds E k) (dropKF ds E (fun E' => k ((t, s) :: E')))
theorem dropKF_eq (ds : List Nat) : ∀ (E : Env) (k : Env → Prop), dropKF ds E k = k (dropK ds E)
  | [], _ => rfl
  | (t, s) :: E, k => by
    simp only [dropKF, dropK]
    cases memN t ds <;> simp only [cond_true, cond_false] <;> rw [dropKF_eq ds E]
theorem memN_iff {t : Nat} {l : List Nat} : memN t l = true ↔ t ∈ l := by
  constructor
  · exact memN_spec
  · intro h
    induction l with
    | nil => cases h
    | cons u l ih =>
      unfold memN
      rcases List.mem_cons.1 h with rfl | h
      · simp
      · have := ih h
        first
          | (cases hb : Nat.beq u t <;> simp [hb, this])
          | (cases hb : Nat.beq t u <;> simp [hb, this])
          | simp [this]
theorem look_dropK {ds : List Nat} {t : Nat} {s : SV} : ∀ {E : Env}, look t (dropK ds E) = some s → look t E = some s ∧ t ∉ ds
  | [], h => by cases h
  | (u, x) :: E, h => by
    simp only [dropK] at h
    cases hm : memN u ds with
    | true =>
      rw [hm] at h
      obtain ⟨h1, h2⟩ := look_dropK (E := E) h
      refine ⟨?_, h2⟩
      have hu := memN_iff.1 hm
      simp only [look]
      cases hb : Nat.beq u t with
      | true => exact absurd (Nat.eq_of_beq_eq_true hb ▸ hu) h2
      | false => exact h1
    | false =>
      rw [hm] at h
      simp only [cond_false, look] at h ⊢
      cases hb : Nat.beq u t with
      | true =>
        rw [hb] at h
        refine ⟨h, fun hu => ?_⟩
        rw [← Nat.eq_of_beq_eq_true hb] at hu
        rw [memN_iff.2 hu] at hm; cases hm
      | false => rw [hb] at h; exact look_dropK (E := E) h
def bindE {β : Type} (all : List Oper) (ps : List (PN β)) (z : Nat → β) : List Nat → Env → Env
  | [], E => E
  | j :: js, E => match findP j ps with
    | some p => (match dstOf all j with
      | some d => (d, p.v z) :: bindE all ps z js E
      | none => bindE all ps z js E)
    | none => bindE all ps z js E
def bindF {β : Type} (all : List Oper) (ps : List (PN β)) (z : Nat → β) : List Nat → Env → (Env → Prop) → Prop
  | [], E, k => k E
  | j :: js, E, k => match findP j ps with
    | some p => (match dstOf all j with
      | some d => SV.force (p.val (mapZ z p.deps) (z p.i)) (fun s => bindF all ps z js E (fun E' => k ((d, s) :: E')))
      | none => bindF all ps z js E k)
    | none => bindF all ps z js E k
theorem bindF_eq {β : Type} (all : List Oper) (ps : List (PN β)) (z : Nat → β) : ∀ (js : List Nat) (E : Env) (k : Env → Prop), bindF all ps z js E k = k (bindE all ps z js E)
  | [], _, _ => rfl
  | j :: js, E, k => by
    simp only [bindF, bindE]
    split
    · split
      · rw [SV.force_eq, bindF_eq all ps z js]; rfl
      · rw [bindF_eq all ps z js]
    · rw [bindF_eq all ps z js]
theorem Has.consV {n ds E a} {t : Nat} {s : SV} (h : Has n ds E a) (ht : a.tmps.getD t undef = den s) : Has n ds ((t, s) :: E) a := by
  refine ⟨h.size, h.defers, fun u x hx => ?_⟩
  simp only [look] at hx
  cases hb : Nat.beq t u with
  | true => rw [hb] at hx; simp only [cond_true, Option.some.injEq] at hx; subst hx; rw [← Nat.eq_of_beq_eq_true hb]; exact ht
  | false => rw [hb] at hx; exact h.get u x hx
theorem Has.bindE {β : Type} {n ds E a} {all : List Oper} {ps : List (PN β)} {z : Nat → β} (h : Has n ds E a) : ∀ {js : List Nat}, (∀ j ∈ js, ∀ p d, findP j ps = some p → dstOf all j = some d → a.tmps.getD d undef = den (p.v z)) → Has n ds (bindE all ps z js E) a
  | [], _ => h
  | j :: js, hj => by
    have ih := Has.bindE (all := all) (ps := ps) (z := z) h (js := js) (fun j' h' => hj j' (by simp [h']))
    unfold X.bindE
    split
    · rename_i p hp
      split
      · rename_i d hd
        exact ih.consV (hj j (by simp) p d hp hd)
      · exact ih
    · exact ih
def memL {β : Type} (z : Nat → β) : List (PN β) → List Blk → List Blk
  | [], H => H
  | p :: ps, H => p.m z ++ memL z ps H
def memF {β : Type} (z : Nat → β) : List (PN β) → List Blk → (List Blk → Prop) → Prop
  | [], H, k => k H
  | p :: ps, H, k => memF z ps H (fun r => appB (p.mem (mapZ z p.deps) (z p.i)) r k)
theorem memF_eq {β : Type} (z : Nat → β) : ∀ (ps : List (PN β)) (H : List Blk) (k : List Blk → Prop), memF z ps H k = k (memL z ps H)
  | [], _, _ => rfl
  | p :: ps, H, k => by simp only [memF, memL]; rw [memF_eq z ps H, appB_eq]; rfl
theorem memL_perm {β : Type} (z : Nat → β) (H : List Blk) {ps qs : List (PN β)} (h : ps.Perm qs) : (memL z ps H).Perm (memL z qs H) := by
  induction h with
  | nil => exact List.Perm.refl _
  | cons p _ ih => simp only [memL]; exact ih.append_left _
  | swap p q l =>
    simp only [memL, ← List.append_assoc]
    exact List.Perm.append_right _ List.perm_append_comm
  | trans _ _ ih1 ih2 => exact ih1.trans ih2
theorem memL_app {β : Type} (z : Nat → β) : ∀ (ps : List (PN β)) (H : List Blk), memL z ps H = memL z ps [] ++ H
  | [], H => rfl
  | p :: ps, H => by simp only [memL, List.append_assoc]; rw [memL_app z ps H]
theorem memL_congr {β : Type} {z z' : Nat → β} {H : List Blk} : ∀ {ps : List (PN β)}, (∀ p ∈ ps, p.m z = p.m z') → memL z ps H = memL z' ps H
  | [], _ => rfl
  | p :: ps, h => by
    simp only [memL]
    rw [h p (by simp), memL_congr (fun q hq => h q (by simp [hq]))]
def markF (ids : List Nat) : Nat → Nat → (List Bool → Prop) → Prop
  | _, 0, k => k []
  | i, n + 1, k => cond (memN i ids) (markF ids (Nat.succ i) n (fun l => k (true :: l))) (markF ids (Nat.succ i) n (fun l => k (false :: l)))
def markL (ids : List Nat) : Nat → Nat → List Bool
  | _, 0 => []
  | i, n + 1 => memN i ids :: markL ids (Nat.succ i) n
theorem markF_eq (ids : List Nat) : ∀ (n i : Nat) (k : List Bool → Prop), markF ids i n k = k (markL ids i n)
  | 0, _, _ => rfl
  | n + 1, i, k => by
    simp only [markF, markL]
    cases memN i ids <;> simp only [cond_true, cond_false] <;> rw [markF_eq ids n]
theorem markL_length (ids : List Nat) : ∀ (n i : Nat), (markL ids i n).length = n
  | 0, _ => rfl
  | n + 1, i => by simp [markL, markL_length ids n]
theorem markL_get (ids : List Nat) : ∀ (n i j : Nat), j < n → (markL ids i n)[j]? = some (memN (i + j) ids)
  | 0, _, _, h => by omega
  | n + 1, i, 0, _ => by simp [markL]
  | n + 1, i, j + 1, h => by
    simp only [markL, List.getElem?_cons_succ]
    rw [markL_get ids n _ j (by omega)]
    congr 2
    omega
def nthO : Nat → List Oper → (Oper → Prop) → Prop
  | 0, o :: _, k => k o
  | n + 1, _ :: l, k => nthO n l k
  | _, [], _ => False
theorem nthO_spec : ∀ {n : Nat} {l : List Oper} {k : Oper → Prop}, nthO n l k → ∃ o, l[n]? = some o ∧ k o
  | 0, o :: _, k, h => ⟨o, rfl, h⟩
  | n + 1, _ :: l, k, h => by simpa using nthO_spec (n := n) (l := l) h
  | 0, [], _, h => h.elim
  | _ + 1, [], _, h => h.elim
def dstE {β : Type} (all : List Oper) (p : PN β) (s : SV) : Env := match dstOf all p.i with
  | some d => [(d, s)]
  | none => []
def useF {β : Type} (ps : List (PN β)) (z : Nat → β) (u : Option Nat) (H : List Blk) (k : List Blk → Prop) : Prop := match u with
  | none => k H
  | some u => match findP u ps with
    | some q => appB (q.mem (mapZ z q.deps) (z q.i)) H k
    | none => False
/-- what is owed for one operation -/
def specP {β : Type} (c : Cx) (all : List Oper) (ps qs : List (PN β)) (E0 : Env) (H : List Blk) (p : PN β) : Prop :=
  nthO p.i all (fun o => ∀ (z : Nat → β) (A : Ass) (K' : KE), (∀ ζ E' H', SubD (dstE all p (p.val (mapZ z p.deps) ζ)) E' → HSub (p.mem (mapZ z p.deps) ζ ++ (H ++ [.ext 900 A])) H' → K' E' H') →
    bindF all ps z p.deps E0 (fun E1 => useF (ps ++ qs) z p.use H (fun H0 => snocF H0 (.ext 900 A) (fun H1 => opG c all o E1 H1 K'))))
def allP {β : Type} : List (PN β) → (PN β → Prop) → Prop
  | [], _ => True
  | [q], f => f q
  | q :: qs, f => f q ∧ allP qs f
theorem allP_spec {β : Type} {qs : List (PN β)} {f : PN β → Prop} (h : allP qs f) : ∀ q ∈ qs, f q := by
  induction qs with
  | nil => simp
  | cons p rs ih =>
    cases rs with
    | nil => simpa [allP] using h
    | cons q rs =>
      simp only [allP] at h
      intro x hx
      rcases List.mem_cons.1 hx with rfl | hx
      · exact h.1
      · exact ih h.2 x hx
def nodupB : List Nat → Bool
  | [] => true
  | x :: l => !memN x l && nodupB l
def usesP {β : Type} : List (PN β) → List Nat
  | [] => []
  | p :: ps => match p.use with
    | some u => u :: usesP ps
    | none => usesP ps
def parB {β : Type} (all : List Oper) (ps qs : List (PN β)) (t : Nat) : Bool :=
  noDef all && Nat.beq (ps.length + t) all.length && nodupB (idsP ps) && nodupB (dstsP all ps) &&
  ps.all (fun p => Nat.blt p.i all.length && p.deps.all (fun j => memN j (idsP ps) && depB all all.length p.i j) && (match all[p.i]? with
    | some o => o.after.toList.all (fun e => !Region.binds .any e || (Nat.blt e.on p.i && memN e.on (idsP ps)))
    | none => true)) &&
  (List.range all.length).all (fun i => memN i (idsP ps) || (idsP ps).all (fun j => depB all all.length i j)) &&
  (nodupB (usesP ps) && nodupB (idsP qs) && qs.all (fun q => Nat.ble all.length q.i && q.deps.isEmpty) &&
  ps.all (fun p => match p.use with | none => true | some u => memN u p.deps || memN u (idsP qs)))
theorem opG_sound' {c : Cx} (hT : TOk c.P c.T) {ms : List Nat} {all : List Oper} {o : Oper} {E : Env} {H : List Blk} {K : KE} {Q : Exit → Act → World → Prop} (h : opG c all o E H K) {a : Act} {w : World}
    (ha : Has c.n ms E a) (hk : Kn c.W c.S ms H w) {K' : Act → World → Prop} (hK : ∀ E H, K E H → ∀ ms v w, Has c.n ms E (a.put o.dst v) → Kn c.W c.S ms H w → K' (a.put o.dst v) w) :
    if Region.wanted o (yielded all.toArray a.tmps) = true then o.wpIn c.F 0 c.P a w K' Q else (∀ f, o.about c.P w a.eval = some f → c.F.fn f) ∧ K' (a.put o.dst undef) w := by
  unfold opG at h
  cases hok : okd c o.dst with
  | false => rw [hok] at h; exact h.elim
  | true =>
    rw [hok] at h
    simp only [cond_true] at h
    have hskip : ∀ E', (∀ (hh : Region.wanted o (yielded all.toArray a.tmps) = false), putF o.dst (.v undef) E' (fun E => K E H) → Has c.n ms E' a →
        if Region.wanted o (yielded all.toArray a.tmps) = true then o.wpIn c.F 0 c.P a w K' Q else (∀ f, o.about c.P w a.eval = some f → c.F.fn f) ∧ K' (a.put o.dst undef) w) := by
      intro E' hh h1 h2
      rw [if_neg (by rw [hh]; simp)]
      exact ⟨fun _ _ => trivial, hK _ _ (putF_spec h1) _ _ _ (okd_put hok h2 (.v undef)) hk⟩
    have hrun : ∀ E', (∀ (hh : Region.wanted o (yielded all.toArray a.tmps) = true), op1 c o E' H (fun s H => putF o.dst s E' (fun E => K E H)) → Has c.n ms E' a →
        if Region.wanted o (yielded all.toArray a.tmps) = true then o.wpIn c.F 0 c.P a w K' Q else (∀ f, o.about c.P w a.eval = some f → c.F.fn f) ∧ K' (a.put o.dst undef) w) := by
      intro E' hh h1 h2
      rw [if_pos hh]
      refine Oper.wpIn_mono ?_ (op1_sound hT h1 ms a w h2 hk Q)
      rintro a' w' ⟨s, H', rfl, h3, h4⟩
      exact hK _ _ (putF_spec h4) _ _ _ (okd_put hok h2 s) h3
    split at h
    · rename_i hg
      exact hrun E (by simp [Region.wanted, hg]) h ha
    · rename_i j want hg
      split at h
      · exact h.elim
      · rename_i dj hdj
        split at h
        · rename_i p hp
          have hv := ha.get _ _ hp
          simp only [den] at hv
          have hy := yielded_bool hdj hv
          split at h
          · cases p with
            | true => exact hrun _ (by simp [Region.wanted, hg, hy]) h (ha.lit hp rfl)
            | false => exact hskip _ (by simp [Region.wanted, hg, hy]) h (ha.lit hp rfl)
          · cases p with
            | true => exact hskip _ (by simp [Region.wanted, hg, hy]) h (ha.lit hp rfl)
            | false => exact hrun _ (by simp [Region.wanted, hg, hy]) h (ha.lit hp rfl)
        · rename_i vs hp
          have hv := ha.get _ _ hp
          simp only [den] at hv
          have hy := yielded_tuple hdj hv
          exact hskip _ (by simp [Region.wanted, hg, hy]) h ha
        · exact h.elim
theorem nodupB_spec : ∀ {l : List Nat}, nodupB l = true → l.Nodup
  | [], _ => List.nodup_nil
  | x :: l, h => by
    simp only [nodupB, Bool.and_eq_true, Bool.not_eq_true'] at h
    refine List.nodup_cons.2 ⟨fun hx => ?_, nodupB_spec h.2⟩
    rw [memN_iff.2 hx] at h; exact absurd h.1 (by simp)
theorem put_other {a : Act} {d t : Nat} {v : Value} (h : ¬ d = t) : (a.put (some d) v).tmps.getD t undef = a.tmps.getD t undef := by
  simp only [Act.put]
  simp [Array.getD_eq_getD_getElem?, h]
theorem dst_inj {β : Type} {all : List Oper} {d : Nat} : ∀ {ps : List (PN β)} {p q : PN β}, (dstsP all ps).Nodup → p ∈ ps → q ∈ ps → dstOf all p.i = some d → dstOf all q.i = some d → p = q
  | r :: ps, p, q, hn, hp, hq, h1, h2 => by
    simp only [dstsP] at hn
    have hn' : (dstsP all ps).Nodup := by
      split at hn
      · exact (List.nodup_cons.1 hn).2
      · exact hn
    rcases List.mem_cons.1 hp with rfl | hp' <;> rcases List.mem_cons.1 hq with rfl | hq'
    · rfl
    · rw [h1] at hn
      exact absurd (mem_dstsP hq' h2) (List.nodup_cons.1 hn).1
    · rw [h2] at hn
      exact absurd (mem_dstsP hp' h1) (List.nodup_cons.1 hn).1
    · exact dst_inj hn' hp' hq' h1 h2
theorem id_inj {β : Type} : ∀ {ps : List (PN β)} {p q : PN β}, (idsP ps).Nodup → p ∈ ps → q ∈ ps → p.i = q.i → p = q
  | r :: ps, p, q, hn, hp, hq, h => by
    simp only [idsP] at hn
    obtain ⟨h1, h2⟩ := List.nodup_cons.1 hn
    rcases List.mem_cons.1 hp with rfl | hp' <;> rcases List.mem_cons.1 hq with rfl | hq'
    · rfl
    · exact absurd (mem_idsP.2 ⟨q, hq', h.symm⟩) h1
    · exact absurd (mem_idsP.2 ⟨p, hp', h⟩) h1
    · exact id_inj h2 hp' hq' h
theorem use_inj {β : Type} {u : Nat} : ∀ {ps : List (PN β)} {p q : PN β}, (usesP ps).Nodup → p ∈ ps → q ∈ ps → p.use = some u → q.use = some u → p = q
  | r :: ps, p, q, hn, hp, hq, h1, h2 => by
    have hm : ∀ {ps : List (PN β)} {p : PN β}, p ∈ ps → p.use = some u → u ∈ usesP ps := by
      intro ps
      induction ps with
      | nil => intro p h; cases h
      | cons x l ih =>
        intro p h hu
        rcases List.mem_cons.1 h with rfl | h
        · simp [usesP, hu]
        · simp only [usesP]
          split
          · exact List.mem_cons_of_mem _ (ih h hu)
          · exact ih h hu
    simp only [usesP] at hn
    have hn' : (usesP ps).Nodup := by
      split at hn
      · exact (List.nodup_cons.1 hn).2
      · exact hn
    rcases List.mem_cons.1 hp with rfl | hp' <;> rcases List.mem_cons.1 hq with rfl | hq'
    · rfl
    · rw [h1] at hn
      exact absurd (hm hq' h2) (List.nodup_cons.1 hn).1
    · rw [h2] at hn
      exact absurd (hm hp' h1) (List.nodup_cons.1 hn).1
    · exact use_inj hn' hp' hq' h1 h2
theorem perm_of_mem {α : Type} : ∀ {l r : List α}, l.Nodup → r.Nodup → (∀ x, x ∈ l ↔ x ∈ r) → l.Perm r
  | [], r, _, _, h => by
    cases r with
    | nil => exact List.Perm.refl _
    | cons a r => exact absurd ((h a).2 (by simp)) (by simp)
  | a :: l, r, hl, hr, h => by
    obtain ⟨s, t, rfl⟩ := List.append_of_mem ((h a).1 (by simp))
    obtain ⟨h1, h2⟩ := List.nodup_cons.1 hl
    have hp : (s ++ a :: t).Perm (a :: (s ++ t)) := List.perm_middle
    have hr' := hp.nodup_iff.1 hr
    obtain ⟨h3, h4⟩ := List.nodup_cons.1 hr'
    refine (List.Perm.cons a (perm_of_mem h2 h4 fun x => ?_)).trans hp.symm
    have hx := (h x).trans hp.mem_iff
    simp only [List.mem_cons] at hx
    constructor
    · intro hxl
      rcases hx.1 (.inr hxl) with rfl | h5
      · exact absurd hxl h1
      · exact h5
    · intro hxr
      rcases hx.2 (.inr hxr) with rfl | h5
      · exact absurd hxr h3
      · exact h5
def isUsed {β : Type} (u : Nat) : List (PN β) → Bool
  | [] => false
  | p :: ps => match p.use with
    | some v => cond (Nat.beq v u) true (isUsed u ps)
    | none => isUsed u ps
theorem isUsed_iff {β : Type} {u : Nat} : ∀ {ps : List (PN β)}, isUsed u ps = true ↔ ∃ p ∈ ps, p.use = some u
  | [] => by simp [isUsed]
  | p :: ps => by
    have ih := isUsed_iff (u := u) (ps := ps)
    simp only [isUsed]
    split
    · rename_i v hv
      cases hb : Nat.beq v u with
      | true =>
        obtain rfl := Nat.eq_of_beq_eq_true hb
        simp only [cond_true, true_iff]
        exact ⟨p, by simp, hv⟩
      | false =>
        simp only [cond_false]
        rw [ih]
        constructor
        · rintro ⟨q, h1, h2⟩; exact ⟨q, List.mem_cons_of_mem _ h1, h2⟩
        · rintro ⟨q, h1, h2⟩
          rcases List.mem_cons.1 h1 with rfl | h1
          · rw [hv] at h2
            simp only [Option.some.injEq] at h2
            subst h2
            simp at hb
          · exact ⟨q, h1, h2⟩
    · rename_i hv
      rw [ih]
      constructor
      · rintro ⟨q, h1, h2⟩; exact ⟨q, List.mem_cons_of_mem _ h1, h2⟩
      · rintro ⟨q, h1, h2⟩
        rcases List.mem_cons.1 h1 with rfl | h1
        · rw [hv] at h2; cases h2
        · exact ⟨q, h1, h2⟩
/-- the nodes whose blocks are left -/
def liveF {β : Type} (ps : List (PN β)) : List (PN β) → (List (PN β) → Prop) → Prop
  | [], k => k []
  | q :: qs, k => cond (isUsed q.i ps) (liveF ps qs k) (liveF ps qs (fun r => k (q :: r)))
def liveL {β : Type} (ps : List (PN β)) : List (PN β) → List (PN β)
  | [] => []
  | q :: qs => cond (isUsed q.i ps) (liveL ps qs) (q :: liveL ps qs)
theorem liveF_eq {β : Type} (ps : List (PN β)) : ∀ (qs : List (PN β)) (k : List (PN β) → Prop), liveF ps qs k = k (liveL ps qs)
  | [], _ => rfl
  | q :: qs, k => by
    simp only [liveF, liveL]
    cases isUsed q.i ps <;> simp only [cond_true, cond_false] <;> rw [liveF_eq ps qs]
theorem mem_liveL {β : Type} {ps : List (PN β)} {x : PN β} : ∀ {qs : List (PN β)}, x ∈ liveL ps qs ↔ x ∈ qs ∧ isUsed x.i ps = false
  | [] => by simp [liveL]
  | q :: qs => by
    have ih := mem_liveL (ps := ps) (x := x) (qs := qs)
    simp only [liveL]
    cases hb : isUsed q.i ps with
    | true =>
      simp only [cond_true, List.mem_cons]
      rw [ih]
      constructor
      · rintro ⟨h1, h2⟩; exact ⟨.inr h1, h2⟩
      · rintro ⟨rfl | h1, h2⟩
        · rw [hb] at h2; cases h2
        · exact ⟨h1, h2⟩
    | false =>
      simp only [cond_false, List.mem_cons]
      rw [ih]
      constructor
      · rintro (rfl | ⟨h1, h2⟩)
        · exact ⟨.inl rfl, hb⟩
        · exact ⟨.inr h1, h2⟩
      · rintro ⟨rfl | h1, h2⟩
        · exact .inl rfl
        · exact .inr ⟨h1, h2⟩
theorem liveL_nodup {β : Type} {ps : List (PN β)} : ∀ {qs : List (PN β)}, qs.Nodup → (liveL ps qs).Nodup
  | [], _ => List.nodup_nil
  | q :: qs, h => by
    obtain ⟨h1, h2⟩ := List.nodup_cons.1 h
    simp only [liveL]
    cases isUsed q.i ps with
    | true => exact liveL_nodup h2
    | false => exact List.nodup_cons.2 ⟨fun hm => h1 (mem_liveL.1 hm).1, liveL_nodup h2⟩
theorem dstOf_get {l : List Oper} {j : Nat} {o : Oper} (h : l[j]? = some o) : dstOf l j = o.dst := by
  induction l generalizing j with
  | nil => simp at h
  | cons x l ih => cases j with
    | zero =>
      rw [List.getElem?_cons_zero, Option.some.injEq] at h
      rw [← h]
      rfl
    | succ n =>
      rw [List.getElem?_cons_succ] at h
      exact ih h
theorem nodup_ps {β : Type} : ∀ {ps : List (PN β)}, (idsP ps).Nodup → ps.Nodup
  | [], _ => List.nodup_nil
  | p :: ps, h => by
    simp only [idsP] at h
    obtain ⟨h1, h2⟩ := List.nodup_cons.1 h
    exact List.nodup_cons.2 ⟨fun hp => h1 (mem_idsP.2 ⟨p, hp, rfl⟩), nodup_ps h2⟩
theorem min_id {β : Type} : ∀ {R : List (PN β)}, R ≠ [] → ∃ p ∈ R, ∀ q ∈ R, p.i ≤ q.i
  | [], h => absurd rfl h
  | [p], _ => ⟨p, by simp, by simp⟩
  | p :: q :: R, _ => by
    obtain ⟨m, hm, hmin⟩ := min_id (R := q :: R) (by simp)
    by_cases h : p.i ≤ m.i
    · refine ⟨p, by simp, fun x hx => ?_⟩
      rcases List.mem_cons.1 hx with rfl | hx
      · exact Nat.le_refl _
      · exact Nat.le_trans h (hmin x hx)
    · refine ⟨m, List.mem_cons_of_mem _ hm, fun x hx => ?_⟩
      rcases List.mem_cons.1 hx with rfl | hx
      · omega
      · exact hmin x hx
theorem getD_set {L : List Bool} {i j : Nat} (hi : i < L.length) : (L.set i true).toArray.getD j false = if j = i then true else L.toArray.getD j false := by
  simp only [Array.getD_eq_getD_getElem?, List.getElem?_toArray, List.getElem?_set]
  by_cases h : i = j
  · subst h; simp [hi]
  · rw [if_neg h, if_neg (Ne.symm h)]
theorem getD_tf {L : List Bool} {i : Nat} (h : L.toArray.getD i true = false) : i < L.length ∧ L.toArray.getD i false = false := by
  simp only [Array.getD_eq_getD_getElem?, List.getElem?_toArray] at h ⊢
  cases hb : L[i]? with
  | none => rw [hb] at h; cases h
  | some b =>
    rw [hb] at h
    simp only [Option.getD_some] at h ⊢
    refine ⟨?_, h⟩
    rcases Nat.lt_or_ge i L.length with h1 | h1
    · exact h1
    · rw [List.getElem?_eq_none h1] at hb; cases hb
theorem getD_ft {L : List Bool} {i : Nat} (hi : i < L.length) (h : L.toArray.getD i false = false) : L.toArray.getD i true = false := by
  simp only [Array.getD_eq_getD_getElem?, List.getElem?_toArray, List.getElem?_eq_getElem hi, Option.getD_some] at h ⊢
  exact h
theorem par_run {β : Type} {c : Cx} {all : List Oper} {ps qs : List (PN β)} {t : Nat} {E0 : Env} {H : List Blk} {k : KE} {kc : KC} (hT : TOk c.P c.T) (hB : parB all ps qs t = true) (hfr : freeB all = true)
    (hE0 : ∀ u s, look u E0 = some s → u ∉ dstsP all ps)
    (hspec : ∀ p ∈ ps, specP c all ps qs E0 H p)
    (hend : ∀ z, anyF c all k t (markL (idsP ps) 0 all.length) (bindE all ps z (idsP ps) E0) (memL z (liveL ps (ps ++ qs)) H))
    (hQ : ∀ ms E H a w, k E H → Has c.n ms E a → Kn c.W c.S ms H w → QC c kc .normal a w) :
    ∀ (r : Nat) (D R V : List (PN β)) (L : List Bool) (z : Nat → β) (ms : List Nat) (a : Act) (w : World), R.length = r → ps.Perm (D ++ R) → L.length = all.length →
      (∀ i, i < all.length → (L.toArray.getD i false = true ↔ ∃ p ∈ D, p.i = i)) → closedL all L.toArray → Has c.n ms E0 a →
      (∀ p ∈ D, ∀ d, dstOf all p.i = some d → a.tmps.getD d undef = den (p.v z)) → V.Nodup → (∀ q, q ∈ V ↔ (q ∈ D ∨ q ∈ qs) ∧ ∀ p ∈ D, p.use ≠ some q.i) → Kn c.W c.S ms (memL z V H) w →
      wpAnyIn c.F 0 c.P .any all.toArray (QC c kc) (r + t) L.toArray a w := by
  simp only [parB, Bool.and_eq_true] at hB
  obtain ⟨⟨⟨⟨⟨⟨hnd, hlen⟩, hid⟩, hdd⟩, hps⟩, htail⟩, ⟨⟨hud, hqd⟩, hqs⟩, huse⟩ := hB
  have hid := nodupB_spec hid
  have hdd := nodupB_spec hdd
  have hud := nodupB_spec hud
  have hqd := nodupB_spec hqd
  simp only [List.all_eq_true, Bool.and_eq_true, List.isEmpty_iff] at hqs
  simp only [List.all_eq_true] at huse
  simp only [List.all_eq_true, Bool.and_eq_true, Bool.or_eq_true, List.mem_range] at hps htail
  have hblt : ∀ {i m : Nat}, Nat.blt i m = true → i < m := fun h => Nat.le_of_ble_eq_true h
  have hplt : ∀ p ∈ ps, p.i < all.length := fun p hp => hblt (hps p hp).1.1
  have hqge : ∀ q ∈ qs, all.length ≤ q.i := fun q hq => Nat.le_of_ble_eq_true (hqs q hq).1
  have hndA : (ps ++ qs).Nodup := List.nodup_append.2 ⟨nodup_ps hid, nodup_ps hqd, fun a ha b hb hab => by
    have h1 := hplt a ha
    have h2 := hqge b hb
    rw [hab] at h1
    omega⟩
  intro r
  induction r with
  | zero =>
    intro D R V L z ms a w hr hp hl hD hc ha hv hVn hV hk
    have : R = [] := List.length_eq_zero_iff.1 hr
    subst this
    rw [List.append_nil] at hp
    have hL : L = markL (idsP ps) 0 all.length := by
      refine List.ext_getElem? fun i => ?_
      rcases Nat.lt_or_ge i all.length with h | h
      · rw [markL_get _ _ _ _ h, Nat.zero_add]
        have h1 := hD i h
        simp only [Array.getD_eq_getD_getElem?, List.getElem?_toArray] at h1
        rw [List.getElem?_eq_getElem (hl ▸ h)] at h1 ⊢
        simp only [Option.getD_some] at h1
        congr 1
        cases hb : memN i (idsP ps) with
        | true =>
          obtain ⟨p, hp1, hp2⟩ := mem_idsP.1 (memN_iff.1 hb)
          exact h1.2 ⟨p, hp.mem_iff.1 hp1, hp2⟩
        | false =>
          cases hb2 : L[i]'(hl ▸ h) with
          | false => rfl
          | true =>
            obtain ⟨p, hp1, hp2⟩ := h1.1 hb2
            rw [memN_iff.2 (mem_idsP.2 ⟨p, hp.mem_iff.2 hp1, hp2⟩)] at hb
            cases hb
      · rw [List.getElem?_eq_none (by omega), List.getElem?_eq_none (by rw [markL_length]; omega)]
    rw [Nat.zero_add]
    refine anyF_sound hT hnd hfr hQ _ _ _ _ (hL ▸ hend z) ms a w (ha.bindE fun j hj p d h1 h2 => ?_) (hk.hsub (HSub.perm (memL_perm z H (perm_of_mem hVn (liveL_nodup hndA) fun x => ?_))))
    · obtain ⟨h3, rfl⟩ := findP_spec h1
      exact hv p (hp.mem_iff.1 h3) d h2
    · rw [hV, mem_liveL, List.mem_append]
      refine and_congr (or_congr hp.mem_iff.symm Iff.rfl) ?_
      constructor
      · intro h
        cases hb : isUsed x.i ps with
        | false => rfl
        | true =>
          obtain ⟨p, h1, h2⟩ := isUsed_iff.1 hb
          exact absurd h2 (h p (hp.mem_iff.1 h1))
      · intro h p h1 h2
        rw [isUsed_iff.2 ⟨p, hp.mem_iff.2 h1, h2⟩] at h
        cases h
  | succ r ih =>
    intro D R V L z ms a w hr hp hl hD hc ha hv hVn hV hk
    have hRne : R ≠ [] := by rintro rfl; cases hr
    have hDps : ∀ p ∈ D, p ∈ ps := fun p h => hp.mem_iff.2 (List.mem_append_left _ h)
    have hRps : ∀ p ∈ R, p ∈ ps := fun p h => hp.mem_iff.2 (List.mem_append_right _ h)
    have hndup : (D ++ R).Nodup := (hp.nodup_iff).1 (nodup_ps hid)
    have hdis : ∀ p ∈ D, ∀ q ∈ R, p.i ≠ q.i := by
      intro p h1 q h2 h3
      have := id_inj hid (hDps p h1) (hRps q h2) h3
      subst this
      exact (List.nodup_append.1 hndup).2.2 p h1 p h2 rfl
    have hun' : ∀ q ∈ R, L.toArray.getD q.i false = false := by
      intro q hq
      cases hb : L.toArray.getD q.i false with
      | false => rfl
      | true =>
        obtain ⟨p, h1, h2⟩ := (hD q.i (hplt q (hRps q hq))).1 hb
        exact absurd h2 (hdis p h1 q hq)
    have hdepL : ∀ q ∈ D, ∀ j ∈ q.deps, L.toArray.getD j false = true := by
      intro q hq j hj
      have h1 := (hD q.i (hplt q (hDps q hq))).2 ⟨q, hq, rfl⟩
      have h2 := ((hps q (hDps q hq)).1.2 j hj).2
      have h3 : all[q.i]? = some (all[q.i]'(hplt q (hDps q hq))) := List.getElem?_eq_getElem _
      exact dep_listed hc _ _ _ h2 ⟨_, h3, fun e he hb => hc _ _ h3 h1 e he hb⟩
    rw [show r + 1 + t = (r + t) + 1 by omega]
    refine ⟨fun h0 => ?_, fun i hi => ?_⟩
    · exfalso
      obtain ⟨p, hpR, hmin⟩ := min_id hRne
      have h3 : all[p.i]? = some (all[p.i]'(hplt p (hRps p hpR))) := List.getElem?_eq_getElem _
      have hmem : p.i ∈ Region.ready .any all.toArray L.toArray := by
        refine mem_ready.2 ⟨getD_ft (by rw [hl]; exact hplt p (hRps p hpR)) (hun' p hpR), _, by rw [List.getElem?_toArray]; exact h3, fun e he hb => ?_⟩
        have h4 := (hps p (hRps p hpR)).2
        simp only [h3, List.all_eq_true, Bool.or_eq_true, Bool.and_eq_true, Bool.not_eq_true'] at h4
        rcases h4 e (by simpa using he) with h5 | ⟨h5, h6⟩
        · rw [hb] at h5; cases h5
        · obtain ⟨q, hq1, hq2⟩ := mem_idsP.1 (memN_iff.1 h6)
          have h7 := hblt h5
          rcases List.mem_append.1 (hp.mem_iff.1 hq1) with h8 | h8
          · exact (hD _ (by have := hplt p (hRps p hpR); omega)).2 ⟨q, h8, hq2⟩
          · have := hmin q h8; omega
      rw [h0] at hmem; cases hmem
    · obtain ⟨hun, o, ho, hrd⟩ := mem_ready.1 hi
      have ho : all[i]? = some o := by simpa using ho
      obtain ⟨hiL, hif⟩ := getD_tf hun
      have hilt : i < all.length := by omega
      obtain ⟨p, hpR, rfl⟩ : ∃ p ∈ R, p.i = i := by
        rcases htail i hilt with h | h
        · obtain ⟨p, h1, h2⟩ := mem_idsP.1 (memN_iff.1 h)
          rcases List.mem_append.1 (hp.mem_iff.1 h1) with h3 | h3
          · have := (hD i hilt).2 ⟨p, h3, h2⟩
            rw [hif] at this; cases this
          · exact ⟨p, h3, h2⟩
        · exfalso
          obtain ⟨q, hq⟩ := List.exists_mem_of_ne_nil _ hRne
          have h1 := h q.i (mem_idsP.2 ⟨q, hRps q hq, rfl⟩)
          have h2 := dep_listed hc _ _ _ h1 ⟨o, ho, hrd⟩
          rw [hun' q hq] at h2; cases h2
      have hpps := hRps p hpR
      obtain ⟨o', ho', hs⟩ := nthO_spec (hspec p hpps)
      rw [ho] at ho'
      obtain rfl : o = o' := by simpa using ho'
      have hdepi : ∀ j ∈ p.deps, L.toArray.getD j false = true := fun j hj => dep_listed hc _ _ _ ((hps p hpps).1.2 j hj).2 ⟨o, ho, hrd⟩
      -- the blocks that it uses
      obtain ⟨U, V', hUV, hU1, hU2⟩ : ∃ (U : List Blk) (V' : List (PN β)), (memL z V H).Perm (U ++ (memL z V' [] ++ H)) ∧
          (∀ k, useF (ps ++ qs) z p.use H k → k (U ++ H)) ∧ V'.Nodup ∧ (∀ q, q ∈ V' ↔ q ∈ V ∧ p.use ≠ some q.i) := by
        cases hu : p.use with
        | none =>
          refine ⟨[], V, ?_, fun k h => h, hVn, fun q => ?_⟩
          · rw [memL_app]; exact List.Perm.refl _
          · simp
        | some u =>
          obtain ⟨q, hqV, hqu, hqf⟩ : ∃ q ∈ V, q.i = u ∧ ∀ q', findP u (ps ++ qs) = some q' → q' = q := by
            have h1 := huse p hpps
            rw [hu] at h1
            simp only [Bool.or_eq_true] at h1
            have hno : ∀ r ∈ D, r.use ≠ some u := by
              intro r hr hru
              have := use_inj hud (hDps r hr) hpps hru hu
              subst this
              exact hdis r hr r hpR rfl
            rcases h1 with h1 | h1
            · have h2 := hdepi u (memN_iff.1 h1)
              have hult : u < all.length := by
                obtain ⟨q, h3, h4⟩ := mem_idsP.1 (memN_iff.1 ((hps p hpps).1.2 u (memN_iff.1 h1)).1)
                rw [← h4]; exact hplt q h3
              obtain ⟨q, h3, h4⟩ := (hD u hult).1 h2
              refine ⟨q, (hV q).2 ⟨.inl h3, by rw [h4]; exact hno⟩, h4, fun q' h5 => ?_⟩
              obtain ⟨h6, h7⟩ := findP_spec h5
              rcases List.mem_append.1 h6 with h6 | h6
              · exact id_inj hid h6 (hDps q h3) (h7.trans h4.symm)
              · have := hqge q' h6; omega
            · obtain ⟨q, h3, h4⟩ := mem_idsP.1 (memN_iff.1 h1)
              refine ⟨q, (hV q).2 ⟨.inr h3, by rw [h4]; exact hno⟩, h4, fun q' h5 => ?_⟩
              obtain ⟨h6, h7⟩ := findP_spec h5
              have := hqge q h3
              rcases List.mem_append.1 h6 with h6 | h6
              · have := hplt q' h6; omega
              · exact id_inj hqd h6 h3 (h7.trans h4.symm)
          obtain ⟨v1, v2, rfl⟩ := List.append_of_mem hqV
          have hpm : (v1 ++ q :: v2).Perm (q :: (v1 ++ v2)) := List.perm_middle
          have hn2 := List.nodup_cons.1 (hpm.nodup_iff.1 hVn)
          refine ⟨q.m z, v1 ++ v2, ?_, fun k h => ?_, hn2.2, fun x => ?_⟩
          · refine (memL_perm z H hpm).trans ?_
            simp only [memL]
            rw [memL_app z (v1 ++ v2) H]
          · simp only [useF] at h
            split at h
            · rename_i q' hq'
              rw [appB_eq] at h
              rw [hqf q' hq'] at h
              exact h
            · exact h.elim
          · rw [hpm.mem_iff, List.mem_cons]
            constructor
            · intro hx
              refine ⟨.inr hx, fun h => ?_⟩
              simp only [Option.some.injEq] at h
              have hxV := (hV x).1 (hpm.mem_iff.2 (List.mem_cons_of_mem _ hx))
              have hqV2 := (hV q).1 hqV
              have hxq : x = q := by
                have e : x.i = q.i := by rw [← h, hqu]
                rcases hxV.1 with h1 | h1 <;> rcases hqV2.1 with h2 | h2
                · exact id_inj hid (hDps x h1) (hDps q h2) e
                · have := hplt x (hDps x h1); have := hqge q h2; omega
                · have := hplt q (hDps q h2); have := hqge x h1; omega
                · exact id_inj hqd h1 h2 e
              subst hxq
              exact hn2.1 hx
            · rintro ⟨rfl | hx, h⟩
              · exact absurd (by rw [hqu]) h
              · exact hx
      have hs := hs z (AssL (memL z V' [])) (fun E' H' => ∃ ζ, SubD (dstE all p (p.val (mapZ z p.deps) ζ)) E' ∧ HSub (p.mem (mapZ z p.deps) ζ ++ (H ++ [.ext 900 (AssL (memL z V' []))])) H') (fun ζ E' H' h1 h2 => ⟨ζ, h1, h2⟩)
      rw [bindF_eq] at hs
      have hs := snocF_spec (hU1 _ hs)
      have ha' : Has c.n ms (bindE all ps z p.deps E0) a := by
        refine ha.bindE fun j hj q d h1 h2 => ?_
        obtain ⟨h3, rfl⟩ := findP_spec h1
        obtain ⟨q', h4, h5⟩ := (hD _ (hplt q h3)).1 (hdepi _ hj)
        have := id_inj hid (hDps q' h4) h3 h5
        subst this
        exact hv q' h4 d h2
      have hk' : Kn c.W c.S ms (U ++ H ++ [.ext 900 (AssL (memL z V' []))]) w := by
        refine hk.hsub (HSub.trans ?_ (HSub.perm hUV))
        refine HSub.trans ((HSub.refl (U ++ H)).app2 HSub.join) ?_
        rw [List.append_assoc]
        exact (HSub.refl U).app2 (HSub.perm List.perm_append_comm)
      unfold wpOpIn
      simp only [List.getElem?_toArray, ho]
      refine opG_sound' hT hs ha' hk' ?_
      rintro E' H' ⟨ζ, hE, hH⟩ ms' v w' haE hkE
      obtain ⟨s1, s2, hR⟩ := List.append_of_mem hpR
      have hz : ∀ q ∈ D, (fun j => if j = p.i then ζ else z j) q.i = z q.i ∧ mapZ (fun j => if j = p.i then ζ else z j) q.deps = mapZ z q.deps := by
        intro q hq
        refine ⟨if_neg (hdis q hq p hpR), mapZ_congr fun j hj => if_neg ?_⟩
        rintro rfl
        have := hdepL q hq _ hj
        rw [hif] at this; cases this
      have hzp : mapZ (fun j => if j = p.i then ζ else z j) p.deps = mapZ z p.deps := by
        refine mapZ_congr fun j hj => if_neg ?_
        rintro rfl
        have := hdepi _ hj
        rw [hif] at this; cases this
      have hgoal := ih (p :: D) (s1 ++ s2) (p :: V') (L.set p.i true) (fun j => if j = p.i then ζ else z j) ms' (a.put o.dst v) w'
        (by rw [hR] at hr; simp at hr ⊢; omega)
        (by rw [hR, ← List.append_assoc] at hp; refine hp.trans (List.perm_middle.trans ?_); rw [List.append_assoc]; exact List.Perm.refl _)
        (by simpa using hl)
        (by
          intro j hj
          rw [getD_set hiL]
          by_cases hji : j = p.i
          · subst hji; simp
          · rw [if_neg hji, hD j hj]
            constructor
            · rintro ⟨q, h1, h2⟩; exact ⟨q, List.mem_cons_of_mem _ h1, h2⟩
            · rintro ⟨q, h1, h2⟩
              rcases List.mem_cons.1 h1 with rfl | h1
              · exact absurd h2.symm hji
              · exact ⟨q, h1, h2⟩)
        (by
          intro j oj hoj hj e he hb
          rw [getD_set hiL] at hj ⊢
          by_cases hei : e.on = p.i
          · rw [if_pos hei]
          · rw [if_neg hei]
            by_cases hji : j = p.i
            · subst hji
              rw [ho] at hoj
              obtain rfl : o = oj := by simpa using hoj
              exact hrd e he hb
            · rw [if_neg hji] at hj
              exact hc j oj hoj hj e he hb)
        (by
          refine ⟨haE.size, haE.defers, fun u s hu => ?_⟩
          cases hd : o.dst with
          | none => exact ha.get u s hu
          | some d =>
            rw [put_other (fun h : d = u => hE0 u s hu (by rw [← h]; exact mem_dstsP hpps ((dstOf_get ho).trans hd)))]
            exact ha.get u s hu)
        (by
          intro q hq d hd
          rcases List.mem_cons.1 hq with rfl | hq
          · have hd2 : o.dst = some d := (dstOf_get ho).symm.trans hd
            have h1 : look d (dstE all q (q.val (mapZ z q.deps) ζ)) = some (q.val (mapZ z q.deps) ζ) := by
              simp [dstE, hd, look]
            obtain ⟨s', h2, h3⟩ := hE.spec d _ h1
            rw [haE.get d s' h2, h3]
            simp only [PN.v, hzp, if_true]
          · have h1 : ¬ o.dst = some d := by
              intro h
              have := dst_inj hdd hpps (hDps q hq) ((dstOf_get ho).trans h) hd
              subst this
              exact hdis p hq p hpR rfl
            have h2 : (a.put o.dst v).tmps.getD d undef = a.tmps.getD d undef := by
              cases ho' : o.dst with
              | none => rfl
              | some d' => exact put_other (fun h => h1 (by rw [ho', h]))
            rw [h2, hv q hq d hd]
            simp only [PN.v]
            rw [(hz q hq).2, if_neg (hdis q hq p hpR)])
        (List.nodup_cons.2 ⟨fun h => by
          have h1 := (hV p).1 ((hU2.2 p).1 h).1
          rcases h1.1 with h2 | h2
          · exact hdis p h2 p hpR rfl
          · have := hplt p hpps; have := hqge p h2; omega, hU2.1⟩)
        (by
          intro q
          rw [List.mem_cons, hU2.2, hV]
          constructor
          · rintro (rfl | ⟨⟨h1, h2⟩, h3⟩)
            · refine ⟨.inl (by simp), fun r hr hru => ?_⟩
              have hrps : r ∈ ps := by
                rcases List.mem_cons.1 hr with rfl | hr
                · exact hpps
                · exact hDps r hr
              have h1 := huse r hrps
              rw [hru] at h1
              simp only [Bool.or_eq_true] at h1
              rcases h1 with h1 | h1
              · rcases List.mem_cons.1 hr with rfl | hr
                · have := hdepi _ (memN_iff.1 h1)
                  rw [hif] at this; cases this
                · have := hdepL r hr _ (memN_iff.1 h1)
                  rw [hif] at this; cases this
              · obtain ⟨q', h3, h4⟩ := mem_idsP.1 (memN_iff.1 h1)
                have := hqge q' h3; have := hplt q hpps; omega
            · refine ⟨h1.imp (fun h => List.mem_cons_of_mem _ h) id, fun r hr => ?_⟩
              rcases List.mem_cons.1 hr with rfl | hr
              · exact h3
              · exact h2 r hr
          · rintro ⟨h1, h2⟩
            by_cases hqp : q = p
            · exact .inl hqp
            · refine .inr ⟨⟨?_, fun r hr => h2 r (List.mem_cons_of_mem _ hr)⟩, h2 p (by simp)⟩
              rcases h1 with h1 | h1
              · rcases List.mem_cons.1 h1 with h1 | h1
                · exact absurd h1 hqp
                · exact .inl h1
              · exact .inr h1)
        (by
          refine hkE.hsub (HSub.trans ?_ hH)
          simp only [memL]
          rw [memL_congr (z := fun j => if j = p.i then ζ else z j) (z' := z) (fun q hq => by
            have h1 := (hV q).1 ((hU2.2 q).1 hq).1
            simp only [PN.m]
            rcases h1.1 with h2 | h2
            · rw [(hz q h2).2, if_neg (hdis q h2 p hpR)]
            · rw [(hqs q h2).2, if_neg (by have := hqge q h2; have := hplt p hpps; omega)]
              rfl), memL_app z V' H]
          simp only [PN.m, hzp, if_true]
          exact (HSub.refl _).app2 (HSub.trans (HSub.perm List.perm_append_comm) ((HSub.refl H).app2 HSub.unjoin)))
      simpa using hgoal
/-- A REGION IN ANY ORDER whose operations work each for itself (t of them wait for all others): one proof for each of them, then the rest. qs: parts of H that one operation uses up -/
theorem r_par {β : Type} [Inhabited β] (ps qs : List (PN β)) (t : Nat) {c : Cx} {id : Nat} {l : List Oper} {E : Env} {H0 : List Blk} {k : KC} (H : List Blk) (hm : c.P.follows .mixedOrders = true) (hB : parB l ps qs t = true) (hfr : freeB l = true)
    (hH : HSub (memL (fun _ => default) qs H) H0)
    (h1 : dropKF (dstsP l ps) E (fun E0 => allP ps (specP c l ps qs E0 H)))
    (h2 : dropKF (dstsP l ps) E (fun E0 => ∀ z, bindF l ps z (idsP ps) E0 (fun E1 => liveF ps (ps ++ qs) (fun vs => memF z vs H (fun H1 => markF (idsP ps) 0 l.length (fun L => anyF c l (k .nrm) t L E1 H1)))))) :
    Run c (.region id l.toArray true) E H0 k := by
  rw [dropKF_eq] at h1 h2
  refine .of fun ms a w ha hk => ?_
  refine wpIn_region_any hm ?_
  have hlen : ps.length + t = l.length := by
    simp only [parB, Bool.and_eq_true] at hB
    exact Nat.eq_of_beq_eq_true hB.1.1.1.1.1.2
  have hqn : qs.Nodup := by
    simp only [parB, Bool.and_eq_true] at hB
    exact nodup_ps (nodupB_spec hB.2.1.1.2)
  have := par_run c.ok hB hfr (E0 := dropK (dstsP l ps) E) (H := H) (k := k .nrm) (kc := k) (fun u s hu => (look_dropK hu).2) (fun p hp => allP_spec h1 p hp)
    (fun z => by have := h2 z; rw [bindF_eq, liveF_eq, memF_eq, markF_eq] at this; exact this)
    (fun ms E H a w h ha hk => ⟨ms, E, H, ha, hk, h⟩) ps.length [] ps qs (List.replicate l.length false) (fun _ => default) ms a _ rfl (by simp) (by simp)
    (by intro i hi; simp [Array.getD_eq_getD_getElem?, hi])
    (by intro i o ho hl2; exfalso; rw [Array.getD_eq_getD_getElem?, List.getElem?_toArray, List.getElem?_replicate] at hl2; split at hl2 <;> cases hl2)
    ⟨ha.size, ha.defers, fun u s hu => ha.get u s (look_dropK hu).1⟩ (by simp) hqn (by simp) ((Kn.drawn hk).hsub hH)
  rw [hlen] at this
  simpa using this
end Go.X
