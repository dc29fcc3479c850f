/- Contracts and lemmas for the claim (part 4); no condition of its own. -/
import Derived.Test.YtjkmpaggfbghiaaGreatDoorYQC1003
import Derived.Shelf.SlIterI.Nil
import Derived.Shelf.SortM.Plain
import Derived.Shelf.SortM.SortNone
import Derived.Shelf.SlMaps.DeleteFunc
import Derived.Shelf.SlMaps.Clone
import Derived.Shelf.SlSortCmp.WholeK
import Derived.Shelf.SlSortCmp.NoneTotal
import Derived.Sort.Grow
import Derived.Deep.Draws
set_option linter.all false
set_option maxRecDepth 100000
set_option maxHeartbeats 0
set_option linter.unusedVariables false
set_option linter.unusedSimpArgs false
set_option linter.unnecessarySimpa false
namespace Go.X
open Go
structure PN (β : Type) where
  i : Nat
  deps : List Nat
  use : Option Nat
  val : List β → β → SV
  mem : List β → β → List Blk
def SV.force (s : SV) (k : SV → Prop) : Prop := match s with
  | .v x => k (.v x)
  | .loc b i o => k (.loc b i o)
  | .agg cs => k (.agg cs)
  | .tup vs => k (.tup vs)
  | .fn f cs => k (.fn f cs)
  | .slc b i o l c => k (.slc b i o l c)
theorem SV.force_eq (s : SV) (k : SV → Prop) : s.force k = k s := by cases s <;> rfl
def mapZ {β : Type} (z : Nat → β) : List Nat → List β
  | [] => []
  | j :: js => z j :: mapZ z js
theorem mapZ_congr {β : Type} {z z' : Nat → β} : ∀ {js : List Nat}, (∀ j ∈ js, z j = z' j) → mapZ z js = mapZ z' js
  | [], _ => rfl
  | j :: js, h => by
    simp only [mapZ]
    rw [h j (by simp), mapZ_congr (fun k hk => h k (by simp [hk]))]
def PN.v {β : Type} (p : PN β) (z : Nat → β) : SV := p.val (mapZ z p.deps) (z p.i)
def PN.m {β : Type} (p : PN β) (z : Nat → β) : List Blk := p.mem (mapZ z p.deps) (z p.i)
def findP {β : Type} (j : Nat) : List (PN β) → Option (PN β)
  | [] => none
  | p :: ps => cond (Nat.beq p.i j) (some p) (findP j ps)
theorem findP_spec {β : Type} {j : Nat} : ∀ {ps : List (PN β)} {p : PN β}, findP j ps = some p → p ∈ ps ∧ p.i = j
  | [], _, h => by cases h
  | q :: ps, p, h => by
    simp only [findP] at h
    cases hb : Nat.beq q.i j with
    | true => rw [hb] at h; simp only [cond_true, Option.some.injEq] at h; subst h; exact ⟨by simp, Nat.eq_of_beq_eq_true hb⟩
    | false => rw [hb] at h; obtain ⟨h1, h2⟩ := findP_spec (ps := ps) h; exact ⟨by simp [h1], h2⟩
def appB : List Blk → List Blk → (List Blk → Prop) → Prop
  | [], l, k => k l
  | x :: a, l, k => appB a l (fun r => k (x :: r))
theorem appB_eq : ∀ (a l : List Blk) (k : List Blk → Prop), appB a l k = k (a ++ l)
  | [], _, _ => rfl
  | x :: a, l, k => by simp only [appB, List.cons_append]; rw [appB_eq a l]
def idsP {β : Type} : List (PN β) → List Nat
  | [] => []
  | p :: ps => p.i :: idsP ps
def dstsP {β : Type} (all : List Oper) : List (PN β) → List Nat
  | [] => []
  | p :: ps => match dstOf all p.i with
    | some d => d :: dstsP all ps
    | none => dstsP all ps
theorem mem_idsP {β : Type} {j : Nat} : ∀ {ps : List (PN β)}, j ∈ idsP ps ↔ ∃ p ∈ ps, p.i = j
  | [] => by simp [idsP]
  | p :: ps => by
    simp only [idsP, List.mem_cons]
    rw [mem_idsP (ps := ps)]
    constructor
    · rintro (rfl | ⟨q, h1, h2⟩)
      · exact ⟨p, .inl rfl, rfl⟩
      · exact ⟨q, .inr h1, h2⟩
    · rintro ⟨q, rfl | h1, h2⟩
      · exact .inl h2.symm
      · exact .inr ⟨q, h1, h2⟩
theorem mem_dstsP {β : Type} {all : List Oper} {p : PN β} {d : Nat} : ∀ {ps : List (PN β)}, p ∈ ps → dstOf all p.i = some d → d ∈ dstsP all ps
  | q :: ps, h, hd => by
    rcases List.mem_cons.1 h with rfl | h
    · simp [dstsP, hd]
    · have := mem_dstsP h hd
      simp only [dstsP]
      split
      · simp [this]
      · exact this
def dropK (ds : List Nat) : Env → Env
  | [] => []
  | (t, s) :: E => cond (memN t ds) (dropK ds E) ((t, s) :: dropK ds E)
def dropKF (ds : List Nat) : Env → (Env → Prop) → Prop
  | [], k => k []
  | (t, s) :: E, k => cond (memN t ds) (dropKF ds E k) (dropKF ds E (fun E' => k ((t, s) :: E')))
theorem dropKF_eq (ds : List Nat) : ∀ (E : Env) (k : Env → Prop), dropKF ds E k = k (dropK ds E)
  | [], _ => rfl
  | (t, s) :: E, k => by
    simp only [dropKF, dropK]
    cases memN t ds <;> simp only [cond_true, cond_false] <;> rw [dropKF_eq ds E]
theorem memN_iff {t : Nat} {l : List Nat} : memN t l = true ↔ t ∈ l := by
  constructor
  · exact memN_spec
  · intro h
    induction l with
    | nil => cases h
    | cons u l ih =>
      unfold memN
      rcases List.mem_cons.1 h with rfl | h
      · simp
      · have := ih h
        first
          | (cases hb : Nat.beq u t <;> simp [hb, this])
          | (cases hb : Nat.beq t u <;> simp [hb, this])
          | simp [this]
theorem look_dropK {ds : List Nat} {t : Nat} {s : SV} : ∀ {E : Env}, look t (dropK ds E) = some s → look t E = some s ∧ t ∉ ds
  | [], h => by cases h
  | (u, x) :: E, h => by
    simp only [dropK] at h
    cases hm : memN u ds with
    | true =>
      rw [hm] at h
      obtain ⟨h1, h2⟩ := look_dropK (E := E) h
      refine ⟨?_, h2⟩
      have hu := memN_iff.1 hm
      simp only [look]
      cases hb : Nat.beq u t with
      | true => exact absurd (Nat.eq_of_beq_eq_true hb ▸ hu) h2
      | false => exact h1
    | false =>
      rw [hm] at h
      simp only [cond_false, look] at h ⊢
      cases hb : Nat.beq u t with
      | true =>
        rw [hb] at h
        refine ⟨h, fun hu => ?_⟩
        rw [← Nat.eq_of_beq_eq_true hb] at hu
        rw [memN_iff.2 hu] at hm; cases hm
      | false => rw [hb] at h; exact look_dropK (E := E) h
def bindE {β : Type} (all : List Oper) (ps : List (PN β)) (z : Nat → β) : List Nat → Env → Env
  | [], E => E
  | j :: js, E => match findP j ps with
    | some p => (match dstOf all j with
      | some d => (d, p.v z) :: bindE all ps z js E
      | none => bindE all ps z js E)
    | none => bindE all ps z js E
def bindF {β : Type} (all : List Oper) (ps : List (PN β)) (z : Nat → β) : List Nat → Env → (Env → Prop) → Prop
  | [], E, k => k E
  | j :: js, E, k => match findP j ps with
    | some p => (match dstOf all j with
      | some d => SV.force (p.val (mapZ z p.deps) (z p.i)) (fun s => bindF all ps z js E (fun E' => k ((d, s) :: E')))
      | none => bindF all ps z js E k)
    | none => bindF all ps z js E k
theorem bindF_eq {β : Type} (all : List Oper) (ps : List (PN β)) (z : Nat → β) : ∀ (js : List Nat) (E : Env) (k : Env → Prop), bindF all ps z js E k = k (bindE all ps z js E)
  | [], _, _ => rfl
  | j :: js, E, k => by
    simp only [bindF, bindE]
    split
    · split
      · rw [SV.force_eq, bindF_eq all ps z js]; rfl
      · rw [bindF_eq all ps z js]
    · rw [bindF_eq all ps z js]
theorem Has.consV {n ds E a} {t : Nat} {s : SV} (h : Has n ds E a) (ht : a.tmps.getD t undef = den s) : Has n ds ((t, s) :: E) a := by
  refine ⟨h.size, h.defers, fun u x hx => ?_⟩
  simp only [look] at hx
  cases hb : Nat.beq t u with
  | true => rw [hb] at hx; simp only [cond_true, Option.some.injEq] at hx; subst hx; rw [← Nat.eq_of_beq_eq_true hb]; exact ht
  | false => rw [hb] at hx; exact h.get u x hx
theorem Has.bindE {β : Type} {n ds E a} {all : List Oper} {ps : List (PN β)} {z : Nat → β} (h : Has n ds E a) : ∀ {js : List Nat}, (∀ j ∈ js, ∀ p d, findP j ps = some p → dstOf all j = some d → a.tmps.getD d undef = den (p.v z)) → Has n ds (bindE all ps z js E) a
  | [], _ => h
  | j :: js, hj => by
    have ih := Has.bindE (all := all) (ps := ps) (z := z) h (js := js) (fun j' h' => hj j' (by simp [h']))
    unfold X.bindE
    split
    · rename_i p hp
      split
      · rename_i d hd
        exact ih.consV (hj j (by simp) p d hp hd)
      · exact ih
    · exact ih
def memL {β : Type} (z : Nat → β) : List (PN β) → List Blk → List Blk
  | [], H => H
  | p :: ps, H => p.m z ++ memL z ps H
def memF {β : Type} (z : Nat → β) : List (PN β) → List Blk → (List Blk → Prop) → Prop
  | [], H, k => k H
  | p :: ps, H, k => memF z ps H (fun r => appB (p.mem (mapZ z p.deps) (z p.i)) r k)
theorem memF_eq {β : Type} (z : Nat → β) : ∀ (ps : List (PN β)) (H : List Blk) (k : List Blk → Prop), memF z ps H k = k (memL z ps H)
  | [], _, _ => rfl
  | p :: ps, H, k => by simp only [memF, memL]; rw [memF_eq z ps H, appB_eq]; rfl
theorem memL_perm {β : Type} (z : Nat → β) (H : List Blk) {ps qs : List (PN β)} (h : ps.Perm qs) : (memL z ps H).Perm (memL z qs H) := by
  induction h with
  | nil => exact List.Perm.refl _
  | cons p _ ih => simp only [memL]; exact ih.append_left _
  | swap p q l =>
    simp only [memL, ← List.append_assoc]
    exact List.Perm.append_right _ List.perm_append_comm
  | trans _ _ ih1 ih2 => exact ih1.trans ih2
theorem memL_app {β : Type} (z : Nat → β) : ∀ (ps : List (PN β)) (H : List Blk), memL z ps H = memL z ps [] ++ H
  | [], H => rfl
  | p :: ps, H => by simp only [memL, List.append_assoc]; rw [memL_app z ps H]
theorem memL_congr {β : Type} {z z' : Nat → β} {H : List Blk} : ∀ {ps : List (PN β)}, (∀ p ∈ ps, p.m z = p.m z') → memL z ps H = memL z' ps H
  | [], _ => rfl
  | p :: ps, h => by
    simp only [memL]
    rw [h p (by simp), memL_congr (fun q hq => h q (by simp [hq]))]
def markF (ids : List Nat) : Nat → Nat → (List Bool → Prop) → Prop
  | _, 0, k => k []
  | i, n + 1, k => cond (memN i ids) (markF ids (Nat.succ i) n (fun l => k (true :: l))) (markF ids (Nat.succ i) n (fun l => k (false :: l)))
def markL (ids : List Nat) : Nat → Nat → List Bool
  | _, 0 => []
  | i, n + 1 => memN i ids :: markL ids (Nat.succ i) n
theorem markF_eq (ids : List Nat) : ∀ (n i : Nat) (k : List Bool → Prop), markF ids i n k = k (markL ids i n)
  | 0, _, _ => rfl
  | n + 1, i, k => by
    simp only [markF, markL]
    cases memN i ids <;> simp only [cond_true, cond_false] <;> rw [markF_eq ids n]
theorem markL_length (ids : List Nat) : ∀ (n i : Nat), (markL ids i n).length = n
  | 0, _ => rfl
  | n + 1, i => by simp [markL, markL_length ids n]
theorem markL_get (ids : List Nat) : ∀ (n i j : Nat), j < n → (markL ids i n)[j]? = some (memN (i + j) ids)
  | 0, _, _, h => by omega
  | n + 1, i, 0, _ => by simp [markL]
  | n + 1, i, j + 1, h => by
    simp only [markL, List.getElem?_cons_succ]
    rw [markL_get ids n _ j (by omega)]
    congr 2
    omega
def nthO : Nat → List Oper → (Oper → Prop) → Prop
  | 0, o :: _, k => k o
  | n + 1, _ :: l, k => nthO n l k
  | _, [], _ => False
theorem nthO_spec : ∀ {n : Nat} {l : List Oper} {k : Oper → Prop}, nthO n l k → ∃ o, l[n]? = some o ∧ k o
  | 0, o :: _, k, h => ⟨o, rfl, h⟩
  | n + 1, _ :: l, k, h => by simpa using nthO_spec (n := n) (l := l) h
  | 0, [], _, h => h.elim
  | _ + 1, [], _, h => h.elim
def dstE {β : Type} (all : List Oper) (p : PN β) (s : SV) : Env := match dstOf all p.i with
  | some d => [(d, s)]
  | none => []
def useF {β : Type} (ps : List (PN β)) (z : Nat → β) (u : Option Nat) (H : List Blk) (k : List Blk → Prop) : Prop := match u with
  | none => k H
  | some u => match findP u ps with
    | some q => appB (q.mem (mapZ z q.deps) (z q.i)) H k
    | none => False
def specP {β : Type} (c : Cx) (all : List Oper) (ps qs : List (PN β)) (E0 : Env) (H : List Blk) (p : PN β) : Prop :=
  nthO p.i all (fun o => ∀ (z : Nat → β) (A : Ass) (K' : KE), (∀ ζ E' H', SubD (dstE all p (p.val (mapZ z p.deps) ζ)) E' → HSub (p.mem (mapZ z p.deps) ζ ++ (H ++ [.ext 900 A])) H' → K' E' H') →
    bindF all ps z p.deps E0 (fun E1 => useF (ps ++ qs) z p.use H (fun H0 => snocF H0 (.ext 900 A) (fun H1 => opG c all o E1 H1 K'))))
def allP {β : Type} : List (PN β) → (PN β → Prop) → Prop
  | [], _ => True
  | [q], f => f q
  | q :: qs, f => f q ∧ allP qs f
theorem allP_spec {β : Type} {qs : List (PN β)} {f : PN β → Prop} (h : allP qs f) : ∀ q ∈ qs, f q := by
  induction qs with
  | nil => simp
  | cons p rs ih =>
    cases rs with
    | nil => simpa [allP] using h
    | cons q rs =>
      simp only [allP] at h
      intro x hx
      rcases List.mem_cons.1 hx with rfl | hx
      · exact h.1
      · exact ih h.2 x hx
def nodupB : List Nat → Bool
  | [] => true
  | x :: l => !memN x l && nodupB l
def usesP {β : Type} : List (PN β) → List Nat
  | [] => []
  | p :: ps => match p.use with
    | some u => u :: usesP ps
    | none => usesP ps
def parB {β : Type} (all : List Oper) (ps qs : List (PN β)) (t : Nat) : Bool :=
  noDef all && Nat.beq (ps.length + t) all.length && nodupB (idsP ps) && nodupB (dstsP all ps) &&
  ps.all (fun p => Nat.blt p.i all.length && p.deps.all (fun j => memN j (idsP ps) && depB all all.length p.i j) && (match all[p.i]? with
    | some o => o.after.toList.all (fun e => !Region.binds .any e || (Nat.blt e.on p.i && memN e.on (idsP ps)))
    | none => true)) &&
  (List.range all.length).all (fun i => memN i (idsP ps) || (idsP ps).all (fun j => depB all all.length i j)) &&
  (nodupB (usesP ps) && nodupB (idsP qs) && qs.all (fun q => Nat.ble all.length q.i && q.deps.isEmpty) &&
  ps.all (fun p => match p.use with | none => true | some u => memN u p.deps || memN u (idsP qs)))
theorem opG_sound' {c : Cx} (hT : TOk c.P c.T) {ms : List Nat} {all : List Oper} {o : Oper} {E : Env} {H : List Blk} {K : KE} {Q : Exit → Act → World → Prop} (h : opG c all o E H K) {a : Act} {w : World}
    (ha : Has c.n ms E a) (hk : Kn c.W c.S ms H w) {K' : Act → World → Prop} (hK : ∀ E H, K E H → ∀ ms v w, Has c.n ms E (a.put o.dst v) → Kn c.W c.S ms H w → K' (a.put o.dst v) w) :
    if Region.wanted o (yielded all.toArray a.tmps) = true then o.wpIn c.F 0 c.P a w K' Q else (∀ f, o.about c.P w a.eval = some f → c.F.fn f) ∧ K' (a.put o.dst undef) w := by
  unfold opG at h
  cases hok : okd c o.dst with
  | false => rw [hok] at h; exact h.elim
  | true =>
    rw [hok] at h
    simp only [cond_true] at h
    have hskip : ∀ E', (∀ (hh : Region.wanted o (yielded all.toArray a.tmps) = false), putF o.dst (.v undef) E' (fun E => K E H) → Has c.n ms E' a →
        if Region.wanted o (yielded all.toArray a.tmps) = true then o.wpIn c.F 0 c.P a w K' Q else (∀ f, o.about c.P w a.eval = some f → c.F.fn f) ∧ K' (a.put o.dst undef) w) := by
      intro E' hh h1 h2
      rw [if_neg (by rw [hh]; simp)]
      exact ⟨fun _ _ => trivial, hK _ _ (putF_spec h1) _ _ _ (okd_put hok h2 (.v undef)) hk⟩
    have hrun : ∀ E', (∀ (hh : Region.wanted o (yielded all.toArray a.tmps) = true), op1 c o E' H (fun s H => putF o.dst s E' (fun E => K E H)) → Has c.n ms E' a →
        if Region.wanted o (yielded all.toArray a.tmps) = true then o.wpIn c.F 0 c.P a w K' Q else (∀ f, o.about c.P w a.eval = some f → c.F.fn f) ∧ K' (a.put o.dst undef) w) := by
      intro E' hh h1 h2
      rw [if_pos hh]
      refine Oper.wpIn_mono ?_ (op1_sound hT h1 ms a w h2 hk Q)
      rintro a' w' ⟨s, H', rfl, h3, h4⟩
      exact hK _ _ (putF_spec h4) _ _ _ (okd_put hok h2 s) h3
    split at h
    · rename_i hg
      exact hrun E (by simp [Region.wanted, hg]) h ha
    · rename_i j want hg
      split at h
      · exact h.elim
      · rename_i dj hdj
        split at h
        · rename_i p hp
          have hv := ha.get _ _ hp
          simp only [den] at hv
          have hy := yielded_bool hdj hv
          split at h
          · cases p with
            | true => exact hrun _ (by simp [Region.wanted, hg, hy]) h (ha.lit hp rfl)
            | false => exact hskip _ (by simp [Region.wanted, hg, hy]) h (ha.lit hp rfl)
          · cases p with
            | true => exact hskip _ (by simp [Region.wanted, hg, hy]) h (ha.lit hp rfl)
            | false => exact hrun _ (by simp [Region.wanted, hg, hy]) h (ha.lit hp rfl)
        · rename_i vs hp
          have hv := ha.get _ _ hp
          simp only [den] at hv
          have hy := yielded_tuple hdj hv
          exact hskip _ (by simp [Region.wanted, hg, hy]) h ha
        · exact h.elim
theorem nodupB_spec : ∀ {l : List Nat}, nodupB l = true → l.Nodup
  | [], _ => List.nodup_nil
  | x :: l, h => by
    simp only [nodupB, Bool.and_eq_true, Bool.not_eq_true'] at h
    refine List.nodup_cons.2 ⟨fun hx => ?_, nodupB_spec h.2⟩
    rw [memN_iff.2 hx] at h; exact absurd h.1 (by simp)
theorem put_other {a : Act} {d t : Nat} {v : Value} (h : ¬ d = t) : (a.put (some d) v).tmps.getD t undef = a.tmps.getD t undef := by
  simp only [Act.put]
  simp [Array.getD_eq_getD_getElem?, h]
theorem dst_inj {β : Type} {all : List Oper} {d : Nat} : ∀ {ps : List (PN β)} {p q : PN β}, (dstsP all ps).Nodup → p ∈ ps → q ∈ ps → dstOf all p.i = some d → dstOf all q.i = some d → p = q
  | r :: ps, p, q, hn, hp, hq, h1, h2 => by
    simp only [dstsP] at hn
    have hn' : (dstsP all ps).Nodup := by
      split at hn
      · exact (List.nodup_cons.1 hn).2
      · exact hn
    rcases List.mem_cons.1 hp with rfl | hp' <;> rcases List.mem_cons.1 hq with rfl | hq'
    · rfl
    · rw [h1] at hn
      exact absurd (mem_dstsP hq' h2) (List.nodup_cons.1 hn).1
    · rw [h2] at hn
      exact absurd (mem_dstsP hp' h1) (List.nodup_cons.1 hn).1
    · exact dst_inj hn' hp' hq' h1 h2
theorem id_inj {β : Type} : ∀ {ps : List (PN β)} {p q : PN β}, (idsP ps).Nodup → p ∈ ps → q ∈ ps → p.i = q.i → p = q
  | r :: ps, p, q, hn, hp, hq, h => by
    simp only [idsP] at hn
    obtain ⟨h1, h2⟩ := List.nodup_cons.1 hn
    rcases List.mem_cons.1 hp with rfl | hp' <;> rcases List.mem_cons.1 hq with rfl | hq'
    · rfl
    · exact absurd (mem_idsP.2 ⟨q, hq', h.symm⟩) h1
    · exact absurd (mem_idsP.2 ⟨p, hp', h⟩) h1
    · exact id_inj h2 hp' hq' h
theorem use_inj {β : Type} {u : Nat} : ∀ {ps : List (PN β)} {p q : PN β}, (usesP ps).Nodup → p ∈ ps → q ∈ ps → p.use = some u → q.use = some u → p = q
  | r :: ps, p, q, hn, hp, hq, h1, h2 => by
    have hm : ∀ {ps : List (PN β)} {p : PN β}, p ∈ ps → p.use = some u → u ∈ usesP ps := by
      intro ps
      induction ps with
      | nil => intro p h; cases h
      | cons x l ih =>
        intro p h hu
        rcases List.mem_cons.1 h with rfl | h
        · simp [usesP, hu]
        · simp only [usesP]
          split
          · exact List.mem_cons_of_mem _ (ih h hu)
          · exact ih h hu
    simp only [usesP] at hn
    have hn' : (usesP ps).Nodup := by
      split at hn
      · exact (List.nodup_cons.1 hn).2
      · exact hn
    rcases List.mem_cons.1 hp with rfl | hp' <;> rcases List.mem_cons.1 hq with rfl | hq'
    · rfl
    · rw [h1] at hn
      exact absurd (hm hq' h2) (List.nodup_cons.1 hn).1
    · rw [h2] at hn
      exact absurd (hm hp' h1) (List.nodup_cons.1 hn).1
    · exact use_inj hn' hp' hq' h1 h2
theorem perm_of_mem {α : Type} : ∀ {l r : List α}, l.Nodup → r.Nodup → (∀ x, x ∈ l ↔ x ∈ r) → l.Perm r
  | [], r, _, _, h => by
    cases r with
    | nil => exact List.Perm.refl _
    | cons a r => exact absurd ((h a).2 (by simp)) (by simp)
  | a :: l, r, hl, hr, h => by
    obtain ⟨s, t, rfl⟩ := List.append_of_mem ((h a).1 (by simp))
    obtain ⟨h1, h2⟩ := List.nodup_cons.1 hl
    have hp : (s ++ a :: t).Perm (a :: (s ++ t)) := List.perm_middle
    have hr' := hp.nodup_iff.1 hr
    obtain ⟨h3, h4⟩ := List.nodup_cons.1 hr'
    refine (List.Perm.cons a (perm_of_mem h2 h4 fun x => ?_)).trans hp.symm
    have hx := (h x).trans hp.mem_iff
    simp only [List.mem_cons] at hx
    constructor
    · intro hxl
      rcases hx.1 (.inr hxl) with rfl | h5
      · exact absurd hxl h1
      · exact h5
    · intro hxr
      rcases hx.2 (.inr hxr) with rfl | h5
      · exact absurd hxr h3
      · exact h5
def isUsed {β : Type} (u : Nat) : List (PN β) → Bool
  | [] => false
  | p :: ps => match p.use with
    | some v => cond (Nat.beq v u) true (isUsed u ps)
    | none => isUsed u ps
theorem isUsed_iff {β : Type} {u : Nat} : ∀ {ps : List (PN β)}, isUsed u ps = true ↔ ∃ p ∈ ps, p.use = some u
  | [] => by simp [isUsed]
  | p :: ps => by
    have ih := isUsed_iff (u := u) (ps := ps)
    simp only [isUsed]
    split
    · rename_i v hv
      cases hb : Nat.beq v u with
      | true =>
        obtain rfl := Nat.eq_of_beq_eq_true hb
        simp only [cond_true, true_iff]
        exact ⟨p, by simp, hv⟩
      | false =>
        simp only [cond_false]
        rw [ih]
        constructor
        · rintro ⟨q, h1, h2⟩; exact ⟨q, List.mem_cons_of_mem _ h1, h2⟩
        · rintro ⟨q, h1, h2⟩
          rcases List.mem_cons.1 h1 with rfl | h1
          · rw [hv] at h2
            simp only [Option.some.injEq] at h2
            subst h2
            simp at hb
          · exact ⟨q, h1, h2⟩
    · rename_i hv
      rw [ih]
      constructor
      · rintro ⟨q, h1, h2⟩; exact ⟨q, List.mem_cons_of_mem _ h1, h2⟩
      · rintro ⟨q, h1, h2⟩
        rcases List.mem_cons.1 h1 with rfl | h1
        · rw [hv] at h2; cases h2
        · exact ⟨q, h1, h2⟩
def liveF {β : Type} (ps : List (PN β)) : List (PN β) → (List (PN β) → Prop) → Prop
  | [], k => k []
  | q :: qs, k => cond (isUsed q.i ps) (liveF ps qs k) (liveF ps qs (fun r => k (q :: r)))
def liveL {β : Type} (ps : List (PN β)) : List (PN β) → List (PN β)
  | [] => []
  | q :: qs => cond (isUsed q.i ps) (liveL ps qs) (q :: liveL ps qs)
theorem liveF_eq {β : Type} (ps : List (PN β)) : ∀ (qs : List (PN β)) (k : List (PN β) → Prop), liveF ps qs k = k (liveL ps qs)
  | [], _ => rfl
  | q :: qs, k => by
    simp only [liveF, liveL]
    cases isUsed q.i ps <;> simp only [cond_true, cond_false] <;> rw [liveF_eq ps qs]
theorem mem_liveL {β : Type} {ps : List (PN β)} {x : PN β} : ∀ {qs : List (PN β)}, x ∈ liveL ps qs ↔ x ∈ qs ∧ isUsed x.i ps = false
  | [] => by simp [liveL]
  | q :: qs => by
    have ih := mem_liveL (ps := ps) (x := x) (qs := qs)
    simp only [liveL]
    cases hb : isUsed q.i ps with
    | true =>
      simp only [cond_true, List.mem_cons]
      rw [ih]
      constructor
      · rintro ⟨h1, h2⟩; exact ⟨.inr h1, h2⟩
      · rintro ⟨rfl | h1, h2⟩
        · rw [hb] at h2; cases h2
        · exact ⟨h1, h2⟩
    | false =>
      simp only [cond_false, List.mem_cons]
      rw [ih]
      constructor
      · rintro (rfl | ⟨h1, h2⟩)
        · exact ⟨.inl rfl, hb⟩
        · exact ⟨.inr h1, h2⟩
      · rintro ⟨rfl | h1, h2⟩
        · exact .inl rfl
        · exact .inr ⟨h1, h2⟩
theorem liveL_nodup {β : Type} {ps : List (PN β)} : ∀ {qs : List (PN β)}, qs.Nodup → (liveL ps qs).Nodup
  | [], _ => List.nodup_nil
  | q :: qs, h => by
    obtain ⟨h1, h2⟩ := List.nodup_cons.1 h
    simp only [liveL]
    cases isUsed q.i ps with
    | true => exact liveL_nodup h2
    | false => exact List.nodup_cons.2 ⟨fun hm => h1 (mem_liveL.1 hm).1, liveL_nodup h2⟩
theorem dstOf_get {l : List Oper} {j : Nat} {o : Oper} (h : l[j]? = some o) : dstOf l j = o.dst := by
  induction l generalizing j with
  | nil => simp at h
  | cons x l ih => cases j with
    | zero =>
      rw [List.getElem?_cons_zero, Option.some.injEq] at h
      rw [← h]
      rfl
    | succ n =>
      rw [List.getElem?_cons_succ] at h
      exact ih h
theorem nodup_ps {β : Type} : ∀ {ps : List (PN β)}, (idsP ps).Nodup → ps.Nodup
  | [], _ => List.nodup_nil
  | p :: ps, h => by
    simp only [idsP] at h
    obtain ⟨h1, h2⟩ := List.nodup_cons.1 h
    exact List.nodup_cons.2 ⟨fun hp => h1 (mem_idsP.2 ⟨p, hp, rfl⟩), nodup_ps h2⟩
theorem min_id {β : Type} : ∀ {R : List (PN β)}, R ≠ [] → ∃ p ∈ R, ∀ q ∈ R, p.i ≤ q.i
  | [], h => absurd rfl h
  | [p], _ => ⟨p, by simp, by simp⟩
  | p :: q :: R, _ => by
    obtain ⟨m, hm, hmin⟩ := min_id (R := q :: R) (by simp)
    by_cases h : p.i ≤ m.i
    · refine ⟨p, by simp, fun x hx => ?_⟩
      rcases List.mem_cons.1 hx with rfl | hx
      · exact Nat.le_refl _
      · exact Nat.le_trans h (hmin x hx)
    · refine ⟨m, List.mem_cons_of_mem _ hm, fun x hx => ?_⟩
      rcases List.mem_cons.1 hx with rfl | hx
      · omega
      · exact hmin x hx
theorem getD_set {L : List Bool} {i j : Nat} (hi : i < L.length) : (L.set i true).toArray.getD j false = if j = i then true else L.toArray.getD j false := by
  simp only [Array.getD_eq_getD_getElem?, List.getElem?_toArray, List.getElem?_set]
  by_cases h : i = j
  · subst h; simp [hi]
  · rw [if_neg h, if_neg (Ne.symm h)]
theorem getD_tf {L : List Bool} {i : Nat} (h : L.toArray.getD i true = false) : i < L.length ∧ L.toArray.getD i false = false := by
  simp only [Array.getD_eq_getD_getElem?, List.getElem?_toArray] at h ⊢
  cases hb : L[i]? with
  | none => rw [hb] at h; cases h
  | some b =>
    rw [hb] at h
    simp only [Option.getD_some] at h ⊢
    refine ⟨?_, h⟩
    rcases Nat.lt_or_ge i L.length with h1 | h1
    · exact h1
    · rw [List.getElem?_eq_none h1] at hb; cases hb
theorem getD_ft {L : List Bool} {i : Nat} (hi : i < L.length) (h : L.toArray.getD i false = false) : L.toArray.getD i true = false := by
  simp only [Array.getD_eq_getD_getElem?, List.getElem?_toArray, List.getElem?_eq_getElem hi, Option.getD_some] at h ⊢
  exact h
theorem par_run {β : Type} {c : Cx} {all : List Oper} {ps qs : List (PN β)} {t : Nat} {E0 : Env} {H : List Blk} {k : KE} {kc : KC} (hT : TOk c.P c.T) (hB : parB all ps qs t = true) (hfr : freeB all = true)
    (hE0 : ∀ u s, look u E0 = some s → u ∉ dstsP all ps)
    (hspec : ∀ p ∈ ps, specP c all ps qs E0 H p)
    (hend : ∀ z, anyF c all k t (markL (idsP ps) 0 all.length) (bindE all ps z (idsP ps) E0) (memL z (liveL ps (ps ++ qs)) H))
    (hQ : ∀ ms E H a w, k E H → Has c.n ms E a → Kn c.W c.S ms H w → QC c kc .normal a w) :
    ∀ (r : Nat) (D R V : List (PN β)) (L : List Bool) (z : Nat → β) (ms : List Nat) (a : Act) (w : World), R.length = r → ps.Perm (D ++ R) → L.length = all.length →
      (∀ i, i < all.length → (L.toArray.getD i false = true ↔ ∃ p ∈ D, p.i = i)) → closedL all L.toArray → Has c.n ms E0 a →
      (∀ p ∈ D, ∀ d, dstOf all p.i = some d → a.tmps.getD d undef = den (p.v z)) → V.Nodup → (∀ q, q ∈ V ↔ (q ∈ D ∨ q ∈ qs) ∧ ∀ p ∈ D, p.use ≠ some q.i) → Kn c.W c.S ms (memL z V H) w →
      wpAnyIn c.F 0 c.P .any all.toArray (QC c kc) (r + t) L.toArray a w := by
  simp only [parB, Bool.and_eq_true] at hB
  obtain ⟨⟨⟨⟨⟨⟨hnd, hlen⟩, hid⟩, hdd⟩, hps⟩, htail⟩, ⟨⟨hud, hqd⟩, hqs⟩, huse⟩ := hB
  have hid := nodupB_spec hid
  have hdd := nodupB_spec hdd
  have hud := nodupB_spec hud
  have hqd := nodupB_spec hqd
  simp only [List.all_eq_true, Bool.and_eq_true, List.isEmpty_iff] at hqs
  simp only [List.all_eq_true] at huse
  simp only [List.all_eq_true, Bool.and_eq_true, Bool.or_eq_true, List.mem_range] at hps htail
  have hblt : ∀ {i m : Nat}, Nat.blt i m = true → i < m := fun h => Nat.le_of_ble_eq_true h
  have hplt : ∀ p ∈ ps, p.i < all.length := fun p hp => hblt (hps p hp).1.1
  have hqge : ∀ q ∈ qs, all.length ≤ q.i := fun q hq => Nat.le_of_ble_eq_true (hqs q hq).1
  have hndA : (ps ++ qs).Nodup := List.nodup_append.2 ⟨nodup_ps hid, nodup_ps hqd, fun a ha b hb hab => by
    have h1 := hplt a ha
    have h2 := hqge b hb
    rw [hab] at h1
    omega⟩
  intro r
  induction r with
  | zero =>
    intro D R V L z ms a w hr hp hl hD hc ha hv hVn hV hk
    have : R = [] := List.length_eq_zero_iff.1 hr
    subst this
    rw [List.append_nil] at hp
    have hL : L = markL (idsP ps) 0 all.length := by
      refine List.ext_getElem? fun i => ?_
      rcases Nat.lt_or_ge i all.length with h | h
      · rw [markL_get _ _ _ _ h, Nat.zero_add]
        have h1 := hD i h
        simp only [Array.getD_eq_getD_getElem?, List.getElem?_toArray] at h1
        rw [List.getElem?_eq_getElem (hl ▸ h)] at h1 ⊢
        simp only [Option.getD_some] at h1
        congr 1
        cases hb : memN i (idsP ps) with
        | true =>
          obtain ⟨p, hp1, hp2⟩ := mem_idsP.1 (memN_iff.1 hb)
          exact h1.2 ⟨p, hp.mem_iff.1 hp1, hp2⟩
        | false =>
          cases hb2 : L[i]'(hl ▸ h) with
          | false => rfl
          | true =>
            obtain ⟨p, hp1, hp2⟩ := h1.1 hb2
            rw [memN_iff.2 (mem_idsP.2 ⟨p, hp.mem_iff.2 hp1, hp2⟩)] at hb
            cases hb
      · rw [List.getElem?_eq_none (by omega), List.getElem?_eq_none (by rw [markL_length]; omega)]
    rw [Nat.zero_add]
    refine anyF_sound hT hnd hfr hQ _ _ _ _ (hL ▸ hend z) ms a w (ha.bindE fun j hj p d h1 h2 => ?_) (hk.hsub (HSub.perm (memL_perm z H (perm_of_mem hVn (liveL_nodup hndA) fun x => ?_))))
    · obtain ⟨h3, rfl⟩ := findP_spec h1
      exact hv p (hp.mem_iff.1 h3) d h2
    · rw [hV, mem_liveL, List.mem_append]
      refine and_congr (or_congr hp.mem_iff.symm Iff.rfl) ?_
      constructor
      · intro h
        cases hb : isUsed x.i ps with
        | false => rfl
        | true =>
          obtain ⟨p, h1, h2⟩ := isUsed_iff.1 hb
          exact absurd h2 (h p (hp.mem_iff.1 h1))
      · intro h p h1 h2
        rw [isUsed_iff.2 ⟨p, hp.mem_iff.2 h1, h2⟩] at h
        cases h
  | succ r ih =>
    intro D R V L z ms a w hr hp hl hD hc ha hv hVn hV hk
    have hRne : R ≠ [] := by rintro rfl; cases hr
    have hDps : ∀ p ∈ D, p ∈ ps := fun p h => hp.mem_iff.2 (List.mem_append_left _ h)
    have hRps : ∀ p ∈ R, p ∈ ps := fun p h => hp.mem_iff.2 (List.mem_append_right _ h)
    have hndup : (D ++ R).Nodup := (hp.nodup_iff).1 (nodup_ps hid)
    have hdis : ∀ p ∈ D, ∀ q ∈ R, p.i ≠ q.i := by
      intro p h1 q h2 h3
      have := id_inj hid (hDps p h1) (hRps q h2) h3
      subst this
      exact (List.nodup_append.1 hndup).2.2 p h1 p h2 rfl
    have hun' : ∀ q ∈ R, L.toArray.getD q.i false = false := by
      intro q hq
      cases hb : L.toArray.getD q.i false with
      | false => rfl
      | true =>
        obtain ⟨p, h1, h2⟩ := (hD q.i (hplt q (hRps q hq))).1 hb
        exact absurd h2 (hdis p h1 q hq)
    have hdepL : ∀ q ∈ D, ∀ j ∈ q.deps, L.toArray.getD j false = true := by
      intro q hq j hj
      have h1 := (hD q.i (hplt q (hDps q hq))).2 ⟨q, hq, rfl⟩
      have h2 := ((hps q (hDps q hq)).1.2 j hj).2
      have h3 : all[q.i]? = some (all[q.i]'(hplt q (hDps q hq))) := List.getElem?_eq_getElem _
      exact dep_listed hc _ _ _ h2 ⟨_, h3, fun e he hb => hc _ _ h3 h1 e he hb⟩
    rw [show r + 1 + t = (r + t) + 1 by omega]
    refine ⟨fun h0 => ?_, fun i hi => ?_⟩
    · exfalso
      obtain ⟨p, hpR, hmin⟩ := min_id hRne
      have h3 : all[p.i]? = some (all[p.i]'(hplt p (hRps p hpR))) := List.getElem?_eq_getElem _
      have hmem : p.i ∈ Region.ready .any all.toArray L.toArray := by
        refine mem_ready.2 ⟨getD_ft (by rw [hl]; exact hplt p (hRps p hpR)) (hun' p hpR), _, by rw [List.getElem?_toArray]; exact h3, fun e he hb => ?_⟩
        have h4 := (hps p (hRps p hpR)).2
        simp only [h3, List.all_eq_true, Bool.or_eq_true, Bool.and_eq_true, Bool.not_eq_true'] at h4
        rcases h4 e (by simpa using he) with h5 | ⟨h5, h6⟩
        · rw [hb] at h5; cases h5
        · obtain ⟨q, hq1, hq2⟩ := mem_idsP.1 (memN_iff.1 h6)
          have h7 := hblt h5
          rcases List.mem_append.1 (hp.mem_iff.1 hq1) with h8 | h8
          · exact (hD _ (by have := hplt p (hRps p hpR); omega)).2 ⟨q, h8, hq2⟩
          · have := hmin q h8; omega
      rw [h0] at hmem; cases hmem
    · obtain ⟨hun, o, ho, hrd⟩ := mem_ready.1 hi
      have ho : all[i]? = some o := by simpa using ho
      obtain ⟨hiL, hif⟩ := getD_tf hun
      have hilt : i < all.length := by omega
      obtain ⟨p, hpR, rfl⟩ : ∃ p ∈ R, p.i = i := by
        rcases htail i hilt with h | h
        · obtain ⟨p, h1, h2⟩ := mem_idsP.1 (memN_iff.1 h)
          rcases List.mem_append.1 (hp.mem_iff.1 h1) with h3 | h3
          · have := (hD i hilt).2 ⟨p, h3, h2⟩
            rw [hif] at this; cases this
          · exact ⟨p, h3, h2⟩
        · exfalso
          obtain ⟨q, hq⟩ := List.exists_mem_of_ne_nil _ hRne
          have h1 := h q.i (mem_idsP.2 ⟨q, hRps q hq, rfl⟩)
          have h2 := dep_listed hc _ _ _ h1 ⟨o, ho, hrd⟩
          rw [hun' q hq] at h2; cases h2
      have hpps := hRps p hpR
      obtain ⟨o', ho', hs⟩ := nthO_spec (hspec p hpps)
      rw [ho] at ho'
      obtain rfl : o = o' := by simpa using ho'
      have hdepi : ∀ j ∈ p.deps, L.toArray.getD j false = true := fun j hj => dep_listed hc _ _ _ ((hps p hpps).1.2 j hj).2 ⟨o, ho, hrd⟩
      -- the blocks that it uses
      obtain ⟨U, V', hUV, hU1, hU2⟩ : ∃ (U : List Blk) (V' : List (PN β)), (memL z V H).Perm (U ++ (memL z V' [] ++ H)) ∧
          (∀ k, useF (ps ++ qs) z p.use H k → k (U ++ H)) ∧ V'.Nodup ∧ (∀ q, q ∈ V' ↔ q ∈ V ∧ p.use ≠ some q.i) := by
        cases hu : p.use with
        | none =>
          refine ⟨[], V, ?_, fun k h => h, hVn, fun q => ?_⟩
          · rw [memL_app]; exact List.Perm.refl _
          · simp
        | some u =>
          obtain ⟨q, hqV, hqu, hqf⟩ : ∃ q ∈ V, q.i = u ∧ ∀ q', findP u (ps ++ qs) = some q' → q' = q := by
            have h1 := huse p hpps
            rw [hu] at h1
            simp only [Bool.or_eq_true] at h1
            have hno : ∀ r ∈ D, r.use ≠ some u := by
              intro r hr hru
              have := use_inj hud (hDps r hr) hpps hru hu
              subst this
              exact hdis r hr r hpR rfl
            rcases h1 with h1 | h1
            · have h2 := hdepi u (memN_iff.1 h1)
              have hult : u < all.length := by
                obtain ⟨q, h3, h4⟩ := mem_idsP.1 (memN_iff.1 ((hps p hpps).1.2 u (memN_iff.1 h1)).1)
                rw [← h4]; exact hplt q h3
              obtain ⟨q, h3, h4⟩ := (hD u hult).1 h2
              refine ⟨q, (hV q).2 ⟨.inl h3, by rw [h4]; exact hno⟩, h4, fun q' h5 => ?_⟩
              obtain ⟨h6, h7⟩ := findP_spec h5
              rcases List.mem_append.1 h6 with h6 | h6
              · exact id_inj hid h6 (hDps q h3) (h7.trans h4.symm)
              · have := hqge q' h6; omega
            · obtain ⟨q, h3, h4⟩ := mem_idsP.1 (memN_iff.1 h1)
              refine ⟨q, (hV q).2 ⟨.inr h3, by rw [h4]; exact hno⟩, h4, fun q' h5 => ?_⟩
              obtain ⟨h6, h7⟩ := findP_spec h5
              have := hqge q h3
              rcases List.mem_append.1 h6 with h6 | h6
              · have := hplt q' h6; omega
              · exact id_inj hqd h6 h3 (h7.trans h4.symm)
          obtain ⟨v1, v2, rfl⟩ := List.append_of_mem hqV
          have hpm : (v1 ++ q :: v2).Perm (q :: (v1 ++ v2)) := List.perm_middle
          have hn2 := List.nodup_cons.1 (hpm.nodup_iff.1 hVn)
          refine ⟨q.m z, v1 ++ v2, ?_, fun k h => ?_, hn2.2, fun x => ?_⟩
          · refine (memL_perm z H hpm).trans ?_
            simp only [memL]
            rw [memL_app z (v1 ++ v2) H]
          · simp only [useF] at h
            split at h
            · rename_i q' hq'
              rw [appB_eq] at h
              rw [hqf q' hq'] at h
              exact h
            · exact h.elim
          · rw [hpm.mem_iff, List.mem_cons]
            constructor
            · intro hx
              refine ⟨.inr hx, fun h => ?_⟩
              simp only [Option.some.injEq] at h
              have hxV := (hV x).1 (hpm.mem_iff.2 (List.mem_cons_of_mem _ hx))
              have hqV2 := (hV q).1 hqV
              have hxq : x = q := by
                have e : x.i = q.i := by rw [← h, hqu]
                rcases hxV.1 with h1 | h1 <;> rcases hqV2.1 with h2 | h2
                · exact id_inj hid (hDps x h1) (hDps q h2) e
                · have := hplt x (hDps x h1); have := hqge q h2; omega
                · have := hplt q (hDps q h2); have := hqge x h1; omega
                · exact id_inj hqd h1 h2 e
              subst hxq
              exact hn2.1 hx
            · rintro ⟨rfl | hx, h⟩
              · exact absurd (by rw [hqu]) h
              · exact hx
      have hs := hs z (AssL (memL z V' [])) (fun E' H' => ∃ ζ, SubD (dstE all p (p.val (mapZ z p.deps) ζ)) E' ∧ HSub (p.mem (mapZ z p.deps) ζ ++ (H ++ [.ext 900 (AssL (memL z V' []))])) H') (fun ζ E' H' h1 h2 => ⟨ζ, h1, h2⟩)
      rw [bindF_eq] at hs
      have hs := snocF_spec (hU1 _ hs)
      have ha' : Has c.n ms (bindE all ps z p.deps E0) a := by
        refine ha.bindE fun j hj q d h1 h2 => ?_
        obtain ⟨h3, rfl⟩ := findP_spec h1
        obtain ⟨q', h4, h5⟩ := (hD _ (hplt q h3)).1 (hdepi _ hj)
        have := id_inj hid (hDps q' h4) h3 h5
        subst this
        exact hv q' h4 d h2
      have hk' : Kn c.W c.S ms (U ++ H ++ [.ext 900 (AssL (memL z V' []))]) w := by
        refine hk.hsub (HSub.trans ?_ (HSub.perm hUV))
        refine HSub.trans ((HSub.refl (U ++ H)).app2 HSub.join) ?_
        rw [List.append_assoc]
        exact (HSub.refl U).app2 (HSub.perm List.perm_append_comm)
      unfold wpOpIn
      simp only [List.getElem?_toArray, ho]
      refine opG_sound' hT hs ha' hk' ?_
      rintro E' H' ⟨ζ, hE, hH⟩ ms' v w' haE hkE
      obtain ⟨s1, s2, hR⟩ := List.append_of_mem hpR
      have hz : ∀ q ∈ D, (fun j => if j = p.i then ζ else z j) q.i = z q.i ∧ mapZ (fun j => if j = p.i then ζ else z j) q.deps = mapZ z q.deps := by
        intro q hq
        refine ⟨if_neg (hdis q hq p hpR), mapZ_congr fun j hj => if_neg ?_⟩
        rintro rfl
        have := hdepL q hq _ hj
        rw [hif] at this; cases this
      have hzp : mapZ (fun j => if j = p.i then ζ else z j) p.deps = mapZ z p.deps := by
        refine mapZ_congr fun j hj => if_neg ?_
        rintro rfl
        have := hdepi _ hj
        rw [hif] at this; cases this
      have hgoal := ih (p :: D) (s1 ++ s2) (p :: V') (L.set p.i true) (fun j => if j = p.i then ζ else z j) ms' (a.put o.dst v) w'
        (by rw [hR] at hr; simp at hr ⊢; omega)
        (by rw [hR, ← List.append_assoc] at hp; refine hp.trans (List.perm_middle.trans ?_); rw [List.append_assoc]; exact List.Perm.refl _)
        (by simpa using hl)
        (by
          intro j hj
          rw [getD_set hiL]
          by_cases hji : j = p.i
          · subst hji; simp
          · rw [if_neg hji, hD j hj]
            constructor
            · rintro ⟨q, h1, h2⟩; exact ⟨q, List.mem_cons_of_mem _ h1, h2⟩
            · rintro ⟨q, h1, h2⟩
              rcases List.mem_cons.1 h1 with rfl | h1
              · exact absurd h2.symm hji
              · exact ⟨q, h1, h2⟩)
        (by
          intro j oj hoj hj e he hb
          rw [getD_set hiL] at hj ⊢
          by_cases hei : e.on = p.i
          · rw [if_pos hei]
          · rw [if_neg hei]
            by_cases hji : j = p.i
            · subst hji
              rw [ho] at hoj
              obtain rfl : o = oj := by simpa using hoj
              exact hrd e he hb
            · rw [if_neg hji] at hj
              exact hc j oj hoj hj e he hb)
        (by
          refine ⟨haE.size, haE.defers, fun u s hu => ?_⟩
          cases hd : o.dst with
          | none => exact ha.get u s hu
          | some d =>
            rw [put_other (fun h : d = u => hE0 u s hu (by rw [← h]; exact mem_dstsP hpps ((dstOf_get ho).trans hd)))]
            exact ha.get u s hu)
        (by
          intro q hq d hd
          rcases List.mem_cons.1 hq with rfl | hq
          · have hd2 : o.dst = some d := (dstOf_get ho).symm.trans hd
            have h1 : look d (dstE all q (q.val (mapZ z q.deps) ζ)) = some (q.val (mapZ z q.deps) ζ) := by
              simp [dstE, hd, look]
            obtain ⟨s', h2, h3⟩ := hE.spec d _ h1
            rw [haE.get d s' h2, h3]
            simp only [PN.v, hzp, if_true]
          · have h1 : ¬ o.dst = some d := by
              intro h
              have := dst_inj hdd hpps (hDps q hq) ((dstOf_get ho).trans h) hd
              subst this
              exact hdis p hq p hpR rfl
            have h2 : (a.put o.dst v).tmps.getD d undef = a.tmps.getD d undef := by
              cases ho' : o.dst with
              | none => rfl
              | some d' => exact put_other (fun h => h1 (by rw [ho', h]))
            rw [h2, hv q hq d hd]
            simp only [PN.v]
            rw [(hz q hq).2, if_neg (hdis q hq p hpR)])
        (List.nodup_cons.2 ⟨fun h => by
          have h1 := (hV p).1 ((hU2.2 p).1 h).1
          rcases h1.1 with h2 | h2
          · exact hdis p h2 p hpR rfl
          · have := hplt p hpps; have := hqge p h2; omega, hU2.1⟩)
        (by
          intro q
          rw [List.mem_cons, hU2.2, hV]
          constructor
          · rintro (rfl | ⟨⟨h1, h2⟩, h3⟩)
            · refine ⟨.inl (by simp), fun r hr hru => ?_⟩
              have hrps : r ∈ ps := by
                rcases List.mem_cons.1 hr with rfl | hr
                · exact hpps
                · exact hDps r hr
              have h1 := huse r hrps
              rw [hru] at h1
              simp only [Bool.or_eq_true] at h1
              rcases h1 with h1 | h1
              · rcases List.mem_cons.1 hr with rfl | hr
                · have := hdepi _ (memN_iff.1 h1)
                  rw [hif] at this; cases this
                · have := hdepL r hr _ (memN_iff.1 h1)
                  rw [hif] at this; cases this
              · obtain ⟨q', h3, h4⟩ := mem_idsP.1 (memN_iff.1 h1)
                have := hqge q' h3; have := hplt q hpps; omega
            · refine ⟨h1.imp (fun h => List.mem_cons_of_mem _ h) id, fun r hr => ?_⟩
              rcases List.mem_cons.1 hr with rfl | hr
              · exact h3
              · exact h2 r hr
          · rintro ⟨h1, h2⟩
            by_cases hqp : q = p
            · exact .inl hqp
            · refine .inr ⟨⟨?_, fun r hr => h2 r (List.mem_cons_of_mem _ hr)⟩, h2 p (by simp)⟩
              rcases h1 with h1 | h1
              · rcases List.mem_cons.1 h1 with h1 | h1
                · exact absurd h1 hqp
                · exact .inl h1
              · exact .inr h1)
        (by
          refine hkE.hsub (HSub.trans ?_ hH)
          simp only [memL]
          rw [memL_congr (z := fun j => if j = p.i then ζ else z j) (z' := z) (fun q hq => by
            have h1 := (hV q).1 ((hU2.2 q).1 hq).1
            simp only [PN.m]
            rcases h1.1 with h2 | h2
            · rw [(hz q h2).2, if_neg (hdis q h2 p hpR)]
            · rw [(hqs q h2).2, if_neg (by have := hqge q h2; have := hplt p hpps; omega)]
              rfl), memL_app z V' H]
          simp only [PN.m, hzp, if_true]
          exact (HSub.refl _).app2 (HSub.trans (HSub.perm List.perm_append_comm) ((HSub.refl H).app2 HSub.unjoin)))
      simpa using hgoal
theorem r_par {β : Type} [Inhabited β] (ps qs : List (PN β)) (t : Nat) {c : Cx} {id : Nat} {l : List Oper} {E : Env} {H0 : List Blk} {k : KC} (H : List Blk) (hm : c.P.follows .mixedOrders = true) (hB : parB l ps qs t = true) (hfr : freeB l = true)
    (hH : HSub (memL (fun _ => default) qs H) H0)
    (h1 : dropKF (dstsP l ps) E (fun E0 => allP ps (specP c l ps qs E0 H)))
    (h2 : dropKF (dstsP l ps) E (fun E0 => ∀ z, bindF l ps z (idsP ps) E0 (fun E1 => liveF ps (ps ++ qs) (fun vs => memF z vs H (fun H1 => markF (idsP ps) 0 l.length (fun L => anyF c l (k .nrm) t L E1 H1)))))) :
    Run c (.region id l.toArray true) E H0 k := by
  rw [dropKF_eq] at h1 h2
  refine .of fun ms a w ha hk => ?_
  refine wpIn_region_any hm ?_
  have hlen : ps.length + t = l.length := by
    simp only [parB, Bool.and_eq_true] at hB
    exact Nat.eq_of_beq_eq_true hB.1.1.1.1.1.2
  have hqn : qs.Nodup := by
    simp only [parB, Bool.and_eq_true] at hB
    exact nodup_ps (nodupB_spec hB.2.1.1.2)
  have := par_run c.ok hB hfr (E0 := dropK (dstsP l ps) E) (H := H) (k := k .nrm) (kc := k) (fun u s hu => (look_dropK hu).2) (fun p hp => allP_spec h1 p hp)
    (fun z => by have := h2 z; rw [bindF_eq, liveF_eq, memF_eq, markF_eq] at this; exact this)
    (fun ms E H a w h ha hk => ⟨ms, E, H, ha, hk, h⟩) ps.length [] ps qs (List.replicate l.length false) (fun _ => default) ms a _ rfl (by simp) (by simp)
    (by intro i hi; simp [Array.getD_eq_getD_getElem?, hi])
    (by intro i o ho hl2; exfalso; rw [Array.getD_eq_getD_getElem?, List.getElem?_toArray, List.getElem?_replicate] at hl2; split at hl2 <;> cases hl2)
    ⟨ha.size, ha.defers, fun u s hu => ha.get u s (look_dropK hu).1⟩ (by simp) hqn (by simp) ((Kn.drawn hk).hsub hH)
  rw [hlen] at this
  simpa using this
end Go.X

namespace Go.X
open Go
section
variable {c : Cx} {H : List Blk} {E : Env} {nx : K1} {o : Oper}
theorem Run.slAddr {x : Code} {k : KC} {i e m : Nat} {a : Option Addr} {n cap : Nat} {cs : List Value} {f : Blk → List Blk} (hu : At H (.ext i (SlA e m a n cap cs)) f) (hn : 0 < n)
    (h : ∀ b off, a = some ⟨b, off, none⟩ → Run c x E H k) : Run c x E H k := by
  match a with
  | none =>
    refine .of fun ms ac w hac hk => ?_
    obtain ⟨S, hS, _⟩ := (Sees.ext (c := c) hu) ms w hk
    rcases hS with ⟨_, rfl, _, _⟩ | ⟨b', hb, pre, post, fr, he, _⟩
    · omega
    · cases he
  | some ⟨b, off, none⟩ => exact h b off rfl
  | some ⟨b, off, some p⟩ =>
    refine .of fun ms ac w hac hk => ?_
    obtain ⟨S, hS, _⟩ := (Sees.ext (c := c) hu) ms w hk
    rcases hS with ⟨he, _⟩ | ⟨b', hb, pre, post, fr, he, _⟩
    · cases he
    · simp at he
theorem PC.sl {i e m : Nat} {b off n cap : Nat} {cs : List Value} {f : Blk → List Blk} (j : Nat) (hu : At H (.ext i (SlA e m (some ⟨b, off, none⟩) n cap cs)) f) {ecs : List SV} (hc : (cs.drop (j * m)).take m = denL ecs) : PC c H b (off + j * m) ecs := by
  intro ms' w' hk'
  obtain ⟨S', hS', _⟩ := (Sees.ext (c := c) hu) ms' w' hk'
  rcases hS' with ⟨hn, _⟩ | ⟨b', hb', pre', post', fr', he, hh', hl', hnc', hp', hf'⟩
  · cases hn
  · simp only [Option.some.injEq, Addr.mk.injEq, and_true] at he
    obtain ⟨rfl, rfl⟩ := he
    refine ⟨_, _, _, hh', fun q v hm => ?_⟩
    rw [← hc, List.getElem?_take] at hm
    split at hm
    · rw [List.getElem?_drop] at hm
      have hlt : j * m + q < cs.length := (List.getElem?_eq_some_iff.1 hm).1
      simp only [List.getElem?_toArray]
      rw [List.append_assoc, List.getElem?_append_right (by omega), List.getElem?_append_left (by omega)]
      rw [show pre'.length + j * m + q - pre'.length = j * m + q by omega]
      exact hm
    · cases hm
theorem OpK.idxA {t e : Nat} {x ix : Operand} {ti j : TI} (ho : o.op = .indexAddr t x ix) {b off n cap : Nat} {q : IntKind} {z : Int} (hx : opd E x = some (.v (.slice (some ⟨b, off, none⟩) n cap))) (hi : opd E ix = some (.v (.int q z)))
    (hti : c.T.get t = some ti) (hd : ti.desc = .slice e) (hj : c.T.get e = some j) {k : Nat} (hkk : j.size = k) (h0 : 0 ≤ z) (hlt : z < n)
    (h : nx (.v (.pointer (some ⟨b, off + z.toNat * k, none⟩))) H) : OpK c o E H nx := by
  subst hkk
  have hnd : ∀ cl, o.op ≠ .defer cl := by rw [ho]; intro cl e; cases e
  refine OpK.run hnd fun ms ac w hac hk => ?_
  have hu := (c.ok t ti hti).1
  rw [hd] at hu
  have e1 := hac.opd hx
  have e2 := hac.opd hi
  simp only [den] at e1 e2
  refine ⟨_, H, w, ?_, hk, h⟩
  simp [execOp, ho, e1, e2, Instr.indexAt, asIntOf, run_underlying hu, r_sizeOf (c.ok e j hj) w, hlt, h0, add_none, den]
theorem QK.idxA {kk : SV → Prop} {t e : Nat} {x ix : Operand} {ti j : TI} (ho : o.op = .indexAddr t x ix) {b off n cap : Nat} {q : IntKind} {z : Int} (hx : opd E x = some (.v (.slice (some ⟨b, off, none⟩) n cap))) (hi : opd E ix = some (.v (.int q z)))
    (hti : c.T.get t = some ti) (hd : ti.desc = .slice e) (hj : c.T.get e = some j) {k : Nat} (hkk : j.size = k) (h0 : 0 ≤ z) (hlt : z < n)
    (h : kk (.v (.pointer (some ⟨b, off + z.toNat * k, none⟩)))) : QK c o E H kk := by
  subst hkk
  have hu := (c.ok t ti hti).1
  rw [hd] at hu
  refine QK.val _ (fun ms ac w hac hk => ?_) h
  have e1 := hac.opd hx
  have e2 := hac.opd hi
  simp only [den] at e1 e2
  simp [execOp, ho, e1, e2, Instr.indexAt, asIntOf, run_underlying hu, r_sizeOf (c.ok e j hj) w, hlt, h0, add_none, den]
theorem PC.blk {i b t : Nat} {cs : List SV} {f : Blk → List Blk} (hu : At H (.blk i b cs t) f) : PC c H b 0 cs := by
  intro ms w hk
  obtain ⟨A, B, rfl, hf⟩ := hu.spec
  obtain ⟨T, hT, ho⟩ := Kn0.foot hk
  obtain ⟨TX, TY, h1, h2, h3, h4⟩ := hT.split _ _
  obtain ⟨TA, TB, g1, g2, g3, g4⟩ := h2.split A (.blk i b cs t :: B)
  cases g2 with
  | cons hx hb hH hd => exact ⟨_, _, _, hx.2, fun j v hj => by simpa using hj⟩
end
end Go.X

namespace Go.X
open Go
def leS (a b : ByteArray) : Bool := Op.bytesLess a.toList b.toList || (a.toList == b.toList)
def ltS (a b : ByteArray) : Bool := Op.bytesLess a.toList b.toList
theorem bytesLess_tri : ∀ (x y : List UInt8), (!Op.bytesLess x y) = (Op.bytesLess y x || (y == x))
  | [], [] => by simp [Op.bytesLess]
  | [], _ :: _ => by simp [Op.bytesLess]
  | _ :: _, [] => by simp [Op.bytesLess]
  | a :: x, b :: y => by
    have ih := bytesLess_tri x y
    simp only [Op.bytesLess]
    rcases Nat.lt_trichotomy a.toNat b.toNat with h | h | h
    · have h1 : a < b := h
      have h2 : ¬ b < a := by intro h3; have : b.toNat < a.toNat := h3; omega
      have h3 : ¬ b = a := by rintro rfl; omega
      simp [h1, h2, h3]
    · have h1 : a = b := UInt8.toNat_inj.1 h
      subst h1
      have h2 : ¬ a < a := by intro h3; have : a.toNat < a.toNat := h3; omega
      simp only [h2, decide_false, Bool.false_or, beq_self_eq_true, Bool.true_and, ih]
      simp
    · have h1 : b < a := h
      have h2 : ¬ a < b := by intro h3; have : a.toNat < b.toNat := h3; omega
      have h3 : ¬ a = b := by rintro rfl; omega
      have h4 : ¬ b = a := fun e => h3 e.symm
      simp [h1, h2, h3]
theorem ltS_le (a b : ByteArray) : (!ltS a b) = leS b a := bytesLess_tri _ _
section
variable {c : Cx} {o : Oper} {E : Env} {H : List Blk}
theorem run_leS {n ms ac} (ha : Has n ms E ac) {P : Program} {t t' : Nat} {x y : Operand} (ho : o.op = .binOp .leq t x y t') {a b : ByteArray} (hx : opd E x = some (.v (.string a))) (hy : opd E y = some (.v (.string b))) (w : World) :
    (execOp ac.eval o).run P w = .ok (.value (den (.v (.bool (leS a b))))) w := by
  have e1 := ha.opd hx
  have e2 := ha.opd hy
  simp only [den] at e1 e2
  simp [execOp, ho, e1, e2, eqGuard, Go.binOp, Op.stringOp, den, leS]
theorem IK.leS {k : SV → Prop} {t t' : Nat} {x y : Operand} (ho : o.op = .binOp .leq t x y t') {a b : ByteArray} (hx : opd E x = some (.v (.string a))) (hy : opd E y = some (.v (.string b))) (h : k (.v (.bool (leS a b)))) : IK c o E k :=
  ⟨_, fun _ _ ha w => run_leS ha ho hx hy w, h⟩
theorem QK.leS {k : SV → Prop} {t t' : Nat} {x y : Operand} (ho : o.op = .binOp .leq t x y t') {a b : ByteArray} (hx : opd E x = some (.v (.string a))) (hy : opd E y = some (.v (.string b))) (h : k (.v (.bool (leS a b)))) : QK c o E H k :=
  QK.val _ (fun _ _ w ha _ => run_leS ha ho hx hy w) h
theorem OpK.leS {nx : K1} {t t' : Nat} {x y : Operand} (ho : o.op = .binOp .leq t x y t') {a b : ByteArray} (hx : opd E x = some (.v (.string a))) (hy : opd E y = some (.v (.string b))) (h : nx (.v (.bool (leS a b))) H) : OpK c o E H nx :=
  OpK.val (by rw [ho]; intro cl e; cases e) _ (fun _ _ w ha _ => run_leS ha ho hx hy w) h
end
end Go.X

namespace Go.X
open Go
def PuE (P : Program) (f : FuncId) (args : Array Value) (w : World) (Q : Value → Prop) : Prop :=
  CT P f args w fun e w' => ∃ v, e = .returned v ∧ Q v ∧ Go.RowKit.Below w.heap.size w w'
theorem PuE.of {P : Program} {f : FuncId} {args : Array Value} {w : World} {Q : Value → Prop} {v : Value} (h : Pu P f args w v) (hv : Q v) : PuE P f args w Q :=
  CT.mono h fun _ _ ⟨h1, h2⟩ => ⟨v, h1, hv, h2⟩
theorem PuE.mono {P : Program} {f : FuncId} {args : Array Value} {w : World} {Q Q' : Value → Prop} (h : PuE P f args w Q) (hq : ∀ v, Q v → Q' v) : PuE P f args w Q' :=
  CT.mono h fun _ _ ⟨v, h1, h2, h3⟩ => ⟨v, h1, hq v h2, h3⟩
end Go.X

namespace Go.X
open Go
def OldC (W : World) (b off : Nat) (cs : List SV) : Prop :=
  ∃ C t f, W.heap[b]? = some (.cells C t f) ∧ ∀ j v, (denL cs)[j]? = some v → C[off + j]? = some v
section
variable {c : Cx} {H : List Blk}
theorem OldC.pc {b off : Nat} {cs : List SV} (h : OldC c.W b off cs) (hb : ¬ c.S b) : PC c H b off cs := by
  intro ms w hk
  obtain ⟨C, t, f, h1, h2⟩ := h
  refine ⟨C, t, f, ?_, h2⟩
  rw [← h1]
  exact Kn0.old hk b (Array.getElem?_eq_some_iff.1 h1).1 hb
theorem PC.oldC {b off : Nat} {cs : List SV} {ms w} (h : PC c H b off cs) (hk : Kn c.W c.S ms H w) : OldC w b off cs := h ms w hk
end
end Go.X

namespace Go.X
open Go
section
variable {c : Cx} {o : Oper} {E : Env} {H : List Blk} {nx : K1}
theorem OpK.min {x y : Operand} {t t' : Nat} (ho : o.op = .call { callee := .builtin .min, args := #[x, y], argTypes := #[t, t'] }) {q : IntKind} {a b : Int} (hx : opd E x = some (.v (.int q a))) (hy : opd E y = some (.v (.int q b)))
    (h : nx (.v (.int q (if b < a then b else a))) H) : OpK c o E H nx := by
  have hnd : ∀ cl, o.op ≠ .defer cl := by rw [ho]; intro cl e; cases e
  refine OpK.val hnd _ (fun ms ac w ha hk => ?_) h
  have e1 := ha.opd hx
  have e2 := ha.opd hy
  simp only [den] at e1 e2
  simp [execOp, ho, resolve, invoke, builtin, e1, e2, den, Builtin.min_, Builtin.min2]
end
end Go.X

namespace Go.X
open Go
def Zok (z : Int) : Prop := 0 ≤ z ∧ z < 9223372036854775808
structure MRep (es : List MapEntry) (clk : Nat) (f : Int → Option Value) : Prop where
  sound : ∀ e ∈ es, ∃ z, e.key = .int .i64 z ∧ Zok z ∧ f z = some e.val
  full : ∀ z v, f z = some v → ∃ e ∈ es, e.key = .int .i64 z
  keys : (es.map (·.key)).Nodup
  borns : (es.map (·.born)).Nodup
  lt : ∀ e ∈ es, e.born < clk
theorem MRep.nil : MRep [] 0 fun _ => none := ⟨by simp, by simp, by simp, by simp, by simp⟩
theorem MRep.clear {es : List MapEntry} {clk : Nat} {f : Int → Option Value} (_ : MRep es clk f) : MRep [] clk fun _ => none := ⟨by simp, by simp, by simp, by simp, by simp⟩
theorem MRep.at {es : List MapEntry} {clk : Nat} {f : Int → Option Value} (h : MRep es clk f) {e : MapEntry} {z : Int} (he : e ∈ es) (hz : e.key = .int .i64 z) : Zok z ∧ f z = some e.val := by
  obtain ⟨z', h1, h2, h3⟩ := h.sound e he
  have : z' = z := by rw [hz] at h1; simpa using h1.symm
  subst this
  exact ⟨h2, h3⟩
theorem MRep.out {es : List MapEntry} {clk : Nat} {f : Int → Option Value} (h : MRep es clk f) {z : Int} (hn : ∀ e ∈ es, e.key ≠ .int .i64 z) : f z = none := by
  cases hf : f z with
  | none => rfl
  | some v => obtain ⟨e, h1, h2⟩ := h.full z v hf; exact absurd h2 (hn e h1)
theorem findNow_i64 {q : IntKind} {z : Int} : ∀ {es : List MapEntry} {i : Nat}, (∀ e ∈ es, ∃ z', e.key = .int .i64 z') →
    (∃ (n : Nat) (e : MapEntry), es[n]? = some e ∧ e.key = .int .i64 z ∧ Instr.findNow (.int q) (.int .i64 z) es i = some (some (i + n, e.val))) ∨ ((∀ e ∈ es, e.key ≠ .int .i64 z) ∧ Instr.findNow (.int q) (.int .i64 z) es i = some none)
  | [], i, _ => .inr ⟨by simp, rfl⟩
  | e :: es, i, h => by
    obtain ⟨z', hz⟩ := h e (by simp)
    by_cases hzz : z = z'
    · subst hzz
      exact .inl ⟨0, e, rfl, hz, by simp [Instr.findNow, Instr.sameNow, hz]⟩
    · have hb : (z == z') = false := by simpa using hzz
      have hs : Instr.sameNow (.int q) (.int .i64 z) e.key = some false := by simp [Instr.sameNow, hz, hzz]
      rcases findNow_i64 (q := q) (z := z) (es := es) (i := i + 1) (fun e he => h e (by simp [he])) with ⟨n, e', h1, h2, h3⟩ | ⟨h1, h2⟩
      · exact .inl ⟨n + 1, e', by simpa using h1, h2, by simp only [Instr.findNow, hs]; rw [h3]; simp only [Option.some.injEq, Prod.mk.injEq, and_true]; omega⟩
      · refine .inr ⟨fun e' he => ?_, by simp only [Instr.findNow, hs]; exact h2⟩
        simp only [List.mem_cons] at he
        rcases he with rfl | he
        · rw [hz]; simpa using fun e => hzz e.symm
        · exact h1 e' he
theorem MRep.find {es : List MapEntry} {clk : Nat} {f : Int → Option Value} (h : MRep es clk f) {q : IntKind} {P : Program} {kt : Nat} (ht : P.underlying kt = some (.int q)) (z : Int) (w : World) :
    (∃ (n : Nat) (e : MapEntry), es[n]? = some e ∧ e.key = .int .i64 z ∧ f z = some e.val ∧ (Instr.findKey kt (.int .i64 z) es).run P w = .ok (some (n, e.val)) w) ∨ ((∀ e ∈ es, e.key ≠ .int .i64 z) ∧ f z = none ∧ (Instr.findKey kt (.int .i64 z) es).run P w = .ok none w) := by
  rcases findNow_i64 (q := q) (z := z) (es := es) (i := 0) (fun e he => by obtain ⟨z', h1, _⟩ := h.sound e he; exact ⟨z', h1⟩) with ⟨n, e, h1, h2, h3⟩ | ⟨h1, h2⟩
  · refine .inl ⟨n, e, h1, h2, (h.at (List.mem_of_getElem? h1) h2).2, ?_⟩
    rw [Nat.zero_add] at h3
    simp [Instr.findKey, run_underlying ht, h3]
  · exact .inr ⟨h1, h.out h1, by simp [Instr.findKey, run_underlying ht, h2]⟩
def putK (f : Int → Option Value) (z : Int) (v : Value) : Int → Option Value := fun k => if k = z then some v else f k
theorem MRep.push {es : List MapEntry} {clk : Nat} {f : Int → Option Value} (h : MRep es clk f) {z : Int} (hz : Zok z) (hn : ∀ e ∈ es, e.key ≠ .int .i64 z) (v : Value) : MRep (es ++ [⟨.int .i64 z, v, clk⟩]) (clk + 1) (putK f z v) where
  sound := by
    intro e he
    simp only [List.mem_append, List.mem_singleton] at he
    rcases he with he | rfl
    · obtain ⟨z', h1, h2, h3⟩ := h.sound e he
      refine ⟨z', h1, h2, ?_⟩
      have : z' ≠ z := fun e' => hn e he (e' ▸ h1)
      simp [putK, this, h3]
    · exact ⟨z, rfl, hz, by simp [putK]⟩
  full := by
    intro z' v' hf
    by_cases e : z' = z
    · subst e; exact ⟨⟨.int .i64 z', v, clk⟩, by simp, rfl⟩
    · simp only [putK, e, if_false] at hf
      obtain ⟨x, h1, h2⟩ := h.full z' v' hf
      exact ⟨x, by simp [h1], h2⟩
  keys := by
    rw [List.map_append, List.nodup_append]
    refine ⟨h.keys, by simp, ?_⟩
    intro a ha b hb
    obtain ⟨e, h1, rfl⟩ := List.mem_map.1 ha
    have : b = .int .i64 z := by simpa using hb
    subst this
    exact hn e h1
  borns := by
    rw [List.map_append, List.nodup_append]
    refine ⟨h.borns, by simp, ?_⟩
    intro a ha b hb
    obtain ⟨e, h1, rfl⟩ := List.mem_map.1 ha
    have : b = clk := by simpa using hb
    have := h.lt e h1
    omega
  lt := by
    intro e he
    simp only [List.mem_append, List.mem_singleton] at he
    rcases he with he | rfl
    · have := h.lt e he; omega
    · exact Nat.lt_succ_self _
theorem nodup_key {es : List MapEntry} (h : (es.map (·.key)).Nodup) {n n' : Nat} {e e' : MapEntry} (h1 : es[n]? = some e) (h2 : es[n']? = some e') (hk : e.key = e'.key) : n = n' := by
  have g1 : (es.map (·.key))[n]? = some e.key := by simp [h1]
  have g2 : (es.map (·.key))[n']? = some e.key := by simp [h2, hk]
  obtain ⟨l1, g1⟩ := List.getElem?_eq_some_iff.1 g1
  obtain ⟨l2, g2⟩ := List.getElem?_eq_some_iff.1 g2
  exact (List.getElem_inj h).1 (g1.trans g2.symm)
theorem MRep.set {es : List MapEntry} {clk : Nat} {f : Int → Option Value} (h : MRep es clk f) {z : Int} {n : Nat} {e : MapEntry} (hn : es[n]? = some e) (hz : e.key = .int .i64 z) (v : Value) : MRep (es.set n { e with val := v }) clk (putK f z v) := by
  have hlt : n < es.length := (List.getElem?_eq_some_iff.1 hn).1
  have hmem : ∀ x ∈ es.set n { e with val := v }, (x = { e with val := v }) ∨ (x ∈ es ∧ x.key ≠ .int .i64 z) := by
    intro x hx
    obtain ⟨m, hm⟩ := List.mem_iff_getElem?.1 hx
    by_cases hmn : n = m
    · subst hmn
      rw [List.getElem?_set_self hlt] at hm
      exact .inl (by simpa using hm.symm)
    · rw [List.getElem?_set_ne hmn] at hm
      exact .inr ⟨List.mem_of_getElem? hm, fun hk => hmn (nodup_key h.keys hn hm (hz.trans hk.symm))⟩
  have hkeys : (es.set n { e with val := v }).map (·.key) = es.map (·.key) := by
    apply List.ext_getElem?
    intro m
    by_cases hmn : n = m
    · subst hmn; simp [hlt, hn]; 
      have := List.getElem?_eq_some_iff.1 hn
      simp [this.2]
    · simp [List.getElem?_set_ne hmn]
  have hborns : (es.set n { e with val := v }).map (·.born) = es.map (·.born) := by
    apply List.ext_getElem?
    intro m
    by_cases hmn : n = m
    · subst hmn; simp [hlt, hn]
      have := List.getElem?_eq_some_iff.1 hn
      simp [this.2]
    · simp [List.getElem?_set_ne hmn]
  refine ⟨?_, ?_, by rw [hkeys]; exact h.keys, by rw [hborns]; exact h.borns, ?_⟩
  · intro x hx
    rcases hmem x hx with rfl | ⟨h1, h2⟩
    · exact ⟨z, hz, (h.at (List.mem_of_getElem? hn) hz).1, by simp [putK]⟩
    · obtain ⟨z', g1, g2, g3⟩ := h.sound x h1
      refine ⟨z', g1, g2, ?_⟩
      have : z' ≠ z := fun e' => h2 (e' ▸ g1)
      simp [putK, this, g3]
  · intro z' v' hf
    have : (∃ x ∈ es, x.key = .int .i64 z') := by
      by_cases e1 : z' = z
      · subst e1; exact ⟨e, List.mem_of_getElem? hn, hz⟩
      · simp only [putK, e1, if_false] at hf; exact h.full z' v' hf
    obtain ⟨x, h1, h2⟩ := this
    have h3 : Value.int .i64 z' ∈ (es.set n { e with val := v }).map (·.key) := by rw [hkeys]; exact List.mem_map.2 ⟨x, h1, h2⟩
    obtain ⟨y, h4, h5⟩ := List.mem_map.1 h3
    exact ⟨y, h4, h5⟩
  · intro x hx
    rcases hmem x hx with rfl | ⟨h1, h2⟩
    · exact h.lt e (List.mem_of_getElem? hn)
    · exact h.lt x h1
def MpK (m : Nat) (f : Int → Option Value) : Ass := ⟨fun w S => ∃ es clk, MRep es clk f ∧ S m ∧ w.heap[m]? = some (.map es.toArray clk), fun _ _ _ h ⟨es, clk, h1, h2, h3⟩ => ⟨es, clk, h1, h2, by rw [h m h2]; exact h3⟩⟩
theorem Kn.getK {W S ms H w} {i m : Nat} {f : Int → Option Value} {fn : Blk → List Blk} (hu : At H (.ext i (MpK m f)) fn) (h : Kn W S ms H w) : ∃ es clk, MRep es clk f ∧ w.heap[m]? = some (.map es.toArray clk) := by
  obtain ⟨T, ⟨es, clk, h1, _, h3⟩, _⟩ := h.upd1 hu
  exact ⟨es, clk, h1, h3⟩
theorem Kn.setK {W S ms H w} {i m : Nat} {f : Int → Option Value} {fn : Blk → List Blk} (hu : At H (.ext i (MpK m f)) fn) (h : Kn W S ms H w) :
    ∃ es clk, MRep es clk f ∧ w.heap[m]? = some (.map es.toArray clk) ∧ ∀ es' clk' f', MRep es' clk' f' → Kn W S ms (fn (.ext i (MpK m f'))) { w with heap := w.heap.setIfInBounds m (.map es'.toArray clk') } := by
  obtain ⟨T, ⟨es, clk, g1, g2, g3⟩, h4, h5, h6⟩ := h.upd1 hu
  have hlt := h4 m g2
  refine ⟨es, clk, g1, g3, fun es' clk' f' hr => ?_⟩
  refine h6 (.ext i (MpK m f')) _ ⟨⟨rfl, rfl, rfl, by simp, fun k hk hn => ?_⟩, fun k => k = m, ⟨es', clk', hr, rfl, by simp [hlt]⟩, fun k hk => by subst hk; exact ⟨by simpa using hlt, .inl g2⟩⟩
  have : m ≠ k := fun e => hn (e ▸ g2)
  simp [this]
theorem MpA.toK {m clk : Nat} {es : List MapEntry} {f : Int → Option Value} (h : MRep es clk f) {w : World} {S : Nat → Prop} (hx : (MpA m es clk).holds w S) : (MpK m f).holds w S := ⟨es, clk, h, hx.1, hx.2⟩
section
variable {c : Cx} {o : Oper} {E : Env} {H : List Blk} {nx : K1}
theorem OpK.mkMK {t : Nat} (ho : o.op = .makeMap t none) (h : nextF H fun i => ∀ m, nx (.v (.map (some m))) (.ext i (MpK m fun _ => none) :: H)) : OpK c o E H nx := by
  have hnd : ∀ cl, o.op ≠ .defer cl := by rw [ho]; intro cl e; cases e
  obtain ⟨i, h⟩ := nextF_spec h
  refine OpK.run hnd fun ms ac w ha hk => ⟨.v (.map (some w.heap.size)), _, _, ?_, (hk.allocO i (.map #[] 0)).hsub (HSub.ext (fun w S hx => MpA.toK (es := []) MRep.nil hx) (HSub.refl _)), h w.heap.size⟩
  simp [execOp, ho, Instr.makeMap, den]
theorem OpK.lkS {t kt et : Nat} {x ix : Operand} {ok : Bool} {ti tk : TI} {q : IntKind} {m i : Nat} {z : Int} {v : Value} {f : Int → Option Value} {fn : Blk → List Blk} (ho : o.op = .lookup t x ix ok) (hx : opd E x = some (.v (.map (some m)))) (hi : opd E ix = some (.v (.int .i64 z)))
    (hti : c.T.get t = some ti) (hd : ti.desc = .map kt et) (htk : c.T.get kt = some tk) (hdk : tk.desc = .int q) (hu : At H (.ext i (MpK m f)) fn) (hf : f z = some v)
    (h : nx (if ok then .tup [.v v, .v (.bool true)] else .v v) H) : OpK c o E H nx := by
  have hnd : ∀ cl, o.op ≠ .defer cl := by rw [ho]; intro cl e; cases e
  refine OpK.val hnd _ (fun ms ac w ha hk => ?_) h
  have h1 := (c.ok t ti hti).1
  rw [hd] at h1
  have h2 := (c.ok kt tk htk).1
  rw [hdk] at h2
  have e1 := ha.opd hx
  have e2 := ha.opd hi
  simp only [den] at e1 e2
  obtain ⟨es, clk, hr, hb⟩ := hk.getK hu
  have hg := getObj_ran (P := c.P) hb (by intro _ _ _ e; cases e)
  rcases hr.find (P := c.P) h2 z w with ⟨n, e, g1, g2, g3, g4⟩ | ⟨_, g2, _⟩
  · obtain rfl : v = e.val := by rw [hf] at g3; simpa using g3
    cases ok <;> simp [execOp, ho, e1, e2, Instr.lookup, run_underlying h1, hg, run_checkKey _ h2, g4, den, denL]
  · rw [hf] at g2; cases g2
theorem OpK.lkN {t kt et : Nat} {x ix : Operand} {ok : Bool} {ti tk te : TI} {q : IntKind} {m i : Nat} {z : Int} {f : Int → Option Value} {fn : Blk → List Blk} (ho : o.op = .lookup t x ix ok) (hx : opd E x = some (.v (.map (some m)))) (hi : opd E ix = some (.v (.int .i64 z)))
    (hti : c.T.get t = some ti) (hd : ti.desc = .map kt et) (htk : c.T.get kt = some tk) (hdk : tk.desc = .int q) (hte : c.T.get et = some te) (hu : At H (.ext i (MpK m f)) fn) (hf : f z = none)
    (h : nx (if ok then .tup [.v te.zero, .v (.bool false)] else .v te.zero) H) : OpK c o E H nx := by
  have hnd : ∀ cl, o.op ≠ .defer cl := by rw [ho]; intro cl e; cases e
  refine OpK.val hnd _ (fun ms ac w ha hk => ?_) h
  have h1 := (c.ok t ti hti).1
  rw [hd] at h1
  have h2 := (c.ok kt tk htk).1
  rw [hdk] at h2
  have e1 := ha.opd hx
  have e2 := ha.opd hi
  simp only [den] at e1 e2
  obtain ⟨es, clk, hr, hb⟩ := hk.getK hu
  have hg := getObj_ran (P := c.P) hb (by intro _ _ _ e; cases e)
  rcases hr.find (P := c.P) h2 z w with ⟨n, e, g1, g2, g3, g4⟩ | ⟨_, g2, g3⟩
  · rw [hf] at g3; cases g3
  · cases ok <;> simp [execOp, ho, e1, e2, Instr.lookup, run_underlying h1, hg, run_checkKey _ h2, g3, r_zeroValue (c.ok et te hte) w, den, denL]
theorem OpK.upK {t kt et : Nat} {x ix y : Operand} {ti tk : TI} {q : IntKind} {m i : Nat} {z : Int} {s : SV} {f : Int → Option Value} {fn : Blk → List Blk} (ho : o.op = .mapUpdate t x ix y) (hx : opd E x = some (.v (.map (some m)))) (hi : opd E ix = some (.v (.int .i64 z))) (hy : opd E y = some s)
    (hti : c.T.get t = some ti) (hd : ti.desc = .map kt et) (htk : c.T.get kt = some tk) (hdk : tk.desc = .int q) (hu : At H (.ext i (MpK m f)) fn) (hz : Zok z)
    (h : nx (.v undef) (fn (.ext i (MpK m (putK f z (den s)))))) : OpK c o E H nx := by
  have hnd : ∀ cl, o.op ≠ .defer cl := by rw [ho]; intro cl e; cases e
  refine ⟨?_⟩
  intro ms a w ha hk Q
  have h1 := (c.ok t ti hti).1
  rw [hd] at h1
  have h2 := (c.ok kt tk htk).1
  rw [hdk] at h2
  have e1 := ha.opd hx
  have e2 := ha.opd hi
  have e3 := ha.opd hy
  simp only [den] at e1 e2
  obtain ⟨es, clk, hr, hb, hset⟩ := hk.setK hu
  have hg := getObj_ran (P := c.P) hb (by intro _ _ _ e; cases e)
  rcases hr.find (P := c.P) h2 z w with ⟨n, e, g1, g2, g3, g4⟩ | ⟨g1, g2, g3⟩
  · obtain ⟨ek, ev, eb⟩ := e
    simp only at g2
    subst g2
    have hk' := hset _ _ _ (hr.set g1 rfl (den s))
    have hs := setObj_run (P := c.P) (o' := .map (es.set n ⟨.int .i64 z, den s, eb⟩).toArray clk) hb (by intro _ _ _ e; cases e)
    have hst : Instr.keyThatStays (.int .i64 z) (.int .i64 z) = pure (.int .i64 z) := by simp [Instr.keyThatStays, Instr.sameBits]
    have hlt : n < es.length := (List.getElem?_eq_some_iff.1 g1).1
    have hm : (es.modify n fun e => { key := .int .i64 z, val := den s, born := e.born }) = es.set n ⟨.int .i64 z, den s, eb⟩ := by
      apply List.ext_getElem?
      intro k
      rw [List.getElem?_modify, List.getElem?_set]
      by_cases hnk : n = k
      · subst hnk
        have := (List.getElem?_eq_some_iff.1 g1).2
        simp [g1, hlt, this]
      · simp [hnk]
    exact wpIn_of_skip hnd (w' := { w with heap := w.heap.setIfInBounds m (.map (es.set n ⟨.int .i64 z, den s, eb⟩).toArray clk) }) (by simp [execOp, ho, e1, e2, e3, Instr.mapUpdate, run_underlying h1, hg, run_checkKey _ h2, g4, g1, hst, hm, hs]) ⟨.v undef, _, rfl, hk', h⟩
  · have hk' := hset _ _ _ (hr.push hz g1 (den s))
    have hs := setObj_run (P := c.P) (o' := .map (es ++ [(⟨.int .i64 z, den s, clk⟩ : MapEntry)]).toArray (clk + 1)) hb (by intro _ _ _ e; cases e)
    exact wpIn_of_skip hnd (w' := { w with heap := w.heap.setIfInBounds m (.map (es ++ [(⟨.int .i64 z, den s, clk⟩ : MapEntry)]).toArray (clk + 1)) }) (by simp [execOp, ho, e1, e2, e3, Instr.mapUpdate, run_underlying h1, hg, run_checkKey _ h2, g3, hs]) ⟨.v undef, _, rfl, hk', h⟩
end
end Go.X

namespace Go.X
open Go Go.RowKit Go.Maps Go.Sort Go.Shelf Go.Proofs Go.WideElems Go.WideShapes
def RV (v : Value) : Option (DataW Value × List MemPlace) := some (.held v, [])
theorem wf_i64 {z : Int} (h : Zok z) : (Lit.int .i64 z).wf = true := by
  have h2 : IntKind.i64.min = -9223372036854775808 := by decide
  have h3 : IntKind.i64.max = 9223372036854775807 := by decide
  obtain ⟨h0, h1⟩ := h
  simp only [Lit.wf, h2, h3, Bool.and_eq_true, decide_eq_true_eq]
  omega
section
variable {P : Program} {k : TypeId}
theorem rd_RV (hk : P.underlying k = some (.int .i64)) {z : Int} (h : Zok z) (v : Value) (b : Nat) : rd P k RV ⟨.int .i64 z, v, b⟩ = some (.int .i64 z, .held v) := by
  refine rd_mk (yv := (.held v, [])) ?_ rfl
  simp [keyOf, hk, mapKey, wf_i64 h]
theorem MRep.rd {es : List MapEntry} {clk : Nat} {f : Int → Option Value} (h : MRep es clk f) (hk : P.underlying k = some (.int .i64)) {e : MapEntry} (he : e ∈ es) : ∃ z, e.key = .int .i64 z ∧ Zok z ∧ f z = some e.val ∧ rd P k RV e = some (.int .i64 z, .held e.val) := by
  obtain ⟨z, h1, h2, h3⟩ := h.sound e he
  obtain ⟨ek, ev, eb⟩ := e
  simp only at h1
  subst h1
  exact ⟨z, rfl, h2, h3, rd_RV hk h2 ev eb⟩
def MpD (P : Program) (k : TypeId) (es : List MapEntry) : List (Lit × DataW Value) := (es.map (rg P k RV)).foldr DataW.insert []
theorem MRep.owns {es : List MapEntry} {clk : Nat} {f : Int → Option Value} (h : MRep es clk f) (hk : P.underlying k = some (.int .i64)) {w : World} {m : Nat} (hm : w.heap[m]? = some (.map es.toArray clk)) (hl : es.length ≤ 1000000) :
    w.ownsMap P k RV m es.length (.map (MpD P k es)) := by
  have hml : (1000000 : Nat) ≤ maxLen := by decide
  refine ⟨es.toArray, clk, hm, ⟨by simpa using Nat.le_trans hl hml, ⟨by simpa using h.lt, by simpa using h.borns, ?_⟩, fun x hx => ?_⟩, by simp, by simp [MpD]⟩
  · show (es.toArray.toList.map (·.key)).Nodup
    simpa using h.keys
  · obtain ⟨z, _, _, _, h4⟩ := h.rd hk (e := x) (by simpa using hx)
    exact ⟨_, h4⟩
def KeysOf (f : Int → Option Value) (ks : List Int) : Prop := ks.Pairwise (· < ·) ∧ (∀ z, z ∈ ks ↔ (f z).isSome = true) ∧ ks.length ≤ 1000000
theorem KeysOf.nodup {f : Int → Option Value} {ks : List Int} (h : KeysOf f ks) : ks.Nodup := h.1.imp fun h => by omega
theorem MRep.perm {es : List MapEntry} {clk : Nat} {f : Int → Option Value} (h : MRep es clk f) {ks : List Int} (hks : KeysOf f ks) : ∃ zs : List Int, es.map (·.key) = zs.map (Value.int .i64) ∧ zs.Perm ks := by
  have : ∀ l : List MapEntry, (∀ e ∈ l, ∃ z, e.key = .int .i64 z) → ∃ zs : List Int, l.map (·.key) = zs.map (Value.int .i64) := by
    intro l
    induction l with
    | nil => exact fun _ => ⟨[], rfl⟩
    | cons e l ih =>
      intro hl
      obtain ⟨z, hz⟩ := hl e (by simp)
      obtain ⟨zs, hzs⟩ := ih fun e he => hl e (by simp [he])
      exact ⟨z :: zs, by simp [hz, hzs]⟩
  obtain ⟨zs, hzs⟩ := this es fun e he => by obtain ⟨z, h1, _⟩ := h.sound e he; exact ⟨z, h1⟩
  refine ⟨zs, hzs, ?_⟩
  have hnd : zs.Nodup := by
    have := h.keys
    rw [hzs] at this
    exact (List.pairwise_map.1 this).imp fun h e => h (by rw [e])
  refine (List.perm_ext_iff_of_nodup hnd hks.nodup).2 fun z => ?_
  rw [hks.2.1 z]
  constructor
  · intro hz
    have : Value.int .i64 z ∈ es.map (·.key) := by rw [hzs]; exact List.mem_map.2 ⟨z, hz, rfl⟩
    obtain ⟨e, he, hk⟩ := List.mem_map.1 this
    rw [(h.at he hk).2]; rfl
  · intro hz
    obtain ⟨v, hv⟩ := Option.isSome_iff_exists.1 hz
    obtain ⟨e, he, hk⟩ := h.full z v hv
    have : Value.int .i64 z ∈ zs.map (Value.int .i64) := by rw [← hzs]; exact List.mem_map.2 ⟨e, he, hk⟩
    obtain ⟨z', h1, h2⟩ := List.mem_map.1 this
    have : z' = z := by simpa using h2
    exact this ▸ h1
theorem sort_perm {zs ks : List Int} (h : zs.Perm ks) (hk : ks.Pairwise (· < ·)) : zs.mergeSort (fun x y => decide (x ≤ y)) = ks := by
  refine ((List.mergeSort_perm zs _).trans h).eq_of_pairwise (le := fun x y => decide (x ≤ y) = true) ?_ ?_ ?_
  · intro a b _ _ h1 h2; have h1 := of_decide_eq_true h1; have h2 := of_decide_eq_true h2; omega
  · exact List.pairwise_mergeSort (fun a b c h1 h2 => by simp at h1 h2 ⊢; omega) (fun a b => by simp; omega) zs
  · exact hk.imp fun h => decide_eq_true (by omega)
end
section
variable {P : Program}
def KeysOk (P : Program) (f g t : Nat) : Prop :=
  ∀ (w : World) (bx m : Nat) (C : Array Value) (tb : Nat) (fr : Nat × Nat) (es : List MapEntry) (clk : Nat) (fn : Int → Option Value) (ks : List Int), w.heap[bx]? = some (.cells C tb fr) → C[0]? = some (.map (some m)) →
    w.heap[m]? = some (.map es.toArray clk) → MRep es clk fn → KeysOf fn ks →
    FrZ P f #[.func (.func g) #[] #[.pointer (some ⟨bx, 0, none⟩)]] w emp (fun z : Option Addr × Nat => .slice z.1 ks.length z.2) (fun z => SlA t 1 z.1 ks.length z.2 (ks.map (Value.int .i64)))
theorem keysOk_of {P : Program} {ρk ρs : Ren} (Lk : SlLaysZI.n10 P ρk) (Ls : SlLaysZI.n6 P ρs) (hsort : ∀ m, AnyZI.SortsIn P ρs Fence.wide m) (e9 : ∀ args w, (callFunc (ρs.f 9) args).run P w = .ok (.enter (ρs.f 9) args) w)
    (eg : ∀ args w, (callFunc (ρk.f 10) args).run P w = .ok (.enter (ρk.f 10) args) w) (hb : Bodied P (ρs.f 6)) (hkt : P.underlying (ρk.t 26) = some (.int .i64)) : KeysOk P (ρs.f 6) (ρk.f 10) (ρs.t 26) := by
  intro w bb m C tb fr es clk fn ks hbb hC hm hr hks S hS _
  unfold CT
  refine ⟨hb, ?_⟩
  obtain ⟨zs, hzs, hperm⟩ := hr.perm hks
  have hlen : es.length = ks.length := by
    rw [← hperm.length_eq]; simpa using congrArg List.length hzs
  have hl : es.length ≤ 1000000 := by rw [hlen]; exact hks.2.2
  have hml : (1000000 : Nat) ≤ maxLen := by decide
  have hown := hr.owns hkt hm hl
  have hD : (intKeys (.map (MpD P (ρk.t 26) es))).Perm zs := by
    show ((MpD P (ρk.t 26) es).map fun p => intOf p.1).Perm zs
    refine ((sorted_perm _).map _).trans ?_
    have : ∀ (l : List MapEntry) (zs : List Int), (∀ e ∈ l, e ∈ es) → l.map (·.key) = zs.map (Value.int .i64) → (l.map (rg P (ρk.t 26) RV)).map (fun p => intOf p.1) = zs := by
      intro l
      induction l with
      | nil => intro zs _ h; cases zs with | nil => rfl | cons z zs => simp at h
      | cons x l ih =>
        intro zs hx h
        cases zs with
        | nil => simp at h
        | cons z zs =>
          simp only [List.map_cons, List.cons.injEq] at h
          obtain ⟨z', h1, _, _, h4⟩ := hr.rd hkt (hx x (by simp))
          have : z' = z := by rw [h.1] at h1; simpa using h1.symm
          subst this
          simp only [List.map_cons, rg_of h4]
          rw [ih zs (fun e he => hx e (by simp [he])) h.2]
          rfl
    rw [this es zs (fun _ h => h) hzs]
  have hsize : Maps.size (.map (MpD P (ρk.t 26) es)) = ks.length := by
    show (MpD P (ρk.t 26) es).length = _
    unfold MpD
    rw [(sorted_perm _).length_eq, List.length_map, hlen]
  have hbl : bb < w.heap.size := (Array.getElem?_eq_some_iff.1 hbb).1
  have hcell : w.cell? ⟨bb, 0, none⟩ = some (.map (some m)) := by simp [World.cell?, hbb, hC]
  have h6 := hks.2.2
  have hseq := AnyZI.keys_gives Lk Fence.wide 2 trivial rfl (by omega) bb m es.length _ w hbl hcell hown
  have cS := AnyZI.sorted_in Ls Fence.wide 5 trivial trivial trivial trivial rfl (by omega) (hsort _) e9 (ρk.f 10) #[.pointer (some ⟨bb, 0, none⟩)] trivial eg _ (Maps.size (.map (MpD P (ρk.t 26) es))) (by rw [hsize]; omega) (by rw [hsize]; omega) w hseq
  refine (callsIn_wide.1 cS).mono ?_
  rintro e w' ⟨v, ss, rfl, hp, hrow, hnil, hB⟩
  have hp2 : ss.Perm ks := (hp.trans hD).trans hperm
  have hms : ss.mergeSort (fun x y => decide (x ≤ y)) = ks := sort_perm hp2 hks.1
  have heff : Eff S w w' := ⟨hB.os, hB.tape, hB.output, hB.size, fun k hk _ => hB.block k hk⟩
  rcases hrow.2 with ⟨rfl, hz⟩ | ⟨g, cap, cur, rfl, hge, hg, h1, h2, h3, h4⟩
  · have : ks = [] := List.eq_nil_of_length_eq_zero (by rw [← hp2.length_eq]; exact hz)
    subst this
    exact ⟨(none, 0), rfl, heff, fun _ => False, .inl ⟨rfl, rfl, rfl, rfl⟩, fun _ h => h.elim⟩
  · have hl := hp2.length_eq
    rw [hl] at h1 h4 ⊢
    have hcur : cur = ((ks.map (Value.int .i64)) ++ cur.toList.drop ks.length).toArray := by
      apply Array.ext'
      simp only
      rw [hms] at h4
      have h4' : cur.toList.take ks.length = ks.map (Value.int .i64) := by
        rw [Nat.mul_one] at h4
        exact h4
      rw [← h4', List.take_append_drop]
    refine ⟨(some ⟨g, 0, none⟩, cap), rfl, heff, fun k => k = g, .inr ⟨g, rfl, [], cur.toList.drop ks.length, (0, 0), rfl, ?_, ?_, h1, ?_, ?_⟩, ?_⟩
    · rw [hg, List.nil_append]
      congr 2
    · rw [List.length_map, Nat.mul_one]
    · have : cur.toList.length = cap := by simp [h3]
      rw [List.length_drop, this]
      simp
    · simp
    · rintro k rfl
      exact ⟨(Array.getElem?_eq_some_iff.1 hg).1, .inr hge⟩
end
end Go.X

namespace Go.X
open Go Go.RowKit Go.Maps Go.Sort Go.Shelf Go.Proofs
section
variable {α : Type} {enc : α → List Value} {k : Nat}
theorem flat_length (hk : ∀ x, (enc x).length = k) : ∀ l : List α, (l.flatMap enc).length = l.length * k
  | [] => by simp
  | x :: l => by simp [List.flatMap_cons, flat_length hk l, hk, Nat.add_mul, Nat.add_comm]
theorem flat_get (hk : ∀ x, (enc x).length = k) (h0 : 0 < k) : ∀ (l : List α) (t : Nat), (l.flatMap enc)[t]? = (l[t / k]?).bind fun x => (enc x)[t % k]?
  | [], t => by simp
  | x :: l, t => by
    rw [List.flatMap_cons]
    by_cases h : t < k
    · rw [List.getElem?_append_left (by rw [hk]; exact h), Nat.div_eq_of_lt h, Nat.mod_eq_of_lt h]
      simp
    · rw [List.getElem?_append_right (by rw [hk]; omega), hk, flat_get hk h0 l]
      have e1 : t / k = (t - k) / k + 1 := by
        rw [show t = (t - k) + k by omega, Nat.add_div_right _ h0]; simp
      have e2 : t % k = (t - k) % k := by
        conv => lhs; rw [show t = (t - k) + k by omega, Nat.add_mod_right]
      rw [e1, e2]
      simp
theorem flat_sub (hk : ∀ x, (enc x).length = k) : ∀ (l : List α) (i : Nat) (x : α), l[i]? = some x → ((l.flatMap enc).drop (i * k)).take k = enc x
  | [], _, _, h => by simp at h
  | y :: l, 0, x, h => by
    have : y = x := by simpa using h
    subst this
    simp [List.flatMap_cons, ← hk y]
  | y :: l, i + 1, x, h => by
    have h' : l[i]? = some x := by simpa using h
    rw [List.flatMap_cons, show (i + 1) * k = (enc y).length + i * k by rw [hk, Nat.add_mul, Nat.one_mul, Nat.add_comm], List.drop_append]
    simp only [Nat.add_sub_cancel_left]
    rw [List.drop_of_length_le (by omega), List.nil_append]
    exact flat_sub hk l i x h'
variable [Inhabited α]
theorem flatK_list (hk : ∀ x, (enc x).length = k) (h0 : 0 < k) (d : Array α) : (flatK enc k d).toList = d.toList.flatMap enc := by
  apply List.ext_getElem?
  intro t
  rw [flat_get hk h0, Array.getElem?_toList]
  by_cases h : t < d.size * k
  · have h1 : t / k < d.size := Nat.div_lt_of_lt_mul (by rwa [Nat.mul_comm] at h)
    have h2 : t % k < k := Nat.mod_lt _ h0
    rw [Array.getElem?_eq_getElem (by simpa using h), ← getElem!_pos _ t (by simpa using h), get_flatK _ _ _ _ h, Array.getElem?_toList, Array.getElem?_eq_getElem h1, Option.bind_some, ← getElem!_pos d _ h1]
    rw [List.getElem?_eq_getElem (by rw [hk]; exact h2), getElem!_pos _ _ (by rw [hk]; exact h2)]
  · rw [Array.getElem?_eq_none (by simpa using h)]
    have : d.toList[t / k]? = none := by
      rw [List.getElem?_eq_none]
      rw [Array.length_toList]
      exact (Nat.le_div_iff_mul_le h0).2 (by omega)
    rw [this]; rfl
theorem putCells_mid (pre cs post : List Value) (F : Array Value) (h : cs.length = F.size) : putCells id pre.length F (pre ++ cs ++ post).toArray = (pre ++ F.toList ++ post).toArray := by
  apply Array.ext_getElem?
  intro i
  unfold putCells
  rw [Array.getElem?_mapIdx]
  simp only [List.getElem?_toArray]
  by_cases h1 : i < pre.length
  · rw [List.append_assoc, List.append_assoc, List.getElem?_append_left h1, List.getElem?_append_left h1, List.getElem?_eq_getElem h1]
    simp only [Option.map_some]
    rw [if_neg (by omega)]
  · by_cases h2 : i < pre.length + F.size
    · have e1 : (pre ++ cs ++ post)[i]? = some cs[i - pre.length] := by
        rw [List.append_assoc, List.getElem?_append_right (by omega), List.getElem?_append_left (by omega), List.getElem?_eq_getElem (by omega)]
      have e2 : (pre ++ F.toList ++ post)[i]? = some F[i - pre.length]! := by
        rw [List.append_assoc, List.getElem?_append_right (by omega), List.getElem?_append_left (by simp; omega), Array.getElem?_toList, Array.getElem?_eq_getElem (by omega), ← getElem!_pos F _ (by omega)]
      rw [e1, e2]
      simp only [Option.map_some]
      rw [if_pos ⟨by omega, by omega⟩]
      rfl
    · rw [List.getElem?_append_right (by simp; omega), List.getElem?_append_right (by simp; omega)]
      simp only [List.length_append, Array.length_toList, h]
      cases hp : post[i - (pre.length + F.size)]? with
      | none => rfl
      | some v =>
        simp only [Option.map_some]
        rw [if_neg (by omega)]
theorem sortK_heap {w : World} {b : Nat} {pre post : List Value} {e : TypeId} {fr : Nat × Nat} {d d' : Array α} (hk : ∀ x, (enc x).length = k) (h0 : 0 < k) (hs : d'.size = d.size) (n : Nat) (os : Array Obj)
    (hb : w.heap[b]? = some (.cells (pre ++ d.toList.flatMap enc ++ post).toArray e fr)) : (sortWorldK enc k w b pre.length n d' os).heap[b]? = some (.cells (pre ++ d'.toList.flatMap enc ++ post).toArray e fr) := by
  have hlt : b < w.heap.size := (Array.getElem?_eq_some_iff.1 hb).1
  show ((w.heap.modify b (onCells (putCells id pre.length (flatK enc k d')))) ++ os)[b]? = _
  rw [Array.getElem?_append_left (by simpa using hlt), Array.getElem?_modify, if_pos rfl, hb]
  simp only [Option.map_some, onCells]
  rw [putCells_mid _ _ _ _ (by rw [flat_length hk, size_flatK, hs, Array.length_toList]), flatK_list hk h0]
theorem sortK_old {w : World} {b off n : Nat} {d' : Array α} {os : Array Obj} {j : Nat} (hj : j < w.heap.size) (hn : b ≠ j) : (sortWorldK enc k w b off n d' os).heap[j]? = w.heap[j]? := by
  show ((w.heap.modify b (onCells (putCells id off (flatK enc k d')))) ++ os)[j]? = _
  rw [Array.getElem?_append_left (by simpa using hj), Array.getElem?_modify, if_neg hn]
theorem sortOk_of {P : Program} {ρ : Ren} (L : SlLaysF0.n6 P ρ) (hb : Bodied P (ρ.f 6)) (aE : ∀ w, (isAgg (ρ.t 24)).run P w = .ok true w) (zE : ∀ w, (Go.sizeOf (ρ.t 24)).run P w = .ok k w) (hk : ∀ x, (enc x).length = k) (h0 : 1 < k) (h1 : ∀ x, ∀ v ∈ enc x, v.oneCell' = true) (cf : α → α → Int) (hO : SWO (ltOf cf)) (g : Nat) (cb : Array Value)
    (eg : ∀ args w, (callFunc g args).run P w = .ok (.enter g args) w) (hcmp : ∀ x y W, Calls P g (#[.agg (enc x).toArray, .agg (enc y).toArray] ++ cb) W fun e w' => e = .returned (.int .i64 (cf x y)) ∧ ∃ q os', w' = grow (W.drewN q) os')
    {T cap : Nat} {a : Option Addr} (l : List α) (hsz : l.length ≤ 1000000) (w : World) :
    FrZ P (ρ.f 6) #[.slice a l.length cap, .func (.func g) #[] cb] w (SlA T k a l.length cap (l.flatMap enc)) (fun _ : {l' : List α // l'.Perm l ∧ l'.Pairwise fun x y => ltOf cf y x = false} => .tuple #[]) (fun l' => SlA T k a l.length cap (l'.1.flatMap enc)) := by
  intro S hS hlt
  unfold CT
  refine ⟨hb, ?_⟩
  rcases hS with ⟨rfl, hl, rfl, _⟩ | ⟨b, hSb, pre, post, fr, rfl, hbl, hlen, hcap, hpost, hfr⟩
  · have : l = [] := List.eq_nil_of_length_eq_zero hl
    subst this
    refine (AnyF.slices_SortFunc_none { L with } none 0 (.func (.func g) #[] cb) w).mono ?_
    rintro e w' ⟨rfl, rfl⟩
    exact ⟨⟨[], .refl _, .nil⟩, rfl, ⟨rfl, rfl, rfl, Nat.le_refl _, fun _ _ _ => rfl⟩, fun _ => False, .inl ⟨rfl, rfl, rfl, rfl⟩, fun _ h => h.elim⟩
  · have hblt := hlt b hSb
    have hH : HoldsK enc k w b pre.length l.toArray := by
      intro j hj
      have hj' : j < l.length * k := by simpa using hj
      have hfl := flat_length hk l
      have hget : (pre ++ l.flatMap enc ++ post)[pre.length + j]? = some (flatK enc k l.toArray)[j]! := by
        rw [List.append_assoc, List.getElem?_append_right (by omega), List.getElem?_append_left (by omega), Nat.add_sub_cancel_left, show l.flatMap enc = l.toArray.toList.flatMap enc from by simp, ← flatK_list hk (by omega), Array.getElem?_toList, Array.getElem?_eq_getElem (by simpa using hj'), ← getElem!_pos _ j (by simpa using hj')]
      constructor
      · simp only [World.cell?, hbl, id]
        simpa using hget
      · have : fr.1 = fr.2 := by
          rcases Nat.decEq fr.1 fr.2 with h | h
          · exact absurd (hfr h).1 (by omega)
          · exact h
        simp only [World.frozen?, hbl]
        simp
        omega
    have hc : ({ L with } : SlLaysF0.n6 P ρ) = L := rfl
    have hs := AnyQ.slices_SortFunc L k aE zE enc hk h1 cf hO g cb b pre.length cap l.toArray w eg (fun m os dk _ x y => hcmp x y _) hH hblt (by simp; omega)
    have e1 : l.toArray.size = l.length := by simp
    rw [e1] at hs
    refine hs.mono ?_
    rintro e w' ⟨rfl, d', n, os, hp, hso, rfl⟩
    have hds : d'.size = l.length := by rw [hp.1]; simp
    have hperm : d'.toList.Perm l := by
      have := hp.2.2
      rw [← hds, Array.extract_size] at this
      rw [hds, ← e1, Array.extract_size] at this
      simpa using this
    refine ⟨⟨d'.toList, hperm, ?_⟩, rfl, ⟨rfl, rfl, rfl, ?_, fun j hj hn => ?_⟩, S, ?_, fun j hj => ⟨?_, .inl hj⟩⟩
    · refine List.pairwise_iff_getElem.2 fun i j hi hj hij => ?_
      have h2 := hso i j (Nat.zero_le _) hij (by rw [Array.length_toList] at hj; omega)
      rw [Array.length_toList] at hi hj
      rw [getElem!_pos d' j (by omega), getElem!_pos d' i (by omega)] at h2
      simpa using h2
    · show w.heap.size ≤ ((w.heap.modify b _) ++ os).size
      simp
    · exact sortK_old hj fun e => hn (e ▸ hSb)
    · refine .inr ⟨b, hSb, pre, post, fr, rfl, ?_, by rw [flat_length hk, Array.length_toList, hds], hcap, hpost, ?_⟩
      · exact sortK_heap (d := l.toArray) hk (by omega) (by simpa using hds) n os (by simpa using hbl)
      · exact fun h => absurd (hfr h).1 (by omega)
    · show j < ((w.heap.modify b _) ++ os).size
      have := hlt j hj
      simp; omega
end
end Go.X

namespace Go.X
open Go Go.Sort
def Gr (W w : World) : Prop := ∃ q os', w = grow (W.drewN q) os'
theorem Gr.refl (W : World) : Gr W W := ⟨0, #[], by simp [World.drewN]⟩
theorem Gr.alloc {W w : World} (h : Gr W w) (o : Obj) : Gr W (w.alloc o) := by
  obtain ⟨q, os, rfl⟩ := h
  exact ⟨q, os ++ #[o], by rw [alloc_eq_grow, grow_grow]⟩
theorem Gr.step {W w : World} (h : Gr W w) (q : Nat) (os : Array Obj) : Gr W (grow (w.drewN q) os) := by
  obtain ⟨q', os', rfl⟩ := h
  refine ⟨q' + q, os' ++ os, ?_⟩
  rw [← grow_grow, ← World.drewN_drewN]
  rfl
theorem Gr.drewN {W w : World} (h : Gr W w) (q : Nat) : Gr W (w.drewN q) := by
  have := h.step q #[]
  rwa [grow_empty] at this
theorem Gr.drew {W w : World} (h : Gr W w) : Gr W w.drew := h.drewN 1
theorem Gr.trans {W w w' : World} (h : Gr W w) (h' : Gr w w') : Gr W w' := by
  obtain ⟨q, os, rfl⟩ := h'
  exact h.step q os
theorem cell_gr {w : World} {a : Addr} {v : Value} (hb : a.block < w.heap.size) (h : w.cell? a = some v) (n : Nat) (os : Array Obj) : (grow (w.drewN n) os).cell? a = some v := by
  have e : (grow (w.drewN n) os).heap[a.block]? = w.heap[a.block]? := by
    show (w.heap ++ os)[a.block]? = _
    rw [Array.getElem?_append_left hb]
  simp only [World.cell?, e]
  simpa only [World.cell?] using h
theorem Gr.cell {W w : World} (h : Gr W w) {a : Addr} {v : Value} (hb : a.block < W.heap.size) (hc : W.cell? a = some v) : w.cell? a = some v := by
  obtain ⟨q, os, rfl⟩ := h
  exact cell_gr hb hc q os
theorem cell_new {W : World} {cs : Array Value} {t : TypeId} {j : Nat} {v : Value} (h : cs[j]? = some v) : (W.alloc (.cells cs t)).cell? ⟨W.heap.size, j, none⟩ = some v := by
  simp only [World.cell?, heap_alloc, Array.getElem?_push_size]
  exact h
theorem Gr.new {W w : World} {cs : Array Value} {t : TypeId} (h : Gr (W.alloc (.cells cs t)) w) {j : Nat} {v : Value} (hv : cs[j]? = some v) : w.cell? ⟨W.heap.size, j, none⟩ = some v :=
  h.cell (by simp only [heap_alloc, Array.size_push]; omega) (cell_new hv)
end Go.X

namespace Go.X
open Go
def SeesM (c : Cx) (H : List Blk) (m : Nat) (f : Int → Option Value) : Prop := ∀ ms w, Kn c.W c.S ms H w → ∃ es clk, MRep es clk f ∧ w.heap[m]? = some (.map es.toArray clk)
theorem SeesM.ext {c : Cx} {H : List Blk} {i m : Nat} {f : Int → Option Value} {fn : Blk → List Blk} (hu : At H (.ext i (MpK m f)) fn) : SeesM c H m f := fun _ _ hk => hk.getK hu
def OldM (W : World) (m : Nat) (f : Int → Option Value) : Prop := ∃ es clk, MRep es clk f ∧ W.heap[m]? = some (.map es.toArray clk)
theorem SeesM.old {c : Cx} {H : List Blk} {m : Nat} {f : Int → Option Value} (h : OldM c.W m f) (hS : ¬ c.S m) : SeesM c H m f := fun ms w hk => by
  obtain ⟨es, clk, h1, h2⟩ := h
  exact ⟨es, clk, h1, by rw [Kn0.old hk m (Array.getElem?_eq_some_iff.1 h2).1 hS]; exact h2⟩
theorem SeesM.now {c : Cx} {H : List Blk} {m : Nat} {f : Int → Option Value} {ms w} (h : SeesM c H m f) (hk : Kn c.W c.S ms H w) : OldM w m f := h ms w hk
section
variable {c : Cx} {o : Oper} {E : Env} {H : List Blk} {nx : K1}
theorem run_lkM {t kt et : Nat} {x ix : Operand} {ok : Bool} {ti tk te : TI} {q : IntKind} {m : Nat} {z : Int} {f : Int → Option Value} (ho : o.op = .lookup t x ix ok) (hx : opd E x = some (.v (.map (some m)))) (hi : opd E ix = some (.v (.int .i64 z)))
    (hti : c.T.get t = some ti) (hd : ti.desc = .map kt et) (htk : c.T.get kt = some tk) (hdk : tk.desc = .int q) (hte : c.T.get et = some te) (hM : SeesM c H m f) {ms ac w} (ha : Has c.n ms E ac) (hk : Kn c.W c.S ms H w) :
    (execOp ac.eval o).run c.P w = .ok (.value (if ok then .tuple #[(f z).getD te.zero, .bool (f z).isSome] else (f z).getD te.zero)) w := by
  have h1 := (c.ok t ti hti).1
  rw [hd] at h1
  have h2 := (c.ok kt tk htk).1
  rw [hdk] at h2
  have e1 := ha.opd hx
  have e2 := ha.opd hi
  simp only [den] at e1 e2
  obtain ⟨es, clk, hr, hb⟩ := hM ms w hk
  have hg := getObj_ran (P := c.P) hb (by intro _ _ _ e; cases e)
  rcases hr.find (P := c.P) h2 z w with ⟨n, e, g1, g2, g3, g4⟩ | ⟨g1, g2, g3⟩
  · rw [g3]
    cases ok <;> simp [execOp, ho, e1, e2, Instr.lookup, run_underlying h1, hg, run_checkKey _ h2, g4]
  · rw [g2]
    cases ok <;> simp [execOp, ho, e1, e2, Instr.lookup, run_underlying h1, hg, run_checkKey _ h2, g3, r_zeroValue (c.ok et te hte) w]
theorem SlA.spot {e k : Nat} {a : Option Addr} {n cap : Nat} {cs : List Value} {w : World} {S : Nat → Prop} (h : (SlA e k a n cap cs).holds w S) : a.map (·.add 0) = a := by
  rcases h with ⟨rfl, _⟩ | ⟨b, _, pre, post, fr, rfl, _⟩
  · rfl
  · simp [add_none]
theorem SlA.le {e k : Nat} {a : Option Addr} {n cap : Nat} {cs : List Value} {w : World} {S : Nat → Prop} (h : (SlA e k a n cap cs).holds w S) : n ≤ cap := by
  rcases h with ⟨_, rfl, rfl, _⟩ | ⟨b, _, pre, post, fr, _, _, _, h, _⟩
  · exact Nat.le_refl _
  · exact h
theorem SlAt.free {w : World} {e k : Nat} {b : Nat} {pre cs post : List Value} {fr : Nat × Nat} (hh : w.heap[b]? = some (.cells (pre ++ cs ++ post).toArray e fr)) (hf : fr.1 ≠ fr.2 → k = 1 ∧ pre.length + cs.length + post.length ≤ fr.1) {o : Nat} (ho : o < pre.length + cs.length) : w.frozen? ⟨b, o, none⟩ = false := by
  simp only [World.frozen?, hh]
  simp only [Bool.and_eq_false_iff, decide_eq_false_iff_not]
  by_cases hlt : fr.1 < fr.2
  · left; have := (hf (Nat.ne_of_lt hlt)).2; omega
  · by_cases h0 : fr.1 ≤ o
    · right; omega
    · left; exact h0
theorem SlA.pre {e k : Nat} {a : Option Addr} {n n' cap : Nat} {cs cs' : List Value} {w : World} {S : Nat → Prop} (h : (SlA e k a n cap (cs ++ cs')).holds w S) (hn : n' ≤ n) (hl : cs.length = n' * k) : (SlA e k a n' cap cs).holds w S := by
  rcases h with ⟨rfl, rfl, rfl, h⟩ | ⟨b, hb, pre, post, fr, rfl, hh, hl', hnc, hp, hf⟩
  · obtain rfl : n' = 0 := by omega
    simp at h
    exact .inl ⟨rfl, rfl, rfl, h.1⟩
  · refine .inr ⟨b, hb, pre, cs' ++ post, fr, rfl, by rw [hh]; simp [List.append_assoc], hl, by omega, ?_, fun hne => ⟨(hf hne).1, ?_⟩⟩
    · rw [List.length_append, hl] at hl'
      rw [List.length_append]
      have h6 : (cap - n') * k = (cap - n) * k + (n - n') * k := by rw [← Nat.add_mul]; congr 1; omega
      have h7 : n * k = n' * k + (n - n') * k := by rw [← Nat.add_mul]; congr 1; omega
      omega
    · have := (hf hne).2
      rw [List.length_append] at this ⊢
      omega
end
end Go.X

namespace Go.X
open Go Go.RowKit Go.Sort Go.Shelf Go.Proofs
section
variable {c : Cx} {o : Oper} {E : Env} {H : List Blk} {nx : K1}
theorem CallK.keys {f g t : Nat} (hK : KeysOk c.P f g t) {bx i i' m tb : Nat} {cs : List SV} {fn : Int → Option Value} {ks : List Int} (hb : .blk i bx cs tb ∈ H) (h0 : (denL cs)[0]? = some (.map (some m))) (hM : SeesM c H m fn) (hks : KeysOf fn ks)
    (hn : nextF H fun i => ∀ z : Option Addr × Nat, nx (.v (.slice z.1 ks.length z.2)) (.ext i (SlA t 1 z.1 ks.length z.2 (ks.map (Value.int .i64))) :: H)) : CallK c f [.fn g [.loc bx i' 0]] H nx := by
  refine CallK.fresh (v := fun z : Option Addr × Nat => .slice z.1 ks.length z.2) (A' := fun z => SlA t 1 z.1 ks.length z.2 (ks.map (Value.int .i64))) (fun ms w hk => ?_) hn
  obtain ⟨es, clk, h1, h2⟩ := hM ms w hk
  exact hK w bx m _ _ _ es clk fn ks (hk.got hb) (by simpa using h0) h2 h1 hks
end
end Go.X

namespace Go.X
open Go Go.RowKit Go.Maps Go.Sort Go.Shelf Go.Proofs Go.WideElems Go.WideShapes
def RVb (vb : Value → Bool) (v : Value) : Option (DataW Value × List MemPlace) := if vb v then some (.held v, []) else none
section
variable {P : Program} {k : TypeId} {vb : Value → Bool}
theorem rd_RVb (hk : P.underlying k = some (.int .i64)) {z : Int} (h : Zok z) (v : Value) (hv : vb v = true) (b : Nat) : rd P k (RVb vb) ⟨.int .i64 z, v, b⟩ = some (.int .i64 z, .held v) := by
  refine rd_mk (yv := (.held v, [])) ?_ (by simp [RVb, hv])
  simp [keyOf, hk, mapKey, wf_i64 h]
theorem MRep.rdb {es : List MapEntry} {clk : Nat} {f : Int → Option Value} (h : MRep es clk f) (hvb : ∀ z v, f z = some v → vb v = true) (hk : P.underlying k = some (.int .i64)) {e : MapEntry} (he : e ∈ es) : ∃ z, e.key = .int .i64 z ∧ Zok z ∧ f z = some e.val ∧ Go.WideElems.rd P k (RVb vb) e = some (.int .i64 z, .held e.val) := by
  obtain ⟨z, h1, h2, h3⟩ := h.sound e he
  obtain ⟨ek, ev, eb⟩ := e
  simp only at h1
  subst h1
  exact ⟨z, rfl, h2, h3, rd_RVb hk h2 ev (hvb _ _ h3) eb⟩
end
end Go.X

namespace Go.X
open Go
section
variable {c : Cx} {o : Oper} {E : Env} {H : List Blk} {nx : K1}
theorem QK.slT {kk : SV → Prop} {t e : Nat} {x y : Operand} {ti j : TI} (ho : o.op = .slice t x (some y) none none) {a : Option Addr} {n cap : Nat} {q : IntKind} {l : Nat} (hx : opd E x = some (.v (.slice a n cap))) (hy : opd E y = some (.v (.int q (l : Nat))))
    (hti : c.T.get t = some ti) (hd : ti.desc = .slice e) (hj : c.T.get e = some j) {k : Nat} (hkk : j.size = k) {i : Nat} {cs : List Value} {f : Blk → List Blk} (hu : At H (.ext i (SlA e k a n cap cs)) f) (hl : l ≤ n)
    (h : kk (.v (.slice (if cap = l then a else a.map (·.add (l * k))) (n - l) (cap - l)))) : QK c o E H kk := by
  subst hkk
  refine QK.val _ (fun ms ac w ha hk => ?_) h
  obtain ⟨T, h3, _⟩ := hk.upd1 hu
  have h5 := SlA.le h3
  rw [run_sl (l := l) (u := n) ho hx hti hd hj (.inr ⟨y, q, rfl, hy⟩) (.inl ⟨rfl, rfl⟩) (by omega) (by omega) (by omega) ha]
  simp [den]
theorem SrcK.tail {tx e e' k : Nat} {ti : TI} (hti : c.T.get tx = some ti) (hd : ti.desc = .slice e') {a n cap cs} {i : Nat} {f : Blk → List Blk} (hu : At H (.ext i (SlA e k a n cap cs)) f) (h1 : ∀ u ∈ cs, u.oneCell' = true) {l : Nat} (hl : l ≤ n) :
    SrcK c H k tx (.v (.slice (if cap = l then a else a.map (·.add (l * k))) (n - l) (cap - l))) (n - l) (cs.drop (l * k)) := by
  have hs : Sees c H e k (if cap = l then a else a.map (·.add (l * k))) (n - l) (cap - l) (cs.drop (l * k)) := fun ms w hk => by
    obtain ⟨T, h3, h4, _⟩ := hk.upd1 hu
    refine ⟨T, ?_, h4⟩
    have h5 := SlA.part h3 hl (Nat.le_refl n)
    rwa [List.take_of_length_le (by rw [List.length_drop, SlA.len h3, ← Nat.sub_mul]; exact Nat.le_refl _)] at h5
  exact SrcK.sees hti hd hs fun u hu => h1 u (List.mem_of_mem_drop hu)
end
theorem Kn0.oldC {W S H w b o} (h : Kn0 W S H w) (hb : W.heap[b]? = some o) (hS : ¬ S b) : w.heap[b]? = some o := by
  rw [h.old b (Array.getElem?_eq_some_iff.1 hb).1 hS]; exact hb
theorem Kn.oldO {W S ms H w b o} (h : Kn W S ms H w) (hb : W.heap[b]? = some o) (hS : ¬ S b) : w.heap[b]? = some o := Kn0.oldC h hb hS
end Go.X
