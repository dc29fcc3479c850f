/- Contracts and lemmas for the claim (part 7); no condition of its own. -/
import Derived.Test.YtjkmpaggfbghiaaGreatDoorYQC906
import Derived.Test.YtjkmpaggfbghiaaGreatDoorYQC905
set_option linter.all false
set_option maxRecDepth 100000
set_option maxHeartbeats 0
set_option linter.unusedVariables false
set_option linter.unusedSimpArgs false
set_option linter.unnecessarySimpa false
namespace Go.X.OM
open Go Go.X
theorem play_groups (l : List (Nat × Nat)) (o : St) : (playF o l).groups = o.groups := by
  induction l generalizing o with
  | nil => rfl
  | cons m l ih =>
    show (playF ((o.apply (cmdOf o m.1 m.2)).1) l).groups = _
    rw [ih]
    exact (dox_done o (cmdOf o m.1 m.2)).2
def bump (o : St) : Int := min (o.done + 1) 1099511627776
structure Mid (o s : St) (r : Rg) (fr to st : Int) (d : Str) : Prop where
  inv : Inv s
  parts : s.parts = o.parts
  at_ : s.moves[o.moves.length]? = some ⟨r, fr, to, st, d⟩
theorem Mid.start {o : St} {r : Rg} {fr to : Int} (h : Inv { o with moves := o.moves ++ [⟨r, fr, to, 1, eps⟩], done := bump o }) : Mid o { o with moves := o.moves ++ [⟨r, fr, to, 1, eps⟩], done := bump o } r fr to 1 eps :=
  ⟨h, rfl, by simp⟩
theorem Mid.route {o s : St} {r : Rg} {fr to st : Int} {d : Str} (h : Mid o s r fr to st d) (k : Str) : s.route k = o.route k := by
  unfold St.route St.part
  rw [h.parts]
theorem Mid.free {o s : St} {r : Rg} {fr to st : Int} {d : Str} (h : Mid o s r fr to st d) (hs : st ≠ 3) {y : Item} {z : Cmd} (hy : (y, z) ∈ s.wanted) (hm : y.move = 0) : r.has z.key = false := by
  unfold St.wanted at hy
  rcases List.mem_append.1 hy with hy | hy
  · exact busy_none hy h.at_ hs
  · obtain ⟨⟨n, m⟩, hm1, hm2⟩ := List.mem_map.1 hy
    obtain ⟨j, _, h2, _⟩ := openF_mem.1 hm1
    have e : y = (mvItem n m).1 := by rw [hm2]
    rw [e, mvItem_fst] at hm
    split at hm
    · dsimp only at hm; omega
    · dsimp only at hm; omega
theorem Mid.key {o s : St} {r : Rg} {fr to st : Int} {d : Str} (h : Mid o s r fr to st d) {y : Item} {z : Cmd} (hy : (y, z) ∈ s.wanted) (hm : y.move = 0) : nmOk z.key = true := by
  unfold St.wanted at hy
  rcases List.mem_append.1 hy with hy | hy
  · obtain ⟨id, s2, h1, h2, _, _, h3⟩ := effs_spec hy
    subst h3
    exact stepAt_name (h.inv.sok _ h1).2.2 h2
  · obtain ⟨⟨n, m⟩, hm1, hm2⟩ := List.mem_map.1 hy
    obtain ⟨j, _, h2, _⟩ := openF_mem.1 hm1
    have e : y = (mvItem n m).1 := by rw [hm2]
    rw [e, mvItem_fst] at hm
    split at hm
    · dsimp only at hm; omega
    · dsimp only at hm; omega
def outX (o : St) (fr : Int) : Item := ⟨zEff, o.moves.length + 1, false, fr⟩
def inX (o : St) (to : Int) : Item := ⟨zEff, o.moves.length + 1, true, to⟩
theorem Mid.mem {o s : St} {r : Rg} {fr to st : Int} {d : Str} (h : Mid o s r fr to st d) (hs : st ≠ 3) : mvItem (o.moves.length + 1) ⟨r, fr, to, st, d⟩ ∈ s.wanted := by
  unfold St.wanted
  refine List.mem_append.2 (.inr (List.mem_map.2 ⟨(o.moves.length + 1, ⟨r, fr, to, st, d⟩), openF_mem.2 ⟨o.moves.length, h.at_, by omega, hs⟩, rfl⟩))
theorem Mid.out {o s : St} {r : Rg} {fr to : Int} {d : Str} (h : Mid o s r fr to 1 d) : ∃ c, (outX o fr, c) ∈ s.wanted := ⟨_, h.mem (by decide)⟩
theorem Mid.in_ {o s : St} {r : Rg} {fr to : Int} {d : Str} (h : Mid o s r fr to 2 d) : ∃ c, (inX o to, c) ∈ s.wanted := ⟨_, h.mem (by decide)⟩
end Go.X.OM

namespace Go.X.OM
open Go Go.X
def badC (i : Nat) : Cmd := match i with
  | 0 => { zCmd with kind := 2, key := sA }
  | 1 => { zCmd with kind := 3, move := 1 }
  | 2 => { zCmd with kind := 7 }
  | 3 => { zCmd with kind := 0, call := 1 }
  | 4 => { zCmd with kind := 11, saga := 10000, d := payD }
  | 5 => { zCmd with kind := 11, saga := 500 }
  | 6 => { zCmd with kind := 14, r := ⟨sB, sA⟩, group := 1 }
  | 7 => { zCmd with kind := 14, r := ⟨sA, eps⟩, group := 4 }
  | 8 => { zCmd with kind := 12 }
  | _ => { zCmd with kind := 15 }
theorem bad_ok : ∀ i : Fin 10, i.val ≠ 7 → (badC i.val).ok = false := by decide +kernel
theorem bad_dox {o : St} (hg : o.groups = 4) {i : Nat} (hi : i < 10) : o.dox (badC i) = (o, ⟨2, 0⟩) := by
  by_cases h : i = 7
  · subst h
    have hok : (badC 7).ok = true := by decide +kernel
    have hd := dox_move o 0 ⟨sA, eps⟩ 4 hok
    refine Eq.trans hd ?_
    unfold St.doMove
    rw [if_pos (by show o.groups ≤ 4; omega)]
  · have := bad_ok ⟨i, hi⟩ h
    unfold St.dox
    rw [show (badC i).ok = false from this]
    rfl
theorem bad_apply {o : St} (hg : o.groups = 4) {i : Nat} (hi : i < 10) : o.apply (badC i) = ({ o with done := bump o }, ⟨2, 0⟩) := by
  unfold St.apply bump
  rw [bad_dox hg hi]
def Low (o : St) : Prop := ∀ x ∈ o.sagas, x.1 ≤ 12
theorem Low.put {o : St} (h : Low o) {id : Int} {s : Sg} (hid : id ≤ 12) : ∀ x ∈ putS id s o.sagas, x.1 ≤ 12 := by
  intro x hx
  rcases putS_mem hx with rfl | hx
  · exact hid
  · exact h x hx
theorem Low.dox {o : St} (h : Low o) {c : Cmd} (hc : c.kind = 11 → c.saga ≤ 12) : Low (o.dox c).1 := by
  unfold St.dox
  split
  · exact h
  · split
    · exact h
    · split
      · rename_i hk
        unfold St.doStart
        split
        · exact h
        · split
          · exact h
          · exact h.put (hc hk)
      · split
        · exact h
        · split
          · unfold St.doCancel
            split
            · exact h
            · rename_i s hs
              split
              · exact h.put (h _ (get_spec hs))
              · exact h
          · split
            · unfold St.doMove
              split
              · exact h
              · split
                · exact h
                · split
                  · exact h
                  · split
                    · exact h
                    · split
                      · exact h
                      · split <;> exact h
            · unfold St.doResult
              split
              · exact h
              · split
                · split
                  · exact h
                  · rename_i s hs
                    exact h.put (h _ (get_spec hs))
                · split
                  · exact h
                  · split <;> exact h
theorem cmdOf_low (o : St) (k n : Nat) : (cmdOf o k n).kind = 11 → (cmdOf o k n).saga ≤ 12 := by
  have hm := Nat.mod_lt n (show 12 > 0 by decide)
  unfold cmdOf
  split
  · intro _; show ((1 + n % 12 : Nat) : Int) ≤ 12; omega
  · split
    · intro h; exact absurd h (by show ¬ (12 : Int) = 11; decide)
    · split
      · intro h; exact absurd h (by show ¬ (13 : Int) = 11; decide)
      · split
        · intro h; exact absurd h (by show ¬ (14 : Int) = 11; decide)
        · split
          · intro h; exact absurd h (by decide)
          · intro h; exact absurd h (by show ¬ (15 : Int) = 11; decide)
theorem Low.apply {o : St} (h : Low o) {c : Cmd} (hc : c.kind = 11 → c.saga ≤ 12) : Low (o.apply c).1 := h.dox hc
theorem Low.play {o : St} (h : Low o) (l : List (Nat × Nat)) : Low (playF o l) := by
  induction l generalizing o with
  | nil => exact h
  | cons m l ih => exact ih (h.apply (cmdOf_low o m.1 m.2))
theorem apply_done {o : St} (c : Cmd) : (o.apply c).1.done = bump o := rfl
theorem play_done : ∀ (l : List (Nat × Nat)) (o : St), 0 ≤ o.done → o.done + l.length ≤ 1000 → 0 ≤ (playF o l).done ∧ (playF o l).done ≤ o.done + l.length
  | [], o, h, _ => ⟨h, by show o.done ≤ o.done + ((0 : Nat) : Int); omega⟩
  | m :: l, o, h, hl => by
    rw [List.length_cons] at hl ⊢
    have e : (o.apply (cmdOf o m.1 m.2)).1.done = o.done + 1 := by rw [apply_done]; unfold bump; push_cast at hl; omega
    have := play_done l (o.apply (cmdOf o m.1 m.2)).1 (by omega) (by push_cast at hl; omega)
    show 0 ≤ (playF (o.apply (cmdOf o m.1 m.2)).1 l).done ∧ (playF (o.apply (cmdOf o m.1 m.2)).1 l).done ≤ _
    push_cast at hl ⊢
    omega
abbrev canC : Cmd := { zCmd with kind := 13, saga := 500 }
theorem low_get {o : St} (h : Low o) : o.get 500 = none := by
  cases hg : o.get 500 with
  | none => rfl
  | some s => have := h _ (get_spec hg); dsimp only at this; omega
theorem can_apply {o : St} (h : Low o) : o.apply canC = ({ o with done := bump o }, ⟨5, 0⟩) := by
  have hd := dox_cancel o 0 500 (by decide)
  unfold St.apply bump
  rw [show o.dox canC = _ from hd]
  unfold St.doCancel
  rw [show o.get ({ zCmd with kind := 13, call := 0, saga := 500 } : Cmd).saga = none from low_get h]
theorem res5_apply {o : St} (h : Low o) : o.apply (resC (effI 500 0 1 1) 0 eps) = ({ o with done := bump o }, ⟨9, 0⟩) := by
  have hc : o.command (effI 500 0 1 1) = none := by
    refine command_none fun c hx => ?_
    rcases wanted_spec hx with ⟨id, s, h1, _, h3, _, _⟩ | ⟨j, m, _, _, h3⟩
    · have := h _ h1
      dsimp only at this
      have h4 : (500 : Int) = id := by
        have := congrArg Eff.saga h3
        exact this
      omega
    · have e : (effI 500 0 1 1) = (mvItem (1 + j) m).1 := by rw [← h3]
      rw [mvItem_fst] at e
      have := congrArg Item.move e
      split at this
      · have : (0 : Int) = 1 + j := this
        omega
      · have : (0 : Int) = 1 + j := this
        omega
  have hr := res_refused (res := 0) (d := eps) (x := effI 500 0 1 1) (by decide) (by decide) (by decide) hc
  have he := apply_err (o := o) (c := resC (effI 500 0 1 1) 0 eps) (by rw [hr]; decide)
  exact Prod.ext he hr
theorem noop_apply (o : St) : o.apply zCmd = ({ o with done := bump o }, ⟨0, 0⟩) := by
  unfold St.apply bump
  rw [dox_noop]
def St.alike (o s : St) : Prop := s.groups = o.groups ∧ s.sagas = o.sagas ∧ s.moves = o.moves ∧ s.parts = o.parts
end Go.X.OM

namespace Go.X.OM
open Go Go.X
structure Inv2 (o : St) : Prop where
  dat : ∀ m ∈ o.moves, m.st ≠ 2 → m.data = eps
  before : ∀ (i j : Nat) (m m' : Mv), o.moves[i]? = some m → o.moves[j]? = some m' → i < j → m.st ≠ 3 → meets m.r m'.r = false
theorem Inv2.init (g : Int) : Inv2 (OM.init g) := ⟨by simp [OM.init], by simp [OM.init]⟩
theorem Inv2.modify {l : List Mv} (h1 : ∀ m ∈ l, m.st ≠ 2 → m.data = eps) (h2 : ∀ (i j : Nat) (m m' : Mv), l[i]? = some m → l[j]? = some m' → i < j → m.st ≠ 3 → meets m.r m'.r = false) {n : Nat} {f : Mv → Mv}
    (hr : ∀ m, (f m).r = m.r) (hd : ∀ m, (f m).st ≠ 2 → (f m).data = eps) (ho : ∀ m, l[n]? = some m → (f m).st ≠ 3 → m.st ≠ 3) :
    (∀ m ∈ l.modify n f, m.st ≠ 2 → m.data = eps) ∧ ∀ (i j : Nat) (m m' : Mv), (l.modify n f)[i]? = some m → (l.modify n f)[j]? = some m' → i < j → m.st ≠ 3 → meets m.r m'.r = false := by
  have hg : ∀ (i : Nat) (m : Mv), (l.modify n f)[i]? = some m → ∃ m0, l[i]? = some m0 ∧ (m = m0 ∨ (n = i ∧ m = f m0)) := by
    intro i m hm
    rw [List.getElem?_modify] at hm
    split at hm
    · rename_i e
      cases hl : l[i]? with
      | none => rw [hl] at hm; cases hm
      | some m0 =>
        rw [hl] at hm
        simp only [Option.map_eq_map, Option.map_some, Option.some.injEq] at hm
        exact ⟨m0, rfl, .inr ⟨e, hm.symm⟩⟩
    · cases hl : l[i]? with
      | none => rw [hl] at hm; cases hm
      | some m0 =>
        rw [hl] at hm
        simp only [Option.map_eq_map, Option.map_some, Option.some.injEq, id_eq] at hm
        exact ⟨m0, rfl, .inl hm.symm⟩
  refine ⟨fun m hm hs => ?_, fun i j m m' hm hm' hij hs => ?_⟩
  · obtain ⟨i, hi⟩ := List.mem_iff_getElem?.1 hm
    obtain ⟨m0, k1, k2⟩ := hg i m hi
    rcases k2 with rfl | ⟨_, rfl⟩
    · exact h1 _ (List.mem_of_getElem? k1) hs
    · exact hd m0 hs
  · obtain ⟨m0, k1, k2⟩ := hg i m hm
    obtain ⟨m1, k3, k4⟩ := hg j m' hm'
    have e1 : m.r = m0.r := by rcases k2 with rfl | ⟨_, rfl⟩; rfl; exact hr _
    have e2 : m'.r = m1.r := by rcases k4 with rfl | ⟨_, rfl⟩; rfl; exact hr _
    have e3 : m0.st ≠ 3 := by
      rcases k2 with rfl | ⟨e, rfl⟩
      · exact hs
      · subst e; exact ho m0 k1 hs
    rw [e1, e2]
    exact h2 i j m0 m1 k1 k3 hij e3
theorem Inv2.push {o : St} (h : Inv2 o) {r : Rg} {fr to : Int} (hb : o.openM.any (fun x => meets x.2.r r) = false) : Inv2 { o with moves := o.moves ++ [⟨r, fr, to, 1, eps⟩] } where
  dat := by
    intro m hm hs
    rcases List.mem_append.1 hm with hm | hm
    · exact h.dat m hm hs
    · simp only [List.mem_singleton] at hm; subst hm; rfl
  before := by
    intro i j m m' hm hm' hij hs
    have hm : (o.moves ++ [⟨r, fr, to, 1, eps⟩])[i]? = some m := hm
    have hm' : (o.moves ++ [⟨r, fr, to, 1, eps⟩])[j]? = some m' := hm'
    have hj : j < o.moves.length + 1 := by
      have := (List.getElem?_eq_some_iff.1 hm').1
      rw [List.length_append] at this
      exact this
    rw [List.getElem?_append_left (by omega)] at hm
    by_cases hjl : j < o.moves.length
    · rw [List.getElem?_append_left hjl] at hm'
      exact h.before i j m m' hm hm' hij hs
    · have : j = o.moves.length := by omega
      subst this
      rw [List.getElem?_append_right (Nat.le_refl _), Nat.sub_self] at hm'
      simp only [List.getElem?_cons_zero, Option.some.injEq] at hm'
      subst hm'
      have := List.any_eq_false.1 hb (1 + i, m) (openF_mem.2 ⟨i, hm, rfl, hs⟩)
      simpa using this
theorem Inv2.dox {o : St} (h : Inv2 o) (hi : Inv o) (c : Cmd) : Inv2 (o.dox c).1 := by
  unfold St.dox
  split
  · exact h
  · split
    · exact h
    · split
      · unfold St.doStart
        split
        · exact h
        · split
          · exact h
          · exact ⟨h.dat, h.before⟩
      · split
        · exact h
        · split
          · unfold St.doCancel
            split
            · exact h
            · split
              · exact ⟨h.dat, h.before⟩
              · exact h
          · split
            · unfold St.doMove
              split
              · exact h
              · split
                · exact h
                · split
                  · exact h
                  · split
                    · exact h
                    · rename_i hb
                      split
                      · exact h
                      · split
                        · exact h
                        · exact h.push (by simpa using hb)
            · unfold St.doResult
              split
              · exact h
              · rename_i hc
                split
                · split
                  · exact h
                  · exact ⟨h.dat, h.before⟩
                · split
                  · rename_i hmv hin
                    have hopen : ∀ m, o.moves[(c.item.move - 1).toNat]? = some m → ({ m with st := 2, data := c.data } : Mv).st ≠ 3 → m.st ≠ 3 := by
                      intro m hm _
                      obtain ⟨cc, hcc⟩ : ∃ cc, o.command c.item = some cc := by
                        cases hx : o.command c.item with
                        | none => exact absurd (.inl (by rw [hx]; rfl)) hc
                        | some cc => exact ⟨cc, rfl⟩
                      rcases wanted_spec (command_spec hcc) with ⟨id, s2, _, _, _, h4, _⟩ | ⟨j, m1, h1, h2, h3⟩
                      · exact absurd h4 hmv
                      · have hfst : c.item = (mvItem (1 + j) m1).1 := by rw [← h3]
                        have e1 : c.item.move = 1 + j := by rw [hfst, mvItem_fst]; split <;> rfl
                        rw [show (c.item.move - 1).toNat = j by omega, h1] at hm
                        cases hm
                        exact h2
                    obtain ⟨k1, k2⟩ := Inv2.modify h.dat h.before (n := (c.item.move - 1).toNat) (f := fun m => { m with st := 2, data := c.data }) (fun _ => rfl) (fun _ hs => absurd rfl hs) hopen
                    exact ⟨k1, k2⟩
                  · split
                    · exact h
                    · obtain ⟨k1, k2⟩ := Inv2.modify h.dat h.before (n := (c.item.move - 1).toNat) (f := fun m => { m with st := 3, data := eps }) (fun _ => rfl) (fun _ _ => rfl) (fun _ _ hs => absurd rfl hs)
                      exact ⟨k1, k2⟩
theorem Inv2.apply {o : St} (h : Inv2 o) (hi : Inv o) (c : Cmd) : Inv2 (o.apply c).1 := ⟨(h.dox hi c).dat, (h.dox hi c).before⟩
theorem Inv2.play {o : St} (h : Inv2 o) (hi : Inv o) (l : List (Nat × Nat)) : Inv2 (playF o l) := by
  induction l generalizing o with
  | nil => exact h
  | cons m l ih => exact ih (h.apply hi _) (hi.apply _)
end Go.X.OM
