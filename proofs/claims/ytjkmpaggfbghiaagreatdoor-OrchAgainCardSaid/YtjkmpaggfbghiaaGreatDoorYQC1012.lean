/- Contracts and lemmas for the claim (part 12); no condition of its own. -/
import Derived.Test.YtjkmpaggfbghiaaGreatDoorYQC1011
import Derived.Test.YtjkmpaggfbghiaaGreatDoorYQC1006
import Derived.Test.YtjkmpaggfbghiaaGreatDoorYQC1004
import Derived.Deep.RegionHeld3
import Derived.IntWalk
set_option linter.all false
set_option maxRecDepth 100000
set_option maxHeartbeats 0
set_option linter.unusedVariables false
set_option linter.unusedSimpArgs false
set_option linter.unnecessarySimpa false
namespace Go.Proofs.YtjkmpaggfbghiaaGreatDoor
open Go Go.X
abbrev wtL (r : OM.Rg) (p : OM.Pt) : List OM.Pt := (OM.without p.r r).map fun s => ⟨s, p.group, p.epoch⟩
def leT (r : OM.Rg) (T : List (Nat × OM.Pt)) : List OM.Pt := T.flatMap fun x => wtL r x.2
def epT (T : List (Nat × OM.Pt)) : Int := T.foldl (fun a x => max a x.2.epoch) 0
def fsT : List (Nat × OM.Pt) → Int
  | [] => -1
  | x :: _ => (x.1 : Int)
def lsT (T : List (Nat × OM.Pt)) : Int := T.foldl (fun _ x => (x.1 : Int)) (-1)
theorem leT_snoc {r : OM.Rg} {A : List (Nat × OM.Pt)} {x : Nat × OM.Pt} : leT r (A ++ [x]) = leT r A ++ wtL r x.2 := by unfold leT; rw [List.flatMap_append]; simp
theorem epT_snoc {A : List (Nat × OM.Pt)} {x : Nat × OM.Pt} : epT (A ++ [x]) = max (epT A) x.2.epoch := by unfold epT; rw [List.foldl_append]; rfl
theorem lsT_snoc {A : List (Nat × OM.Pt)} {x : Nat × OM.Pt} : lsT (A ++ [x]) = x.1 := by unfold lsT; rw [List.foldl_append]; rfl
theorem fsT_snoc {A : List (Nat × OM.Pt)} {x : Nat × OM.Pt} : fsT (A ++ [x]) = if fsT A < 0 then (x.1 : Int) else fsT A := by
  cases A with
  | nil => rfl
  | cons y l => show (y.1 : Int) = if (y.1 : Int) < 0 then _ else (y.1 : Int); rw [if_neg (by omega)]
theorem tcF_map (r : OM.Rg) : ∀ (l : List OM.Pt) (k : Nat), (tcF r k l).map (·.2) = l.filter fun p => OM.meets p.r r
  | [], _ => rfl
  | p :: l, k => by
    rw [tcF, List.filter_cons]
    by_cases h : OM.meets p.r r = true
    · rw [if_pos h, if_pos h, List.map_cons, tcF_map r l (k + 1)]
    · rw [if_neg h, if_neg h]; exact tcF_map r l (k + 1)
theorem fs_spec (r : OM.Rg) : ∀ (l : List OM.Pt) (k : Nat), (∃ p ∈ l, OM.meets p.r r = true) → fsT (tcF r k l) = ((k + OM.firstIx r l : Nat) : Int)
  | [], _, h => by obtain ⟨_, h, _⟩ := h; cases h
  | p :: l, k, h => by
    unfold OM.firstIx
    rw [tcF, List.findIdx_cons]
    by_cases hm : OM.meets p.r r = true
    · rw [if_pos hm, hm]; rfl
    · have hm2 : OM.meets p.r r = false := by simpa using hm
      rw [if_neg hm, hm2]
      obtain ⟨q, hq, hq2⟩ := h
      rcases List.mem_cons.1 hq with rfl | hq
      · exact absurd hq2 hm
      · rw [fs_spec r l (k + 1) ⟨q, hq, hq2⟩]
        unfold OM.firstIx
        simp only [cond_false]
        congr 1
        omega
theorem tcF_append (r : OM.Rg) : ∀ (A B : List OM.Pt) (k : Nat), tcF r k (A ++ B) = tcF r k A ++ tcF r (k + A.length) B
  | [], B, k => rfl
  | p :: A, B, k => by
    rw [List.cons_append, tcF, tcF, tcF_append r A B (k + 1), show k + 1 + A.length = k + (p :: A).length by rw [List.length_cons]; omega]
    by_cases h : OM.meets p.r r = true
    · rw [if_pos h, if_pos h]; rfl
    · rw [if_neg h, if_neg h]
theorem ls_spec (r : OM.Rg) (l : List OM.Pt) (h : ∃ p ∈ l, OM.meets p.r r = true) : lsT (tcF r 0 l) = ((OM.lastIx r l : Nat) : Int) := by
  have main : ∀ (m : List OM.Pt), (∃ p ∈ m, OM.meets p.r r = true) → lsT (tcF r 0 m.reverse) = ((m.length - 1 - m.findIdx (fun p => OM.meets p.r r) : Nat) : Int) := by
    intro m
    induction m with
    | nil => rintro ⟨_, h, _⟩; cases h
    | cons p m ih =>
      intro h
      rw [List.reverse_cons, tcF_append, List.findIdx_cons]
      by_cases hm : OM.meets p.r r = true
      · rw [show tcF r (0 + m.reverse.length) [p] = [(0 + m.reverse.length, p)] by rw [tcF, if_pos hm]; rfl, lsT_snoc, hm]
        simp
      · have hm2 : OM.meets p.r r = false := by simpa using hm
        rw [show tcF r (0 + m.reverse.length) [p] = [] by rw [tcF, if_neg hm]; rfl, List.append_nil, hm2]
        obtain ⟨q, hq, hq2⟩ := h
        rcases List.mem_cons.1 hq with rfl | hq
        · exact absurd hq2 hm
        · rw [ih ⟨q, hq, hq2⟩]
          simp only [cond_false, List.length_cons]
          congr 1
          omega
  obtain ⟨p, hp, hp2⟩ := h
  have := main l.reverse ⟨p, by simpa using hp, hp2⟩
  rw [List.reverse_reverse, List.length_reverse] at this
  exact this
theorem ep_spec (r : OM.Rg) (l : List OM.Pt) (k : Nat) : epT (tcF r k l) = (l.filter fun p => OM.meets p.r r).foldl (fun a p => max a p.epoch) 0 := by
  rw [← tcF_map r l k]
  unfold epT
  rw [List.foldl_map]
theorem le_spec (r : OM.Rg) (l : List OM.Pt) (k : Nat) : leT r (tcF r k l) = (l.filter fun p => OM.meets p.r r).flatMap fun p => wtL r p := by
  rw [← tcF_map r l k]
  unfold leT
  rw [List.flatMap_map]
theorem moveP_tc {r : OM.Rg} {l : List OM.Pt} {g : Int} (h : ∃ p ∈ l, OM.meets p.r r = true) :
    OM.moveP l r g = l.take (fsT (tcF r 0 l)).toNat ++ ((leT r (tcF r 0 l)).take (OM.leftN r (leT r (tcF r 0 l))) ++ ([⟨r, g, min (epT (tcF r 0 l) + 1) 2147483648⟩] ++ ((leT r (tcF r 0 l)).drop (OM.leftN r (leT r (tcF r 0 l))) ++ l.drop ((lsT (tcF r 0 l)).toNat + 1)))) := by
  rw [fs_spec r l 0 h, ls_spec r l h, ep_spec, le_spec]
  unfold OM.moveP
  simp only [Int.toNat_natCast, Nat.zero_add, List.append_assoc]
theorem wt_len (r : OM.Rg) (p : OM.Pt) : (wtL r p).length = (OM.without p.r r).length := List.length_map ..
theorem wo_len (a b : OM.Rg) : (OM.without a b).length ≤ 2 := by
  unfold OM.without
  rw [List.length_append]
  have h1 : ∀ (c : Bool) (x : OM.Rg), (if c = true then [x] else []).length ≤ 1 := fun c x => by cases c <;> simp
  have h2 := h1 (ltS a.lo b.lo) ⟨a.lo, if OM.endLt a.hi b.lo then a.hi else b.lo⟩
  have h3 := h1 (OM.endLt b.hi a.hi) ⟨OM.maxS a.lo b.hi, a.hi⟩
  omega
theorem le_len {r : OM.Rg} : ∀ (T : List (Nat × OM.Pt)), (leT r T).length ≤ T.length * 2
  | [] => by simp [leT]
  | x :: T => by
    have h1 := le_len (r := r) T
    have h2 := wo_len x.2.r r
    have e : leT r (x :: T) = wtL r x.2 ++ leT r T := by unfold leT; rw [List.flatMap_cons]
    rw [e, List.length_append, wt_len, List.length_cons]
    omega
theorem tc_len {r : OM.Rg} : ∀ (l : List OM.Pt) (k : Nat), (tcF r k l).length ≤ l.length
  | [], _ => by simp [tcF]
  | p :: l, k => by
    have := tc_len (r := r) l (k + 1)
    rw [tcF]
    split <;> simp <;> omega
theorem ep_rng : ∀ (T : List (Nat × OM.Pt)) (a : Int), (0 ≤ a ∧ a ≤ 2147483648) → (∀ x ∈ T, 0 ≤ x.2.epoch ∧ x.2.epoch ≤ 2147483648) → 0 ≤ T.foldl (fun a x => max a x.2.epoch) a ∧ T.foldl (fun a x => max a x.2.epoch) a ≤ 2147483648
  | [], a, h, _ => h
  | x :: T, a, h, ht => by
    rw [List.foldl_cons]
    have h1 := ht x (by simp)
    exact ep_rng T _ (by omega) fun y hy => ht y (by simp [hy])
theorem tc_mem {r : OM.Rg} {l : List OM.Pt} {k : Nat} {x : Nat × OM.Pt} (h : x ∈ tcF r k l) : x.2 ∈ l := by
  have : x.2 ∈ (tcF r k l).map (·.2) := List.mem_map.2 ⟨x, h, rfl⟩
  rw [tcF_map] at this
  exact (List.mem_filter.1 this).1
theorem rg_at {L : List OM.Rg} {i : Nat} {s : OM.Rg} (h : L[i]? = some s) : ((rgCells L).drop ((i : Int).toNat * 2)).take 2 = denL [.v (.string s.lo), .v (.string s.hi)] :=
  flat_at (g := fun r : OM.Rg => [Value.string r.lo, Value.string r.hi]) (fun _ => rfl) h
theorem rd_take {w : World} {a : Option Addr} {cap u : Nat} {l : List OM.Pt} (h : RdS w 193 4 a l.length cap (l.flatMap ptC)) (hu : u ≤ l.length) : RdS w 193 4 a (l.take u).length cap ((l.take u).flatMap ptC) := by
  have := h.pre hu
  rw [flat_take ptC_len] at this
  rwa [List.length_take, Nat.min_eq_left hu]
theorem rd_drop {w : World} {a : Option Addr} {cap u : Nat} {l : List OM.Pt} (h : RdS w 193 4 a l.length cap (l.flatMap ptC)) (hu : u ≤ l.length) : RdS w 193 4 (if cap = u then a else a.map (·.add (u * 4))) (l.drop u).length (cap - u) ((l.drop u).flatMap ptC) := by
  have := h.suf hu
  rw [flat_drop ptC_len] at this
  rwa [List.length_drop]
theorem cat51159 {a la : Option Addr} {cap lcap fi li kk b z : Nat} {l L M : List OM.Pt} {r : OM.Rg} {g eq : Int} {w : World} (hM : l.take fi ++ (L.take kk ++ ([⟨r, g, eq⟩] ++ (L.drop kk ++ l.drop (li + 1)))) = M) (hl : l.length ≤ 64) (hL : L.length ≤ 128) (hfl : fi < l.length) (hll : li < l.length) (hkL : kk ≤ L.length) (hM64 : M.length ≤ 64)
    (h1 : RdS w 200 1 (some ⟨b, 0, none⟩) 5 5 [.slice a fi cap, .slice la kk lcap, .slice (some ⟨z, 0, none⟩) 1 1, .slice (if lcap = kk then la else la.map (·.add (kk * 4))) (L.length - kk) (lcap - kk), .slice (if cap = li + 1 then a else a.map (·.add ((li + 1) * 4))) (l.length - (li + 1)) (cap - (li + 1))])
    (h2 : RdS w 193 4 (some ⟨z, 0, none⟩) 1 1 (ptC ⟨r, g, eq⟩)) (h3 : RdS w 193 4 a l.length cap (l.flatMap ptC)) (h4 : RdS w 193 4 la L.length lcap (L.flatMap ptC)) :
    FrZ Tryz.prog 159 #[.slice (some ⟨b, 0, none⟩) 5 5] w emp (fun z : Option Addr × Nat => .slice z.1 M.length z.2) (fun z => SlA 193 4 z.1 M.length z.2 (M.flatMap ptC)) := by
  obtain ⟨Ls, hLs⟩ : ∃ Ls : List CS, Ls = [(a, cap, l.take fi), (la, lcap, L.take kk), (some ⟨z, 0, none⟩, 1, [⟨r, g, eq⟩]), (if lcap = kk then la else la.map (·.add (kk * 4)), lcap - kk, L.drop kk), (if cap = li + 1 then a else a.map (·.add ((li + 1) * 4)), cap - (li + 1), l.drop (li + 1))] := ⟨_, rfl⟩
  have e : (Ls.flatMap fun x => x.2.2) = M := by rw [hLs, ← hM]; simp
  have e5 : Ls.length = 5 := by rw [hLs]; rfl
  have hmap : Ls.map csV = [.slice a fi cap, .slice la kk lcap, .slice (some ⟨z, 0, none⟩) 1 1, .slice (if lcap = kk then la else la.map (·.add (kk * 4))) (L.length - kk) (lcap - kk), .slice (if cap = li + 1 then a else a.map (·.add ((li + 1) * 4))) (l.length - (li + 1)) (cap - (li + 1))] := by
    rw [hLs]
    simp only [List.map_cons, List.map_nil, csV, List.length_take, List.length_drop, List.length_singleton, Nat.min_eq_left (Nat.le_of_lt hfl), Nat.min_eq_left hkL]
  have hN : csN Ls = M.length := congrArg List.length e
  have hpos : 0 < M.length := by rw [← hM]; simp; omega
  have := concat1159 (w := w) (Ls := Ls) (a := some ⟨b, 0, none⟩) (cap := 5) (by omega) (by rw [hmap, e5]; exact h1) (fun x hx => by
    rw [hLs] at hx
    simp only [List.mem_cons, List.not_mem_nil, or_false] at hx
    rcases hx with rfl | rfl | rfl | rfl | rfl
    · exact rd_take h3 (by omega)
    · exact rd_take h4 hkL
    · exact h2
    · exact rd_drop h4 hkL
    · exact rd_drop h3 (by omega)) (fun x hx => by
    rw [hLs] at hx
    simp only [List.mem_cons, List.not_mem_nil, or_false] at hx
    rcases hx with rfl | rfl | rfl | rfl | rfl <;> simp <;> omega) (by omega) (by omega)
  rw [e, e5, hN] at this
  exact this
theorem isGroup1131 {n : Int} (h : 1 ≤ n ∧ n ≤ 7) (w : World) : Pu Tryz.prog 131 #[.int .i64 n] w (.bool true) := by
  refine enter_sound TBok Tryz.func131 rfl rfl Tryz.ntmps131 [.v (.int .i64 n)] (Kn.start w noS) rfl rfl ?_
  conv => whnf
  repeat' (first
 | with_reducible ((first | refine r_seq (fun KS hS => ?_) | (refine hS _ _ ?_; clear hS KS)))
 | ((with_reducible (first | refine r_region ?_ | refine r_ret ?_)); conv => whnf)
 | (refine if_decT (by omega) ?_; conv => whnf))
  exact FinK.pu (by show Value.bool _ = _; rw [decide_eq_true (by omega)])
theorem rmove1108 {t : Nat} {l : List OM.Pt} {r : OM.Rg} {g own : Int} (h0 : 0 < l.length) (hl : l.length ≤ 64) (hok : ∀ p ∈ l, p.r.ok = true) (hep : ∀ p ∈ l, 0 ≤ p.epoch ∧ p.epoch ≤ 2147483648) (hr : r.ok = true) (hg : 1 ≤ g ∧ g ≤ 7) (hown : OM.ownerF r 0 l = some own) (ho : 0 < own) (hne : own ≠ g) (htc : ∃ p ∈ l, OM.meets p.r r = true) (hlen : (OM.moveP l r g).length ≤ 64) (w : World) :
    Fr Tryz.prog 108 #[pv t, .agg #[.string r.lo, .string r.hi], .int .i64 g] w (AssL [.ext 12 (PtsA t l)]) (.tuple #[.int .i64 (min (epT (tcF r 0 l) + 1) 2147483648), .int .i64 0]) (AssL [.ext 12 (PtsA t (OM.moveP l r g))]) := by
  have how1099 := fun w => owner1099 (t := t) h0 (by omega) hok hr w
  rw [hown] at how1099
  simp only [ownV] at how1099
  rw [decide_eq_true ho] at how1099
  refine enter_fr TBok (H := [.ext 12 (PtsA t l)]) all_foot Tryz.func108 rfl rfl Tryz.ntmps108 [.loc t 0 0, .agg [.v (.string r.lo), .v (.string r.hi)], .v (.int .i64 g)] rfl rfl ?_
  intro S
  conv => whnf
  repeat' (first
 | with_reducible ((first | refine r_seq (fun KS hS => ?_) | (refine hS _ _ ?_; clear hS KS) | (refine hB _ ?_; clear hB KB) | refine r_block ?_))
 | ((with_reducible (first | refine r_region ?_ | refine r_cond (fun KA hA KB hB => ?_) | refine r_ret ?_ | refine r_skip ?_ | refine And.intro rfl ?_ | intro b)); conv => whnf)
 | (apply in1153; rfl; rfl; rfl; intro A; conv => whnf)
 | ((with_reducible refine CallK.id ?_); refine CallK.s1V rmG (fun ms w hk => how1099 w) ?_; conv => whnf)
 | ((with_reducible refine CallK.at 131 ?_); refine CallK.pu (fun w => isGroup1131 hg w) ?_; conv => whnf)
 | (refine if_decF (by omega) ?_; conv => whnf)
 | with_reducible apply_assumption -symm -exfalso)
  rename_i br _ _ _ _ _ _ bf bl be bv bm
  refine r_rangeN (fun i => [.blk 13 br [.v (.string r.lo), .v (.string r.hi)] 37, .blk 14 bf [.v (.int .i64 (fsT ((tcF r 0 l).take i)))] 3, .blk 15 bl [.v (.int .i64 (lsT ((tcF r 0 l).take i)))] 3, .blk 16 be [.v (.int .i64 (epT ((tcF r 0 l).take i)))] 3, .ext 5 (BxE 17 200 193 4 bv (leT r ((tcF r 0 l).take i)).length ((leT r ((tcF r 0 l).take i)).flatMap ptC))]) ((tcF r 0 l).map ptX) 40 rfl ?_ (touch1201 (t := t) (bx := bm) (br := b) (by omega) hok hr) ?_ (by decide) ?_ ?_
  · exact HSub.trans (HSub.app2 (A' := [.blk 11 bm [.loc t 0 0] 119, .blk 13 b [.v (.string r.lo), .v (.string r.hi)] 37, .ext 12 (PtsA t l), .blk 13 br [.v (.string r.lo), .v (.string r.hi)] 37, .blk 14 bf [.v (.int .i64 (-1))] 3, .blk 15 bl [.v (.int .i64 (-1))] 3, .blk 16 be [.v (.int .i64 0)] 3]) (HSub.refl _) (bx_nil (j := 17))) seG
  · intro x hx
    obtain ⟨y, _, rfl⟩ := List.mem_map.1 hx
    rfl
  · intro i x hx lp rc W' S'
    rw [List.getElem?_map, Option.map_eq_some_iff] at hx
    obtain ⟨⟨n, p⟩, hx, rfl⟩ := hx
    have hil : i < (tcF r 0 l).length := (List.getElem?_eq_some_iff.1 hx).1
    rw [← take_snoc hx, fsT_snoc, lsT_snoc, epT_snoc, leT_snoc]
    have hmem := tc_mem (List.mem_of_getElem? hx)
    have hpo : p.r.ok = true := hok p hmem
    have hpe : 0 ≤ p.epoch ∧ p.epoch ≤ 2147483648 := hep p hmem
    have hA0 : 0 ≤ epT ((tcF r 0 l).take i) ∧ epT ((tcF r 0 l).take i) ≤ 2147483648 := ep_rng _ 0 (by omega) fun y hy => hep _ (tc_mem (List.mem_of_mem_take hy))
    have hle : (leT r ((tcF r 0 l).take i)).length ≤ 128 := by
      have h1 := le_len (r := r) ((tcF r 0 l).take i)
      have h2 := tc_len (r := r) l 0
      have h3 : ((tcF r 0 l).take i).length ≤ (tcF r 0 l).length := by rw [List.length_take]; omega
      omega
    generalize (tcF r 0 l).take i = A0 at *
    have hw2 := wo_len p.r r
    have hwt := wt_len r p
    have hbe1 : (leT r A0 ++ wtL r p).length = (leT r A0).length + (OM.without p.r r).length := by rw [List.length_append, hwt]
    have hbe2 : (wtL r p).take (OM.without p.r r).length = wtL r p := by rw [← hwt]; exact List.take_length
    have hsn : ∀ (j : Nat) (s : OM.Rg), (OM.without p.r r)[j]? = some s → (leT r A0 ++ (wtL r p).take (j + 1)).flatMap ptC = (leT r A0 ++ (wtL r p).take j).flatMap ptC ++ ptC ⟨s, p.group, p.epoch⟩ := by
      intro j s hs
      have : (wtL r p)[j]? = some ⟨s, p.group, p.epoch⟩ := by rw [List.getElem?_map, hs]; rfl
      rw [← take_snoc this, ← List.append_assoc, List.flatMap_append (xs := leT r A0 ++ _)]
      simp
    conv => whnf
    repeat' (first
 | with_reducible ((first | refine r_seq (fun KS hS => ?_) | (refine hS _ _ ?_; clear hS KS)))
 | ((with_reducible (first | refine r_region ?_ | refine And.intro rfl ?_ | intro b)); conv => whnf))
    revert b
    intro bq
    refine AssignX.rm rmG ?_
    obtain ⟨F, hF⟩ : ∃ F, (if fsT A0 < 0 then ((n : Nat) : Int) else fsT A0) = F := ⟨_, rfl⟩
    rw [hF]
    have hFp : fsT A0 < 0 → F = n := fun h => by rw [← hF, if_pos h]
    have hFn : ¬ fsT A0 < 0 → F = fsT A0 := fun h => by rw [← hF, if_neg h]
    refine r_block ?_
    refine r_cut (α := Unit) (fun _ => [(4, .loc br 13 0), (12, .loc bl 15 0), (13, .loc be 16 0), (14, .loc bv 17 0), (15, .v (.int .i64 (n : Nat))), (16, .loc bq 41 0)]) (fun _ => [.ext 40 (lrA lp { rc with state := .busy }), .blk 41 bq [.v (.string p.r.lo), .v (.string p.r.hi), .v (.int .i64 p.group), .v (.int .i64 p.epoch)] 193, .blk 13 br [.v (.string r.lo), .v (.string r.hi)] 37, .blk 14 bf [.v (.int .i64 F)] 3, .blk 15 bl [.v (.int .i64 (lsT A0))] 3, .blk 16 be [.v (.int .i64 (epT A0))] 3, .ext 5 (BxE 17 200 193 4 bv (leT r A0).length ((leT r A0).flatMap ptC))]) (fun _ => True) ?_ ?_
    · intro KC hC
      repeat' (first
 | with_reducible ((first | refine r_seq (fun KS hS => ?_) | (refine hS _ _ ?_; clear hS KS) | (refine hA _ ?_; clear hA KA) | (refine hB _ ?_; clear hB KB)))
 | ((with_reducible (first | refine r_region ?_ | refine r_cond (fun KA hA KB hB => ?_) | refine r_skip ?_ | refine And.intro rfl ?_)); conv => whnf)
 | (refine hC () _ _ trivial suG ?_)
 | (refine if_dec (fun h => ?_) (fun h => ?_); all_goals (conv => whnf)))
      all_goals first | (rw [hFp ‹_›]; exact seG) | (rw [hFn ‹_›]; exact seG)
    rintro - -
    refine r_cut (α := Unit) (fun _ => [(4, .loc br 13 0), (14, .loc bv 17 0), (16, .loc bq 41 0)]) (fun _ => [.ext 40 (lrA lp { rc with state := .busy }), .blk 41 bq [.v (.string p.r.lo), .v (.string p.r.hi), .v (.int .i64 p.group), .v (.int .i64 p.epoch)] 193, .blk 13 br [.v (.string r.lo), .v (.string r.hi)] 37, .blk 14 bf [.v (.int .i64 F)] 3, .blk 15 bl [.v (.int .i64 (n : Nat))] 3, .blk 16 be [.v (.int .i64 (max (epT A0) p.epoch))] 3, .ext 5 (BxE 17 200 193 4 bv (leT r A0).length ((leT r A0).flatMap ptC))]) (fun _ => True) ?_ ?_
    · intro KC hC
      repeat' (first
 | ((with_reducible refine And.intro rfl ?_); conv => whnf)
 | (apply r_any (id := 15); refine mixed; kernel_rfl; kernel_rfl; conv => whnf)
 | ((with_reducible refine OpK.id ?_); refine OpK.maxI rfl rfl rfl ?_; conv => whnf)
 | (refine hC () _ _ trivial suG seG)
 | ((with_reducible ((first | refine InAt.mk (fun K' hK => ?_) | refine AnyAt.mk (fun K' hK => ?_) | (refine hK _ ?_; clear hK K') | (refine hK _ _ ?_; clear hK K')))); conv => whnf)
 | (refine And.intro ?_ ?_; all_goals (conv => whnf)))
    · rintro - -
      repeat' (first
 | with_reducible ((first | refine r_seq (fun KS hS => ?_) | (refine hS _ _ ?_; clear hS KS) | refine r_block ?_))
 | ((with_reducible (first | refine r_region ?_ | refine And.intro rfl ?_ | intro b)); conv => whnf)
 | ((with_reducible refine CallK.id ?_); refine CallK.fresh (fun ms w hk => without1158 hpo hr (rsz hpo) (rsz hr) w) ?_; conv => whnf))
      rcases b with ⟨wa, wcap⟩
      dsimp only
      refine Run.ex (A := bxH 17 200 193 4 bv (leT r A0).length ((leT r A0).flatMap ptC)) (i := 5) rmG ?_
      rintro ⟨la, lcap⟩
      dsimp only [bxH, layF]
      refine r_loop (α := Nat × Option Addr × Nat) (fun z => [(14, .loc bv 17 0), (16, .loc bq 41 0), (66, .v (.slice wa (OM.without p.r r).length wcap)), (67, .v (.int .i64 ((OM.without p.r r).length : Nat))), (68, .v (.int .i64 (z.1 : Nat)))]) (fun z => [.ext 3 (SlA 193 4 z.2.1 ((leT r A0).length + z.1) z.2.2 ((leT r A0 ++ (wtL r p).take z.1).flatMap ptC)), .blk 17 bv [.v (.slice z.2.1 ((leT r A0).length + z.1) z.2.2)] 200, .ext 41 (SlA 37 2 wa (OM.without p.r r).length wcap (rgCells (OM.without p.r r))), .ext 40 (lrA lp { rc with state := .busy }), .blk 41 bq [.v (.string p.r.lo), .v (.string p.r.hi), .v (.int .i64 p.group), .v (.int .i64 p.epoch)] 193, .blk 13 br [.v (.string r.lo), .v (.string r.hi)] 37, .blk 14 bf [.v (.int .i64 F)] 3, .blk 15 bl [.v (.int .i64 (n : Nat))] 3, .blk 16 be [.v (.int .i64 (max (epT A0) p.epoch))] 3]) (fun z => z.1 ≤ (OM.without p.r r).length) (fun z => (OM.without p.r r).length - z.1) (0, la, lcap) (Nat.zero_le _) suG (by dsimp only; rw [List.take_zero, List.append_nil, Nat.add_zero]; exact seG) ?_
      rintro ⟨j, a2, cap2⟩ hj KL hL
      dsimp only at hj ⊢
      rcases Nat.lt_or_ge j (OM.without p.r r).length with hlt | hlt
      · obtain ⟨s, hs1⟩ : ∃ s, (OM.without p.r r)[j]? = some s := ⟨_, List.getElem?_eq_getElem hlt⟩
        have hsn1 := hsn j s hs1
        repeat' (first
 | with_reducible ((first | refine r_seq (fun KS hS => ?_) | (refine hS _ _ ?_; clear hS KS) | (refine hA _ ?_; clear hA KA) | refine r_block ?_))
 | ((with_reducible (first | refine r_region ?_ | refine r_cond (fun KA hA KB hB => ?_) | refine r_skip ?_ | refine And.intro rfl ?_ | intro b)); conv => whnf)
 | ((with_reducible refine WrapK.i64 ?_ ?_); (focus omega); conv => whnf)
 | ((with_reducible refine OpK.id ?_); (first | refine OpK.idx (k := 2) rfl rfl rfl rfl rfl rfl rfl (Sees.ext atG) (by omega) (by omega) (rg_at hs1) (fun bz off hpc => ?_) | refine OpK.ldp rfl rfl hpc (List.cons_ne_nil _ _) ?_); conv => whnf)
 | ((with_reducible refine OpK.id ?_); refine OpK.app (k := 4) rfl rfl rfl rfl rfl rfl rfl rfl atG (SrcK.slc rfl rfl lmG (Nat.le_refl _) rfl) (big_ok (by omega) (by decide)) (fun a' cap' => ?_); conv => whnf)
 | (refine hL (j + 1, a', cap') _ _ (by show j + 1 ≤ _; omega) (by show (OM.without p.r r).length - (j + 1) < (OM.without p.r r).length - j; omega) suG ?_)
 | (refine if_decT (by omega) ?_; conv => whnf)
 | with_reducible apply_assumption -symm -exfalso)
        dsimp only
        rw [hsn1]
        exact seG
      · obtain rfl := Nat.le_antisymm hj hlt
        repeat' (first
 | with_reducible ((first | refine r_seq (fun KS hS => ?_) | (refine hS _ _ ?_; clear hS KS) | (refine hB _ ?_; clear hB KB)))
 | ((with_reducible (first | refine r_region ?_ | refine r_cond (fun KA hA KB hB => ?_) | refine r_exit ?_)); conv => whnf)
 | (refine if_decF (by omega) ?_; conv => whnf))
        rw [hbe1, hbe2]
        exact ⟨rfl, HSub.trans (HSub.app2 (A' := [.ext 40 _, .blk 13 br [.v (.string r.lo), .v (.string r.hi)] 37, .blk 14 bf [.v (.int .i64 F)] 3, .blk 15 bl [.v (.int .i64 (n : Nat))] 3, .blk 16 be [.v (.int .i64 (max (epT A0) p.epoch))] 3]) (HSub.refl _) (bx_id (i := 3) (j := 17) (a := a2) (cap := cap2))) seG⟩
  · conv => whnf
    refine hS _ _ ?_
    clear hS KS
    have htk : (tcF r 0 l).take ((tcF r 0 l).map ptX).length = tcF r 0 l := List.take_of_length_le (by rw [List.length_map]; exact Nat.le_refl _)
    rw [htk]
    dsimp only [List.cons_append, List.nil_append]
    have hfs := fs_spec r l 0 htc
    have hls := ls_spec r l htc
    have hA0 : 0 ≤ epT (tcF r 0 l) ∧ epT (tcF r 0 l) ≤ 2147483648 := ep_rng _ 0 (by omega) fun y hy => hep _ (tc_mem hy)
    have hle : (leT r (tcF r 0 l)).length ≤ 128 := by
      have h1 := le_len (r := r) (tcF r 0 l)
      have h2 := tc_len (r := r) l 0
      omega
    have hmv := moveP_tc (g := g) htc
    obtain ⟨fi, hfi⟩ : ∃ fi, OM.firstIx r l = fi := ⟨_, rfl⟩
    obtain ⟨li, hli⟩ : ∃ li, OM.lastIx r l = li := ⟨_, rfl⟩
    have hfl : fi < l.length := by
      rw [← hfi]; unfold OM.firstIx
      rw [List.findIdx_lt_length]
      obtain ⟨p, hp, hp2⟩ := htc
      exact ⟨p, hp, hp2⟩
    have hll : li < l.length := by
      rw [← hli]; unfold OM.lastIx; omega
    rw [hfi, Nat.zero_add] at hfs
    rw [hli] at hls
    rw [hfs, hls] at hmv
    rw [hfs, hls]
    obtain ⟨ep, hep2⟩ : ∃ ep, epT (tcF r 0 l) = ep := ⟨_, rfl⟩
    rw [hep2] at hA0 hmv ⊢
    obtain ⟨L, hLe⟩ : ∃ L, leT r (tcF r 0 l) = L := ⟨_, rfl⟩
    rw [hLe] at hle hmv ⊢
    refine Run.weaken (E' := [(0, .loc t 0 0), (2, .v (.int .i64 g)), (4, .loc br 13 0), (11, .loc bf 14 0), (12, .loc bl 15 0), (13, .loc be 16 0), (14, .loc bv 17 0)]) (H' := [.blk 13 br [.v (.string r.lo), .v (.string r.hi)] 37, .blk 14 bf [.v (.int .i64 (fi : Nat))] 3, .blk 15 bl [.v (.int .i64 (li : Nat))] 3, .blk 16 be [.v (.int .i64 ep)] 3, .ext 5 (BxE 17 200 193 4 bv L.length (L.flatMap ptC)), .ext 12 (PtsA t l)]) ?_ suG seG
    refine Run.ex (A := bxH 17 200 193 4 bv L.length (L.flatMap ptC)) (i := 5) rmG ?_
    rintro ⟨la, lcap⟩
    dsimp only [bxH, layF]
    refine Run.ex (A := ptsH t l) (i := 12) rmG ?_
    rintro ⟨a, cap⟩
    dsimp only [ptsH, layF]
    refine r_seq (fun KS hS => ?_)
    refine r_region ?_
    conv => whnf
    refine hS _ _ ?_
    clear hS KS
    obtain ⟨kk, hkk⟩ : ∃ kk, OM.leftN r L = kk := ⟨_, rfl⟩
    have hcase : (L.length = 0 ∧ kk = 0) ∨ ∃ x, L[0]? = some x ∧ ((x.r.hi = r.lo ∧ r.lo ≠ ⟨#[]⟩ ∧ kk = 1) ∨ (¬ x.r.hi = r.lo ∧ kk = 0) ∨ (x.r.hi = r.lo ∧ r.lo = ⟨#[]⟩ ∧ kk = 0)) := by
      cases L with
      | nil => exact .inl ⟨rfl, hkk.symm⟩
      | cons x L =>
        refine .inr ⟨x, rfl, ?_⟩
        simp only [OM.leftN, OM.eqS] at hkk
        by_cases c1 : x.r.hi = r.lo
        · by_cases c2 : r.lo = OM.eps
          · simp [c1, c2] at hkk
            exact .inr (.inr ⟨c1, c2, hkk.symm⟩)
          · simp [c1, c2] at hkk
            exact .inl ⟨c1, c2, hkk.symm⟩
        · simp [c1] at hkk
          exact .inr (.inl ⟨c1, hkk.symm⟩)
    have hkL : kk ≤ L.length ∧ kk ≤ 1 := by
      rcases hcase with ⟨h1, h2⟩ | ⟨x, hx, hc⟩
      · omega
      · have : 0 < L.length := (List.getElem?_eq_some_iff.1 hx).1
        rcases hc with ⟨_, _, h⟩ | ⟨_, h⟩ | ⟨_, _, h⟩ <;> omega
    refine r_cut (α := Unit) (fun _ => [(21, .v (.int .i64 (kk : Nat))), (0, .loc t 0 0), (2, .v (.int .i64 g)), (4, .loc br 13 0), (11, .loc bf 14 0), (12, .loc bl 15 0), (13, .loc be 16 0), (14, .loc bv 17 0)]) (fun _ => [.blk 0 t [.v (.slice a l.length cap)] 202, .ext 1 (SlA 193 4 a l.length cap (l.flatMap ptC)), .ext 3 (SlA 193 4 la L.length lcap (L.flatMap ptC)), .blk 17 bv [.v (.slice la L.length lcap)] 200, .blk 13 br [.v (.string r.lo), .v (.string r.hi)] 37, .blk 14 bf [.v (.int .i64 (fi : Nat))] 3, .blk 15 bl [.v (.int .i64 (li : Nat))] 3, .blk 16 be [.v (.int .i64 ep)] 3]) (fun _ => True) ?_ ?_
    · intro KC hC
      rcases hcase with ⟨h1, rfl⟩ | ⟨x, hx, hc⟩
      · repeat' (first
 | with_reducible ((first | refine r_seq (fun KS hS => ?_) | (refine hS _ _ ?_; clear hS KS) | (refine hB _ ?_; clear hB KB)))
 | ((with_reducible (first | refine r_cond (fun KA hA KB hB => ?_) | refine r_skip ?_ | refine And.intro rfl ?_)); conv => whnf)
 | (refine hC () _ _ trivial suG seG)
 | (apply r_quiet; refine mixed; kernel_rfl; kernel_rfl; kernel_rfl; conv => whnf)
 | (refine if_decF (by omega) ?_; conv => whnf))
      · have hpos : 0 < L.length := (List.getElem?_eq_some_iff.1 hx).1
        have hxat := pt_at hx
        rcases hc with ⟨c1, c2, rfl⟩ | ⟨c1, rfl⟩ | ⟨c1, c2, rfl⟩
        · repeat' (first
 | with_reducible ((first | refine r_seq (fun KS hS => ?_) | (refine hS _ _ ?_; clear hS KS) | (refine hA _ ?_; clear hA KA)))
 | ((with_reducible (first | refine r_region ?_ | refine r_cond (fun KA hA KB hB => ?_) | refine And.intro rfl ?_)); conv => whnf)
 | ((with_reducible refine QK.id ?_); refine QK.idx (k := 4) rfl rfl rfl rfl rfl rfl rfl (Sees.ext atG) (by omega) (by omega) hxat (fun bz off hpc => ?_); conv => whnf)
 | ((with_reducible refine IK.id ?_); refine IK.fap rfl rfl ?_; conv => whnf)
 | ((with_reducible refine QK.id ?_); refine QK.ldp rfl rfl (PC.field _ (by assumption)) ?_ ?_; exact List.cons_ne_nil _ _; conv => whnf)
 | (refine hC () _ _ trivial suG seG)
 | (apply r_quiet; refine mixed; kernel_rfl; kernel_rfl; kernel_rfl; conv => whnf)
 | ((first | refine if_decT (by omega) ?_ | refine if_ndecT (by omega) ?_); conv => whnf))
        · repeat' (first
 | with_reducible ((first | refine r_seq (fun KS hS => ?_) | (refine hS _ _ ?_; clear hS KS) | (refine hB _ ?_; clear hB KB)))
 | ((with_reducible (first | refine r_cond (fun KA hA KB hB => ?_) | refine r_skip ?_ | refine And.intro rfl ?_)); conv => whnf)
 | ((with_reducible refine QK.id ?_); refine QK.idx (k := 4) rfl rfl rfl rfl rfl rfl rfl (Sees.ext atG) (by omega) (by omega) hxat (fun bz off hpc => ?_); conv => whnf)
 | ((with_reducible refine IK.id ?_); refine IK.fap rfl rfl ?_; conv => whnf)
 | ((with_reducible refine QK.id ?_); refine QK.ldp rfl rfl (PC.field _ (by assumption)) ?_ ?_; exact List.cons_ne_nil _ _; conv => whnf)
 | (refine hC () _ _ trivial suG seG)
 | (apply r_quiet; refine mixed; kernel_rfl; kernel_rfl; kernel_rfl; conv => whnf)
 | ((first | refine if_decT (by omega) ?_ | refine if_decF (by omega) ?_); conv => whnf))
        · repeat' (first
 | with_reducible ((first | refine r_seq (fun KS hS => ?_) | (refine hS _ _ ?_; clear hS KS) | (refine hB _ ?_; clear hB KB)))
 | ((with_reducible (first | refine r_cond (fun KA hA KB hB => ?_) | refine r_skip ?_ | refine And.intro rfl ?_)); conv => whnf)
 | ((with_reducible refine QK.id ?_); refine QK.idx (k := 4) rfl rfl rfl rfl rfl rfl rfl (Sees.ext atG) (by omega) (by omega) hxat (fun bz off hpc => ?_); conv => whnf)
 | ((with_reducible refine IK.id ?_); refine IK.fap rfl rfl ?_; conv => whnf)
 | ((with_reducible refine QK.id ?_); refine QK.ldp rfl rfl (PC.field _ (by assumption)) ?_ ?_; exact List.cons_ne_nil _ _; conv => whnf)
 | (refine hC () _ _ trivial suG seG)
 | (apply r_quiet; refine mixed; kernel_rfl; kernel_rfl; kernel_rfl; conv => whnf)
 | ((first | refine if_decT (by omega) ?_ | refine if_ndecF (by omega) ?_); conv => whnf))
    rintro - -
    repeat' (first
 | with_reducible refine r_stop 26 ?_
 | with_reducible ((first | refine r_seq (fun KS hS => ?_) | (refine hS _ _ ?_; clear hS KS)))
 | ((with_reducible (first | refine r_region ?_ | refine And.intro rfl ?_)); conv => whnf)
 | ((with_reducible refine WrapK.i64 ?_ ?_); (focus omega); conv => whnf)
 | ((with_reducible refine OpK.id ?_); refine OpK.minI rfl rfl rfl ?_; conv => whnf))
    refine StopR.mk ?_
    obtain ⟨eq, heq⟩ : ∃ eq, min (ep + 1) 2147483648 = eq := ⟨_, rfl⟩
    rw [heq] at hmv ⊢
    refine r_seq (fun KS hS => ?_)
    refine r_par (β := Nat) (id := 26) [nq 0 [] (.loc t 0 0), nq 1 [0] (.loc t 0 0), nq 2 [1] (.loc t 0 0), nq 3 [2] (.v (.slice a l.length cap)), nq 4 [] (.v (.int .i64 (fi : Nat))), nq 5 [3, 4] (.v (.slice a fi cap)), nq 6 [] (.v (.slice la L.length lcap)), nq 7 [] (.v (.int .i64 (kk : Nat))), nq 8 [6, 7] (.v (.slice la kk lcap)), nq 9 [] (.agg [.v (.string r.lo), .v (.string r.hi)]), nq 10 [] (.v (.int .i64 g)), nq 11 [] (.v (.int .i64 eq)), nq 12 [9, 10, 11] (.agg [.v (.string r.lo), .v (.string r.hi), .v (.int .i64 g), .v (.int .i64 eq)]), ⟨13, [12], none, fun _ q => .slc q 90 0 1 1, fun _ q => [.blk 90 q [.v (.string r.lo), .v (.string r.hi), .v (.int .i64 g), .v (.int .i64 eq)] 193]⟩, nq 14 [] (.v (.slice la L.length lcap)), nq 15 [] (.v (.int .i64 (kk : Nat))), nq 16 [14, 15] (.v (.slice (if lcap = kk then la else la.map (·.add (kk * 4))) (L.length - kk) (lcap - kk))), nq 17 [] (.loc t 0 0), nq 18 [17] (.loc t 0 0), nq 19 [18] (.loc t 0 0), nq 20 [19] (.v (.slice a l.length cap)), nq 21 [] (.v (.int .i64 (li : Nat))), nq 22 [21] (.v (.int .i64 ((li + 1 : Nat) : Int))), nq 23 [20, 22] (.v (.slice (if cap = li + 1 then a else a.map (·.add ((li + 1) * 4))) (l.length - (li + 1)) (cap - (li + 1))))] [] 3 _ mixed (by kernel_rfl) (by kernel_rfl) (HSub.refl _) ?_ ?_
    · conv => whnf
      repeat' (first | ((with_reducible refine And.intro ?_ ?_); all_goals (conv => whnf)) | ((with_reducible intro zz AA KP hP); conv => whnf))
      repeat' (first
 | ((with_reducible intro b); conv => whnf)
 | ((with_reducible refine WrapK.i64 ?_ ?_); (focus omega); conv => whnf)
 | ((with_reducible refine OpK.id ?_); (first | refine OpK.slP (k := 4) rfl rfl rfl rfl rfl rfl atG (by omega) ?_ | refine OpK.slT (k := 4) rfl rfl rfl rfl rfl rfl rfl atG (by omega) ?_); conv => whnf)
 | ((with_reducible apply hP); all_goals (first | exact (0 : Nat) | ((repeat' (first | exact SubD.nil | (refine SubD.cons rfl rfl ?_))); done) | exact seZ)))
    conv => whnf
    intro zz
    conv => whnf
    try dsimp only
    obtain ⟨M, hMe⟩ : ∃ M, OM.moveP l r g = M := ⟨_, rfl⟩
    rw [hMe] at hmv hlen ⊢
    rw [hkk, Int.toNat_natCast, Int.toNat_natCast] at hmv
    repeat' (first
 | with_reducible ((first | refine r_seq (fun KS hS => ?_) | (refine hS _ _ ?_; clear hS KS) | (refine hB _ ?_; clear hB KB)))
 | ((with_reducible (first | refine r_region ?_ | refine r_cond (fun KA hA KB hB => ?_) | refine r_ret ?_ | refine r_skip ?_ | refine And.intro rfl ?_ | intro b)); conv => whnf)
 | ((with_reducible refine CallK.id ?_); refine CallK.fresh (fun ms w hk => cat51159 hmv.symm hl hle hfl hll hkL.1 hlen (RdS.ofGot (n := 5) (k := 1) (hk.got lmG) rfl) (RdS.ofGot (n := 1) (k := 4) (hk.got (i := 90) (b := zz 13) (t := 193) (cs := [.v (.string r.lo), .v (.string r.hi), .v (.int .i64 g), .v (.int .i64 eq)]) lmG) rfl) (Sees.rd (Sees.ext atG) hk) (Sees.rd (Sees.ext atG) hk)) ?_; conv => whnf)
 | ((with_reducible ((first | refine InAt.mk (fun K' hK => ?_) | refine AnyAt.mk (fun K' hK => ?_) | (refine hK _ ?_; clear hK K') | (refine hK _ _ ?_; clear hK K')))); conv => whnf)
 | (refine if_decF (by omega) ?_; conv => whnf)
 | with_reducible apply_assumption -symm -exfalso)
    rw [hMe]
    exact FinK.frL rfl (HSub.trans (pts_id (i := 0) (j := 1) (t := t) (l := M) (a := b.1) (cap := b.2) rfl) seG)
def orH (d : Nat) (s : OM.St) (z : Nat × Nat × Nat) : List Blk := [.blk 0 d [.v (.int .i64 s.groups), .v (.int .i64 s.done), .loc z.1 20 0, .loc z.2.1 21 0, .loc z.2.2 22 0] 121, .ext 1 (TabA z.1 s.sagas), .ext 2 (MvsA z.2.1 s.moves), .ext 3 (PtsA z.2.2 s.parts)]
abbrev OrchA (d : Nat) (s : OM.St) : Ass := exA (orH d s)
theorem or_id {d t1 t2 t3 : Nat} {s : OM.St} {i j k l q : Nat} : HSub [.ext q (OrchA d s)] [.blk i d [.v (.int .i64 s.groups), .v (.int .i64 s.done), .loc t1 20 0, .loc t2 21 0, .loc t3 22 0] 121, .ext j (TabA t1 s.sagas), .ext k (MvsA t2 s.moves), .ext l (PtsA t3 s.parts)] :=
  HSub.trans (exA.close (A := orH d s) (t1, t2, t3)) (HSub.keep rfl (HSub.ext (fun _ _ h => h) (HSub.ext (fun _ _ h => h) (HSub.ext (fun _ _ h => h) HSub.nil))))
abbrev itV (x : OM.Item) : List SV := [.v (.int .i64 x.eff.saga), .v (.int .i64 x.eff.step), .v (.int .i64 x.eff.phase), .v (.int .i64 x.move), .v (.bool x.in_), .v (.int .i64 x.group)]
abbrev itC (x : OM.Item) : List Value := [.int .i64 x.eff.saga, .int .i64 x.eff.step, .int .i64 x.eff.phase, .int .i64 x.move, .bool x.in_, .int .i64 x.group]
abbrev cmV (c : OM.Cmd) (a : Option Addr) (n cap : Nat) : List SV := [.v (.int .i64 c.kind), .v (.int .i64 c.call), .v (.int .i64 c.saga), .v (.int .i64 c.eff.saga), .v (.int .i64 c.eff.step), .v (.int .i64 c.eff.phase), .v (.string c.key), .v (.int .i64 c.delta), .v (.int .i64 c.move), .v (.string c.r.lo), .v (.string c.r.hi), .v (.int .i64 c.group), .v (.string c.d.name), .v (.int .i64 c.d.retries), .v (.int .i64 c.d.deadline), .v (.slice a n cap), .v (.int .i64 c.item.eff.saga), .v (.int .i64 c.item.eff.step), .v (.int .i64 c.item.eff.phase), .v (.int .i64 c.item.move), .v (.bool c.item.in_), .v (.int .i64 c.item.group), .v (.int .i64 c.res), .v (.string c.data)]
abbrev wtX (x : OM.Item × OM.Cmd) : List SV := [.agg (itV x.1), .agg (cmV x.2 Option.none 0 0)]
theorem LOk.ofInv {o : OM.St} (h : OM.Inv o) : LOk o.sagas := ⟨h.srt, h.slen, fun x hx => (h.sok x hx).2.2, fun x hx => ⟨(h.sok x hx).1, (h.sok x hx).2.1⟩⟩
theorem inv_mok {o : OM.St} (h : OM.Inv o) : ∀ m ∈ o.moves, m.r.ok = true := fun m hm => OM.ok_iff.2 (h.mok m hm).1
theorem inv_pok {o : OM.St} (h : OM.Inv o) : ∀ p ∈ o.parts, p.r.ok = true := fun p hp => OM.ok_iff.2 (h.cov.1.ok p hp)
def effE (o : OM.St) (e : OM.Eff) : Option (OM.Item × OM.Cmd) := match getL o.sagas e.saga with
  | none => none
  | some s => if o.busy s.stepAt.key then none else some (⟨e, 0, false, o.route s.stepAt.key⟩, { OM.zCmd with kind := 1, eff := e, key := s.stepAt.key, delta := s.stepAt.delta })
theorem fm_congr {α β : Type} {f g : α → Option β} : ∀ {l : List α}, (∀ x ∈ l, f x = g x) → l.filterMap f = l.filterMap g
  | [], _ => rfl
  | x :: l, h => by rw [List.filterMap_cons, List.filterMap_cons, h x (by simp), fm_congr fun y hy => h y (by simp [hy])]
theorem effs_nx {o : OM.St} (h : LOk o.sagas) : o.effs = (nxE o.sagas).filterMap (effE o) := by
  unfold OM.St.effs nxE
  rw [List.filterMap_filterMap]
  refine fm_congr fun x hx => ?_
  unfold OM.St.effOf
  have hg := getL_of_mem h.srt hx
  cases hn : x.2.next x.1 with
  | none => rfl
  | some e =>
    have he : e.saga = x.1 := by
      unfold OM.Sg.next at hn
      split at hn
      · have := Option.some.inj hn; rw [← this]
      · cases hn
    simp only [Option.bind_some, effE, he, hg]
theorem step_int {L : List OM.Stp} {z : Int} {s : OM.Stp} (h : L[z.toNat]? = some s) : ((stepCells L).drop (z.toNat * 2)).take 2 = denL (stc s) := step_flat L z.toNat s h
theorem step1092 {d : Nat} {o : OM.St} {sg : OM.Sg} {e : OM.Eff} (hL : LOk o.sagas) (hg : getL o.sagas e.saga = some sg) (ho : sg.st < 4) (he : e.step = sg.at_) (w : World) :
    Fr Tryz.prog 92 #[pv d, .agg #[.int .i64 e.saga, .int .i64 e.step, .int .i64 e.phase]] w (AssL [.ext 12 (OrchA d o)]) (.agg #[.string sg.stepAt.key, .int .i64 sg.stepAt.delta]) (AssL [.ext 12 (OrchA d o)]) := by
  have hmem := getL_mem hg
  have hok : OM.SOk sg := hL.ok _ hmem
  have hid : 1 ≤ e.saga ∧ e.saga ≤ 9999 := hL.id _ hmem
  have h0 := hok.at0
  have h1 := hok.at1 ho
  have hd := OM.Dfn.steps_pos hok.d
  have hst : sg.d.steps[sg.at_.toNat]? = some sg.stepAt := by
    unfold OM.Sg.stepAt
    rw [List.getElem?_eq_getElem (by omega)]; rfl
  obtain ⟨es, et, ep⟩ := e
  dsimp only at he hg hid
  subst he
  refine enter_fr TBok (H := [.ext 12 (OrchA d o)]) all_foot Tryz.func92 rfl rfl Tryz.ntmps92 [.loc d 0 0, .agg [.v (.int .i64 es), .v (.int .i64 sg.at_), .v (.int .i64 ep)]] rfl rfl ?_
  intro S
  conv => whnf
  refine Run.ex (A := orH d o) (i := 12) .head ?_
  rintro ⟨t1, t2, t3⟩
  dsimp only [orH, layF]
  repeat' (first
 | with_reducible ((first | refine r_seq (fun KS hS => ?_) | (refine hS _ _ ?_; clear hS KS)))
 | ((with_reducible (first | refine r_region ?_ | refine r_ret ?_ | refine And.intro rfl ?_ | intro b)); conv => whnf)
 | (apply r_any (id := 1); refine mixed; kernel_rfl; kernel_rfl; conv => whnf)
 | ((with_reducible refine CallK.id ?_); refine CallK.s1 rmG (fun ms w hk => get1056 hg hok (zok_id hid) w) ?_; conv => whnf)
 | ((with_reducible refine OpK.id ?_); (first | refine OpK.idx (k := 2) rfl rfl rfl rfl rfl rfl rfl (Sees.ext atG) (by omega) (by omega) (step_int hst) (fun bq off hpc => ?_) | refine OpK.ldp rfl rfl hpc (List.cons_ne_nil _ _) ?_); conv => whnf)
 | ((with_reducible ((first | refine InAt.mk (fun K' hK => ?_) | refine AnyAt.mk (fun K' hK => ?_) | (refine hK _ ?_; clear hK K') | (refine hK _ _ ?_; clear hK K')))); conv => whnf)
 | (refine And.intro ?_ ?_; all_goals (conv => whnf)))
  all_goals exact FinK.frL rfl (HSub.trans (or_id (i := 0) (j := 1) (k := 2) (l := 3) (d := d) (s := o) (t1 := t1) (t2 := t2) (t3 := t3)) seG)
abbrev mvW (x : Int × OM.Mv) : OM.Item × OM.Cmd := OM.mvItem x.1 x.2
theorem fm_step {α β : Type} {f : α → Option β} {l : List α} {i : Nat} {x : α} (h : l[i]? = some x) : (l.drop i).filterMap f = match f x with | none => (l.drop (i + 1)).filterMap f | some y => y :: (l.drop (i + 1)).filterMap f := by
  have hi : i < l.length := (List.getElem?_eq_some_iff.1 h).1
  have hm : l[i] = x := (List.getElem?_eq_some_iff.1 h).2
  rw [List.drop_eq_getElem_cons hi, hm, List.filterMap_cons]
  cases f x <;> rfl
theorem ef_at {L : List OM.Eff} {i : Nat} {e : OM.Eff} (h : L[i]? = some e) : ((L.flatMap efC).drop ((i : Int).toNat * 3)).take 3 = denL (efV e) := flat_at efC_len h
theorem part_get {o : OM.St} (h : OM.Inv o) {key : ByteArray} (hk : OM.nmOk key = true) : ∃ p, o.parts.find? (fun p => p.r.has key) = some p ∧ o.route key = p.group := by
  obtain ⟨p, h1, _⟩ := OM.part_spec h.cov hk
  exact ⟨p, h1, by unfold OM.St.route; rw [h1]⟩
theorem nxE_mem {L : SL} (hL : LOk L) {e : OM.Eff} (h : e ∈ nxE L) : ∃ sg, getL L e.saga = some sg ∧ sg.st < 4 ∧ e.step = sg.at_ ∧ e.phase = OM.phaseOf sg.st := by
  obtain ⟨x, hx, hn⟩ := List.mem_filterMap.1 h
  have hg := getL_of_mem hL.srt hx
  unfold OM.Sg.next at hn
  split at hn
  · rename_i ho
    obtain rfl := Option.some.inj hn
    unfold OM.Sg.open_ at ho
    exact ⟨x.2, hg, by simpa using ho, rfl, rfl⟩
  · cases hn
theorem stepAt_ok {sg : OM.Sg} (h : OM.SOk sg) (ho : sg.st < 4) : OM.nmOk sg.stepAt.key = true ∧ -1152921504606846976 ≤ sg.stepAt.delta ∧ sg.stepAt.delta ≤ 1152921504606846976 := by
  have h0 := h.at0
  have h1 := h.at1 ho
  have hst : sg.d.steps[sg.at_.toNat]? = some sg.stepAt := by
    unfold OM.Sg.stepAt
    rw [List.getElem?_eq_getElem (by omega)]; rfl
  obtain ⟨_, q2, _, q4, q5⟩ := stepsOk_at (OM.Dfn.steps_pos h.d).2.2.2.2.2.2.2 hst
  exact ⟨q2, q4, q5⟩
theorem oi_at {l : List OM.Mv} {i : Nat} {x : Int × OM.Mv} (h : (OM.openF 1 l)[i]? = some x) : ((opI l).drop ((i : Int).toNat * 1)).take 1 = denL [.v (.int .i64 x.1)] := by
  rw [show opI l = (OM.openF 1 l).flatMap fun x => [Value.int .i64 x.1] from List.map_eq_flatMap ..]
  exact flat_at (g := fun x : Int × OM.Mv => [Value.int .i64 x.1]) (fun _ => rfl) h
theorem wanted1090 {d bx : Nat} {o : OM.St} {o0 o1 : Obj} (hko : KObj o0 o1) (hI : OM.Inv o) : ItX Tryz.prog 90 (denL [.loc bx 11 0]) [.blk 11 bx [.loc d 0 0] 23, .ext 12 (OrchA d o), .ext 9 (GlA o0 o1)] [.blk 11 bx [.loc d 0 0] 23, .ext 12 (OrchA d o), .ext 9 (GlA o0 o1)] ((o.wanted.map wtX).map denL) := by
  have hL := LOk.ofInv hI
  have hmo := inv_mok hI
  have hpo := inv_pok hI
  have hml := hI.mlen
  have hpl : o.parts.length ≤ 64 := by have := hI.room; omega
  have hwant : o.wanted = (nxE o.sagas).filterMap (effE o) ++ (OM.openF 1 o.moves).map mvW := by
    unfold OM.St.wanted
    rw [effs_nx hL]; rfl
  have hnl := nxE_len hL.len
  intro stop J yv hy w
  refine enter_fr TBok (H := .ext 0 (J 0) :: [.blk 11 bx [.loc d 0 0] 23, .ext 12 (OrchA d o), .ext 9 (GlA o0 o1)]) all_foot Tryz.func90 rfl rfl Tryz.ntmps90 [.v yv, .loc bx 11 0] rfl rfl ?_
  intro S
  conv => whnf
  refine Run.ex (A := orH d o) (i := 12) rmG ?_
  rintro ⟨t1, t2, t3⟩
  dsimp only [orH, layF]
  repeat' (first
 | with_reducible ((first | refine r_seq (fun KS hS => ?_) | (refine hS _ _ ?_; clear hS KS) | refine r_block ?_))
 | ((with_reducible (first | refine r_region ?_ | refine And.intro rfl ?_ | intro b)); conv => whnf)
 | ((with_reducible refine CallK.id ?_); refine CallK.s2 rmG rmG (fun ms w hk => tnext1091 hko hL w) ?_; conv => whnf))
  rcases b with ⟨a, cap⟩
  dsimp only
  refine r_loop (α := Nat × Nat) (fun z => [(0, .v yv), (1, .loc bx 11 0), (18, .v (.slice a (nxE o.sagas).length cap)), (19, .v (.int .i64 ((nxE o.sagas).length : Nat))), (20, .v (.int .i64 (z.1 : Nat)))]) (fun z => [.ext 12 (OrchA d o), .ext 9 (GlA o0 o1), .ext 1 (SlA 29 3 a (nxE o.sagas).length cap ((nxE o.sagas).flatMap efC)), .ext 0 (J z.2), .blk 11 bx [.loc d 0 0] 23]) (fun z => z.1 ≤ (nxE o.sagas).length ∧ z.2 ≤ stop ∧ z.2 ≤ o.wanted.length ∧ o.wanted.drop z.2 = ((nxE o.sagas).drop z.1).filterMap (effE o) ++ (OM.openF 1 o.moves).map mvW) (fun z => (nxE o.sagas).length - z.1) (0, 0) ⟨Nat.zero_le _, Nat.zero_le _, Nat.zero_le _, hwant⟩ suG (HSub.trans (HSub.app2 (A' := [.ext 12 (OrchA d o)]) (or_id (i := 0) (j := 1) (k := 2) (l := 3) (d := d) (s := o) (t1 := t1) (t2 := t2) (t3 := t3)) (HSub.refl [.ext 9 (GlA o0 o1), .ext 1 (SlA 29 3 a (nxE o.sagas).length cap ((nxE o.sagas).flatMap efC)), .ext 0 (J 0), .blk 11 bx [.loc d 0 0] 23])) seG) ?_
  rintro ⟨i, k⟩ ⟨hi, hks, hkL, hdr⟩ KL hL2
  dsimp only at hi hks hkL hdr ⊢
  by_cases hlt : i < (nxE o.sagas).length
  · obtain ⟨e, he⟩ : ∃ e, (nxE o.sagas)[i]? = some e := ⟨_, List.getElem?_eq_getElem hlt⟩
    obtain ⟨sg, hg, ho, hes, hep⟩ := nxE_mem hL (List.mem_of_getElem? he)
    have hsok : OM.SOk sg := hL.ok _ (getL_mem hg)
    obtain ⟨hkey, hdl⟩ := stepAt_ok hsok ho
    have hksz := sz_nm hkey
    obtain ⟨pt, hpt, hrt⟩ := part_get hI hkey
    have hbusy1093 := fun t w => busy1093 (t := t) (l := o.moves) (key := sg.stepAt.key) hml hmo (by omega) w
    have hstp1092 := fun w => step1092 (d := d) (o := o) (e := e) hL hg ho hes w
    have hgrp1057 := fun t w => group1057 (t := t) hkey hpo hpt (by omega) w
    rw [fm_step he] at hdr
    have hef : effE o e = if o.busy sg.stepAt.key then none else some (⟨e, 0, false, o.route sg.stepAt.key⟩, { OM.zCmd with kind := 1, eff := e, key := sg.stepAt.key, delta := sg.stepAt.delta }) := by unfold effE; rw [hg]
    have hbq : ((OM.openF 1 o.moves).any fun x => x.2.r.has sg.stepAt.key) = o.busy sg.stepAt.key := rfl
    cases hb : o.busy sg.stepAt.key
    · rw [hb, if_neg (by simp)] at hef
      rw [hef] at hdr
      rw [hbq, hb] at hbusy1093
      obtain ⟨hx, hd2⟩ := drop_cons hdr
      have hxk : ((o.wanted.map wtX).map denL)[k]? = some (denL (wtX (⟨e, 0, false, o.route sg.stepAt.key⟩, { OM.zCmd with kind := 1, eff := e, key := sg.stepAt.key, delta := sg.stepAt.delta }))) := by
        rw [List.getElem?_map, List.getElem?_map, hx]; rfl
      have hyk := hy k _ hxk hks
      rw [hrt] at hyk
      have hkl : k < o.wanted.length := (List.getElem?_eq_some_iff.1 hx).1
      by_cases hlt2 : k < stop
      · rw [decide_eq_true hlt2] at hyk
        repeat' (first
 | with_reducible refine r_stop 4 ?_
 | with_reducible ((first | refine r_seq (fun KS hS => ?_) | (refine hS _ _ ?_; clear hS KS) | (refine hA _ ?_; clear hA KA) | refine r_block ?_))
 | ((with_reducible (first | refine r_region ?_ | refine r_cond (fun KA hA KB hB => ?_) | refine r_skip ?_ | refine And.intro rfl ?_ | intro b)); conv => whnf)
 | ((with_reducible refine OpK.id ?_); (first | refine OpK.idx (k := 3) rfl rfl rfl rfl rfl rfl rfl (Sees.ext atG) (by omega) (by omega) (ef_at he) (fun bq off hpc => ?_) | refine OpK.ldp rfl rfl hpc (List.cons_ne_nil _ _) ?_); conv => whnf)
 | ((with_reducible refine CallK.id ?_); refine CallK.s1V rmG (fun ms w hk => hstp1092 w) ?_; conv => whnf)
 | (refine if_decT (by omega) ?_; conv => whnf)
 | with_reducible apply_assumption -symm -exfalso)
        refine StopR.mk ?_
        refine Run.ex (A := orH d o) (i := 12) rmG ?_
        rintro ⟨u1, u2, u3⟩
        dsimp only [orH, layF]
        repeat' (first
 | with_reducible ((first | refine r_seq (fun KS hS => ?_) | (refine hS _ _ ?_; clear hS KS) | (refine hB _ ?_; clear hB KB)))
 | ((with_reducible (first | refine r_region ?_ | refine r_cond (fun KA hA KB hB => ?_) | refine r_skip ?_ | refine And.intro rfl ?_)); conv => whnf)
 | ((with_reducible refine WrapK.i64 ?_ ?_); (focus omega); conv => whnf)
 | (apply r_any (id := 4); refine mixed; kernel_rfl; kernel_rfl; conv => whnf)
 | (apply r_any (id := 5); refine mixed; kernel_rfl; kernel_rfl; conv => whnf)
 | ((with_reducible refine CallK.id ?_); (first | refine CallK.s1V rmG (fun ms w hk => hbusy1093 _ w) ?_ | refine CallK.s1V rmG (fun ms w hk => hgrp1057 _ w) ?_); conv => whnf)
 | ((with_reducible refine CallV.id ?_); refine CallV.yb (b := true) atG hyk ?_; conv => whnf)
 | (refine hL2 (i + 1, k + 1) _ _ ⟨by show i + 1 ≤ _; omega, hlt2, hkl, hd2⟩ (by show (nxE o.sagas).length - (i + 1) < (nxE o.sagas).length - i; omega) suG ?_)
 | ((with_reducible ((first | refine InAt.mk (fun K' hK => ?_) | refine AnyAt.mk (fun K' hK => ?_) | (refine hK _ ?_; clear hK K') | (refine hK _ _ ?_; clear hK K')))); conv => whnf)
 | (refine And.intro ?_ ?_; all_goals (conv => whnf))
 | with_reducible apply_assumption -symm -exfalso)
        all_goals exact HSub.trans (HSub.app2 (A' := [.ext 12 (OrchA d o)]) (or_id (i := 0) (j := 1) (k := 2) (l := 3) (d := d) (s := o) (t1 := u1) (t2 := u2) (t3 := u3)) (HSub.refl [.ext 9 (GlA o0 o1), .ext 1 (SlA 29 3 a (nxE o.sagas).length cap ((nxE o.sagas).flatMap efC)), .ext 0 (J (k + 1)), .blk 11 bx [.loc d 0 0] 23])) seG
      · rw [decide_eq_false hlt2] at hyk
        have hmin : min (stop + 1) ((o.wanted.map wtX).map denL).length = k + 1 := by rw [List.length_map, List.length_map]; omega
        rw [hmin]
        repeat' (first
 | with_reducible refine r_stop 4 ?_
 | with_reducible ((first | refine r_seq (fun KS hS => ?_) | (refine hS _ _ ?_; clear hS KS) | (refine hA _ ?_; clear hA KA) | refine r_block ?_))
 | ((with_reducible (first | refine r_region ?_ | refine r_cond (fun KA hA KB hB => ?_) | refine r_skip ?_ | refine And.intro rfl ?_ | intro b)); conv => whnf)
 | ((with_reducible refine OpK.id ?_); (first | refine OpK.idx (k := 3) rfl rfl rfl rfl rfl rfl rfl (Sees.ext atG) (by omega) (by omega) (ef_at he) (fun bq off hpc => ?_) | refine OpK.ldp rfl rfl hpc (List.cons_ne_nil _ _) ?_); conv => whnf)
 | ((with_reducible refine CallK.id ?_); refine CallK.s1V rmG (fun ms w hk => hstp1092 w) ?_; conv => whnf)
 | (refine if_decT (by omega) ?_; conv => whnf)
 | with_reducible apply_assumption -symm -exfalso)
        refine StopR.mk ?_
        refine Run.ex (A := orH d o) (i := 12) rmG ?_
        rintro ⟨u1, u2, u3⟩
        dsimp only [orH, layF]
        repeat' (first
 | with_reducible ((first | refine r_seq (fun KS hS => ?_) | (refine hS _ _ ?_; clear hS KS) | (refine hA _ ?_; clear hA KA) | (refine hB _ ?_; clear hB KB)))
 | ((with_reducible (first | refine r_region ?_ | refine r_cond (fun KA hA KB hB => ?_) | refine r_ret ?_ | refine r_skip ?_ | refine And.intro rfl ?_)); conv => whnf)
 | (apply r_any (id := 4); refine mixed; kernel_rfl; kernel_rfl; conv => whnf)
 | (apply r_any (id := 5); refine mixed; kernel_rfl; kernel_rfl; conv => whnf)
 | ((with_reducible refine CallK.id ?_); (first | refine CallK.s1V rmG (fun ms w hk => hbusy1093 _ w) ?_ | refine CallK.s1V rmG (fun ms w hk => hgrp1057 _ w) ?_); conv => whnf)
 | ((with_reducible refine CallV.id ?_); refine CallV.yb (b := false) atG hyk ?_; conv => whnf)
 | ((with_reducible ((first | refine InAt.mk (fun K' hK => ?_) | refine AnyAt.mk (fun K' hK => ?_) | (refine hK _ ?_; clear hK K') | (refine hK _ _ ?_; clear hK K')))); conv => whnf)
 | (refine And.intro ?_ ?_; all_goals (conv => whnf))
 | with_reducible apply_assumption -symm -exfalso)
        all_goals exact FinK.frL rfl (HSub.trans (HSub.app2 (A' := [.ext 0 (J (k + 1)), .blk 11 bx [.loc d 0 0] 23]) (B' := [.ext 12 (OrchA d o), .ext 9 (GlA o0 o1)]) (HSub.refl _) (HSub.app2 (A' := [.ext 12 (OrchA d o)]) (or_id (i := 0) (j := 1) (k := 2) (l := 3) (d := d) (s := o) (t1 := u1) (t2 := u2) (t3 := u3)) (HSub.refl _))) seG)
    · rw [hb, if_pos rfl] at hef
      rw [hef] at hdr
      rw [hbq, hb] at hbusy1093
      repeat' (first
 | with_reducible refine r_stop 4 ?_
 | with_reducible ((first | refine r_seq (fun KS hS => ?_) | (refine hS _ _ ?_; clear hS KS) | (refine hA _ ?_; clear hA KA) | refine r_block ?_))
 | ((with_reducible (first | refine r_region ?_ | refine r_cond (fun KA hA KB hB => ?_) | refine r_skip ?_ | refine And.intro rfl ?_ | intro b)); conv => whnf)
 | ((with_reducible refine OpK.id ?_); (first | refine OpK.idx (k := 3) rfl rfl rfl rfl rfl rfl rfl (Sees.ext atG) (by omega) (by omega) (ef_at he) (fun bq off hpc => ?_) | refine OpK.ldp rfl rfl hpc (List.cons_ne_nil _ _) ?_); conv => whnf)
 | ((with_reducible refine CallK.id ?_); refine CallK.s1V rmG (fun ms w hk => hstp1092 w) ?_; conv => whnf)
 | (refine if_decT (by omega) ?_; conv => whnf)
 | with_reducible apply_assumption -symm -exfalso)
      refine StopR.mk ?_
      refine Run.ex (A := orH d o) (i := 12) rmG ?_
      rintro ⟨u1, u2, u3⟩
      dsimp only [orH, layF]
      repeat' (first
 | with_reducible ((first | refine r_seq (fun KS hS => ?_) | (refine hS _ _ ?_; clear hS KS) | (refine hA _ ?_; clear hA KA)))
 | ((with_reducible (first | refine r_region ?_ | refine r_cond (fun KA hA KB hB => ?_) | refine r_exit ?_ | refine And.intro rfl ?_)); conv => whnf)
 | ((with_reducible refine WrapK.i64 ?_ ?_); (focus omega); conv => whnf)
 | (apply r_any (id := 4); refine mixed; kernel_rfl; kernel_rfl; conv => whnf)
 | ((with_reducible refine CallK.id ?_); refine CallK.s1V rmG (fun ms w hk => hbusy1093 _ w) ?_; conv => whnf)
 | (refine hL2 (i + 1, k) _ _ ⟨by show i + 1 ≤ _; omega, hks, hkL, hdr⟩ (by show (nxE o.sagas).length - (i + 1) < (nxE o.sagas).length - i; omega) suG ?_)
 | ((with_reducible ((first | refine InAt.mk (fun K' hK => ?_) | refine AnyAt.mk (fun K' hK => ?_) | (refine hK _ ?_; clear hK K') | (refine hK _ _ ?_; clear hK K')))); conv => whnf)
 | (refine And.intro ?_ ?_; all_goals (conv => whnf))
 | with_reducible apply_assumption -symm -exfalso)
      all_goals exact HSub.trans (HSub.app2 (A' := [.ext 12 (OrchA d o)]) (or_id (i := 0) (j := 1) (k := 2) (l := 3) (d := d) (s := o) (t1 := u1) (t2 := u2) (t3 := u3)) (HSub.refl [.ext 9 (GlA o0 o1), .ext 1 (SlA 29 3 a (nxE o.sagas).length cap ((nxE o.sagas).flatMap efC)), .ext 0 (J k), .blk 11 bx [.loc d 0 0] 23])) seG
  · obtain rfl : i = (nxE o.sagas).length := by omega
    rw [List.drop_length, List.filterMap_nil, List.nil_append] at hdr
    refine Run.ex (A := orH d o) (i := 12) rmG ?_
    rintro ⟨u1, u2, u3⟩
    dsimp only [orH, layF]
    repeat' (first
 | with_reducible ((first | refine r_seq (fun KS hS => ?_) | (refine hS _ _ ?_; clear hS KS) | (refine hB _ ?_; clear hB KB) | refine r_block ?_))
 | ((with_reducible (first | refine r_region ?_ | refine r_cond (fun KA hA KB hB => ?_) | refine r_exit ?_ | refine And.intro rfl ?_ | intro b)); conv => whnf)
 | ((with_reducible refine CallK.id ?_); refine CallK.s1 rmG (fun ms w hk => mopenL1074 (l := o.moves) hml w) ?_; conv => whnf)
 | (refine if_decF (by omega) ?_; conv => whnf)
 | with_reducible apply_assumption -symm -exfalso)
    rcases b with ⟨a2, cap2⟩
    dsimp only
    clear hwant
    refine r_loop (α := Nat × Nat) (fun z => [(0, .v yv), (1, .loc bx 11 0), (61, .v (.slice a2 (OM.openF 1 o.moves).length cap2)), (62, .v (.int .i64 ((OM.openF 1 o.moves).length : Nat))), (63, .v (.int .i64 (z.1 : Nat)))]) (fun z => [.blk 0 d [.v (.int .i64 o.groups), .v (.int .i64 o.done), .loc u1 20 0, .loc u2 21 0, .loc u3 22 0] 121, .ext 1 (TabA u1 o.sagas), .ext 2 (MvsA u2 o.moves), .ext 3 (PtsA u3 o.parts), .ext 9 (GlA o0 o1), .ext 4 (SlA 3 1 a2 (OM.openF 1 o.moves).length cap2 (opI o.moves)), .ext 0 (J z.2), .blk 11 bx [.loc d 0 0] 23]) (fun z => z.1 ≤ (OM.openF 1 o.moves).length ∧ z.2 ≤ stop ∧ z.2 ≤ o.wanted.length ∧ o.wanted.drop z.2 = ((OM.openF 1 o.moves).drop z.1).map mvW) (fun z => (OM.openF 1 o.moves).length - z.1) (0, k) ⟨Nat.zero_le _, hks, hkL, hdr⟩ suG seG ?_
    clear hdr hks hkL hL2
    rintro ⟨j, k⟩ ⟨hj, hks, hkL, hdr⟩ KL2 hL3
    dsimp only at hj hks hkL hdr ⊢
    by_cases hlt2 : j < (OM.openF 1 o.moves).length
    · obtain ⟨⟨n, m⟩, hx0⟩ : ∃ x, (OM.openF 1 o.moves)[j]? = some x := ⟨_, List.getElem?_eq_getElem hlt2⟩
      obtain ⟨q, hq, hn, hst3⟩ := OM.openF_mem.1 (List.mem_of_getElem? hx0)
      have hn : n = ((q : Nat) + 1) := by omega
      subst hn
      have hmk := hI.mok m (List.mem_of_getElem? hq)
      have hdr2 : o.wanted.drop k = mvW (((q : Nat) + 1), m) :: ((OM.openF 1 o.moves).drop (j + 1)).map mvW := by
        rw [hdr, List.drop_eq_getElem_cons hlt2, (List.getElem?_eq_some_iff.1 hx0).2]; rfl
      obtain ⟨hx, hd2⟩ := drop_cons hdr2
      have hxk : ((o.wanted.map wtX).map denL)[k]? = some (denL (wtX (mvW (((q : Nat) + 1), m)))) := by
        rw [List.getElem?_map, List.getElem?_map, hx]; rfl
      have hyk := hy k _ hxk hks
      have hkl : k < o.wanted.length := (List.getElem?_eq_some_iff.1 hx).1
      have hol := OM.openF_length o.moves 1
      have hol2 := List.countP_le_length (p := OM.isOpen) (l := o.moves)
      have hmw : OM.mvItem ((q : Nat) + 1) m = if m.st = 2 then (⟨OM.zEff, ((q : Nat) + 1), true, m.to⟩, { OM.zCmd with kind := 4, move := ((q : Nat) + 1), r := m.r, data := m.data }) else (⟨OM.zEff, ((q : Nat) + 1), false, m.fr⟩, { OM.zCmd with kind := 3, move := ((q : Nat) + 1), r := m.r }) := rfl
      rw [show mvW (((q : Nat) + 1), m) = OM.mvItem ((q : Nat) + 1) m from rfl, hmw] at hyk
      clear hdr hdr2 hx hxk hy hI hL
      repeat' (first
 | with_reducible refine r_stop 12 ?_
 | with_reducible ((first | refine r_seq (fun KS hS => ?_) | (refine hS _ _ ?_; clear hS KS) | (refine hA _ ?_; clear hA KA) | refine r_block ?_))
 | ((with_reducible (first | refine r_region ?_ | refine r_cond (fun KA hA KB hB => ?_) | refine r_skip ?_ | refine And.intro rfl ?_ | intro b)); conv => whnf)
 | ((with_reducible refine OpK.id ?_); (first | refine OpK.idx (k := 1) rfl rfl rfl rfl rfl rfl rfl (Sees.ext atG) (by omega) (by omega) (oi_at hx0) (fun bq off hpc => ?_) | refine OpK.ldp rfl rfl hpc (List.cons_ne_nil _ _) ?_); conv => whnf)
 | ((with_reducible refine CallK.id ?_); refine CallK.s1V rmG (fun ms w hk => mget1065 hq hml w) ?_; conv => whnf)
 | (refine if_decT (by omega) ?_; conv => whnf)
 | with_reducible apply_assumption -symm -exfalso)
      refine StopR.mk ?_
      revert b
      intro bm
      refine r_seq (fun KS2 hS2 => ?_)
      refine r_par (β := Nat) (id := 12) [nq 0 [] (.v (.int .i64 ((q : Nat) + 1))), nq 1 [] (.loc bm 1 2), nq 2 [1] (.v (.int .i64 m.fr)), nq 3 [0, 2] (.agg [.v (.int .i64 0), .v (.int .i64 0), .v (.int .i64 0), .v (.int .i64 ((q : Nat) + 1)), .v (.bool false), .v (.int .i64 m.fr)]), nq 4 [] (.v (.int .i64 ((q : Nat) + 1))), nq 5 [] (.loc bm 1 0), nq 6 [5] (.agg [.v (.string m.r.lo), .v (.string m.r.hi)]), nq 7 [4, 6] (.agg [.v (.int .i64 3), .v (.int .i64 0), .v (.int .i64 0), .v (.int .i64 0), .v (.int .i64 0), .v (.int .i64 0), .v (.string ⟨#[]⟩), .v (.int .i64 0), .v (.int .i64 ((q : Nat) + 1)), .v (.string m.r.lo), .v (.string m.r.hi), .v (.int .i64 0), .v (.string ⟨#[]⟩), .v (.int .i64 0), .v (.int .i64 0), .v (.slice none 0 0), .v (.int .i64 0), .v (.int .i64 0), .v (.int .i64 0), .v (.int .i64 0), .v (.bool false), .v (.int .i64 0), .v (.int .i64 0), .v (.string ⟨#[]⟩)]), ⟨8, [], none, fun _ q2 => .loc q2 91 0, fun _ q2 => [.blk 91 q2 [.v (.int .i64 0), .v (.int .i64 0), .v (.int .i64 0), .v (.int .i64 0), .v (.bool false), .v (.int .i64 0)] 31]⟩, ⟨9, [], none, fun _ q2 => .loc q2 92 0, fun _ q2 => [.blk 92 q2 [.v (.int .i64 0), .v (.int .i64 0), .v (.int .i64 0), .v (.int .i64 0), .v (.int .i64 0), .v (.int .i64 0), .v (.string ⟨#[]⟩), .v (.int .i64 0), .v (.int .i64 0), .v (.string ⟨#[]⟩), .v (.string ⟨#[]⟩), .v (.int .i64 0), .v (.string ⟨#[]⟩), .v (.int .i64 0), .v (.int .i64 0), .v (.slice none 0 0), .v (.int .i64 0), .v (.int .i64 0), .v (.int .i64 0), .v (.int .i64 0), .v (.bool false), .v (.int .i64 0), .v (.int .i64 0), .v (.string ⟨#[]⟩)] 42]⟩, ⟨10, [3, 8], some 8, fun _ _ => .v undef, fun l _ => match l with | [_, q2] => [.blk 91 q2 [.v (.int .i64 0), .v (.int .i64 0), .v (.int .i64 0), .v (.int .i64 ((q : Nat) + 1)), .v (.bool false), .v (.int .i64 m.fr)] 31] | _ => []⟩, ⟨11, [7, 9], some 9, fun _ _ => .v undef, fun l _ => match l with | [_, q2] => [.blk 92 q2 [.v (.int .i64 3), .v (.int .i64 0), .v (.int .i64 0), .v (.int .i64 0), .v (.int .i64 0), .v (.int .i64 0), .v (.string ⟨#[]⟩), .v (.int .i64 0), .v (.int .i64 ((q : Nat) + 1)), .v (.string m.r.lo), .v (.string m.r.hi), .v (.int .i64 0), .v (.string ⟨#[]⟩), .v (.int .i64 0), .v (.int .i64 0), .v (.slice none 0 0), .v (.int .i64 0), .v (.int .i64 0), .v (.int .i64 0), .v (.int .i64 0), .v (.bool false), .v (.int .i64 0), .v (.int .i64 0), .v (.string ⟨#[]⟩)] 42] | _ => []⟩] [] 0 _ mixed (by kernel_rfl) (by kernel_rfl) (HSub.refl _) ?_ ?_
      · conv => whnf
        repeat' (first | ((with_reducible refine And.intro ?_ ?_); all_goals (conv => whnf)) | ((with_reducible intro zz AA KP hP); conv => whnf))
        repeat' (first
 | ((with_reducible intro b); conv => whnf)
 | ((with_reducible apply hP); all_goals (first | exact (0 : Nat) | ((repeat' (first | exact SubD.nil | (refine SubD.cons rfl rfl ?_))); done) | exact seZ)))
      conv => whnf
      intro zz
      conv => whnf
      try dsimp only
      repeat' (first
 | with_reducible refine r_stop 13 ?_
 | with_reducible refine r_seq (fun KS hS => ?_)
 | with_reducible apply_assumption -symm -exfalso)
      refine StopR.mk ?_
      by_cases h2 : m.st = 2
      · rw [if_pos h2] at hyk
        by_cases hlt3 : k < stop
        · rw [decide_eq_true hlt3] at hyk
          repeat' (first
 | with_reducible ((first | refine r_seq (fun KS hS => ?_) | (refine hS _ _ ?_; clear hS KS) | (refine hA _ ?_; clear hA KA) | (refine hB _ ?_; clear hB KB)))
 | ((with_reducible (first | refine r_region ?_ | refine r_cond (fun KA hA KB hB => ?_) | refine r_skip ?_ | refine And.intro rfl ?_)); conv => whnf)
 | ((with_reducible refine WrapK.i64 ?_ ?_); (focus omega); conv => whnf)
 | (apply r_any (id := 14); refine mixed; kernel_rfl; kernel_rfl; conv => whnf)
 | (apply r_any (id := 15); refine mixed; kernel_rfl; kernel_rfl; conv => whnf)
 | ((with_reducible refine CallV.id ?_); refine CallV.yb (b := true) atG hyk ?_; conv => whnf)
 | (refine hL3 (j + 1, k + 1) _ _ ⟨by show j + 1 ≤ _; omega, hlt3, hkl, hd2⟩ (by show (OM.openF 1 o.moves).length - (j + 1) < (OM.openF 1 o.moves).length - j; omega) suG ?_)
 | ((with_reducible ((first | refine InAt.mk (fun K' hK => ?_) | refine AnyAt.mk (fun K' hK => ?_) | (refine hK _ ?_; clear hK K') | (refine hK _ _ ?_; clear hK K')))); conv => whnf)
 | (refine And.intro ?_ ?_; all_goals (conv => whnf))
 | (refine if_decT (by omega) ?_; conv => whnf)
 | with_reducible apply_assumption -symm -exfalso)
          all_goals exact seG
        · rw [decide_eq_false hlt3] at hyk
          have hmin : min (stop + 1) ((o.wanted.map wtX).map denL).length = k + 1 := by rw [List.length_map, List.length_map]; omega
          repeat' (first
 | with_reducible ((first | refine r_seq (fun KS hS => ?_) | (refine hS _ _ ?_; clear hS KS) | (refine hA _ ?_; clear hA KA)))
 | ((with_reducible (first | refine r_region ?_ | refine r_cond (fun KA hA KB hB => ?_) | refine r_ret ?_ | refine And.intro rfl ?_)); conv => whnf)
 | (apply r_any (id := 14); refine mixed; kernel_rfl; kernel_rfl; conv => whnf)
 | (apply r_any (id := 15); refine mixed; kernel_rfl; kernel_rfl; conv => whnf)
 | ((with_reducible refine CallV.id ?_); refine CallV.yb (b := false) atG hyk ?_; conv => whnf)
 | ((with_reducible ((first | refine InAt.mk (fun K' hK => ?_) | refine AnyAt.mk (fun K' hK => ?_) | (refine hK _ ?_; clear hK K') | (refine hK _ _ ?_; clear hK K')))); conv => whnf)
 | (refine And.intro ?_ ?_; all_goals (conv => whnf))
 | (refine if_decT (by omega) ?_; conv => whnf)
 | with_reducible apply_assumption -symm -exfalso)
          all_goals (rw [hmin]; exact FinK.frL rfl (HSub.trans (HSub.app2 (A' := [.ext 0 (J (k + 1)), .blk 11 bx [.loc d 0 0] 23]) (B' := [.ext 12 (OrchA d o), .ext 9 (GlA o0 o1)]) (HSub.refl _) (HSub.app2 (A' := [.ext 12 (OrchA d o)]) (or_id (i := 0) (j := 1) (k := 2) (l := 3) (d := d) (s := o) (t1 := u1) (t2 := u2) (t3 := u3)) (HSub.refl _))) seG))
      · rw [if_neg h2] at hyk
        by_cases hlt3 : k < stop
        · rw [decide_eq_true hlt3] at hyk
          repeat' (first
 | with_reducible ((first | refine r_seq (fun KS hS => ?_) | (refine hS _ _ ?_; clear hS KS) | (refine hB _ ?_; clear hB KB)))
 | ((with_reducible (first | refine r_region ?_ | refine r_cond (fun KA hA KB hB => ?_) | refine r_skip ?_ | refine And.intro rfl ?_)); conv => whnf)
 | ((with_reducible refine WrapK.i64 ?_ ?_); (focus omega); conv => whnf)
 | ((with_reducible refine CallV.id ?_); refine CallV.yb (b := true) atG hyk ?_; conv => whnf)
 | (refine hL3 (j + 1, k + 1) _ _ ⟨by show j + 1 ≤ _; omega, hlt3, hkl, hd2⟩ (by show (OM.openF 1 o.moves).length - (j + 1) < (OM.openF 1 o.moves).length - j; omega) suG ?_)
 | (refine if_decF (by omega) ?_; conv => whnf)
 | with_reducible apply_assumption -symm -exfalso)
          all_goals exact seG
        · rw [decide_eq_false hlt3] at hyk
          have hmin : min (stop + 1) ((o.wanted.map wtX).map denL).length = k + 1 := by rw [List.length_map, List.length_map]; omega
          repeat' (first
 | with_reducible ((first | refine r_seq (fun KS hS => ?_) | (refine hS _ _ ?_; clear hS KS) | (refine hA _ ?_; clear hA KA) | (refine hB _ ?_; clear hB KB)))
 | ((with_reducible (first | refine r_region ?_ | refine r_cond (fun KA hA KB hB => ?_) | refine r_ret ?_ | refine r_skip ?_ | refine And.intro rfl ?_)); conv => whnf)
 | ((with_reducible refine CallV.id ?_); refine CallV.yb (b := false) atG hyk ?_; conv => whnf)
 | (refine if_decF (by omega) ?_; conv => whnf)
 | with_reducible apply_assumption -symm -exfalso)
          all_goals (rw [hmin]; exact FinK.frL rfl (HSub.trans (HSub.app2 (A' := [.ext 0 (J (k + 1)), .blk 11 bx [.loc d 0 0] 23]) (B' := [.ext 12 (OrchA d o), .ext 9 (GlA o0 o1)]) (HSub.refl _) (HSub.app2 (A' := [.ext 12 (OrchA d o)]) (or_id (i := 0) (j := 1) (k := 2) (l := 3) (d := d) (s := o) (t1 := u1) (t2 := u2) (t3 := u3)) (HSub.refl _))) seG))
    · obtain rfl : j = (OM.openF 1 o.moves).length := by omega
      rw [List.drop_length, List.map_nil] at hdr
      have hkl : o.wanted.length ≤ k := List.drop_eq_nil_iff.1 hdr
      have hmin : min (stop + 1) ((o.wanted.map wtX).map denL).length = k := by rw [List.length_map, List.length_map]; omega
      repeat' (first
 | with_reducible ((first | refine r_seq (fun KS hS => ?_) | (refine hS _ _ ?_; clear hS KS) | (refine hB _ ?_; clear hB KB)))
 | ((with_reducible (first | refine r_region ?_ | refine r_cond (fun KA hA KB hB => ?_) | refine r_exit ?_)); conv => whnf)
 | (refine if_decF (by omega) ?_; conv => whnf))
      rw [hmin]
      exact FinK.frL rfl (HSub.trans (HSub.app2 (A' := [.ext 0 (J k), .blk 11 bx [.loc d 0 0] 23]) (B' := [.ext 12 (OrchA d o), .ext 9 (GlA o0 o1)]) (HSub.refl _) (HSub.app2 (A' := [.ext 12 (OrchA d o)]) (or_id (i := 0) (j := 1) (k := 2) (l := 3) (d := d) (s := o) (t1 := u1) (t2 := u2) (t3 := u3)) (HSub.refl _))) seG)
end Go.Proofs.YtjkmpaggfbghiaaGreatDoor

namespace Go.Proofs.YtjkmpaggfbghiaaGreatDoor
open Go Go.RowKit Go.Maps Go.Sort Go.Shelf Go.X Go.Proofs
abbrev OMI := {x : OM.Item // x.ok = true}
theorem omi_ok {x : OM.Item} (h : x.ok = true) : 1 ≤ x.group ∧ x.group ≤ 7 ∧ ((x.move = 0 ∧ x.in_ = false ∧ 1 ≤ x.eff.saga ∧ x.eff.saga ≤ 9999 ∧ 0 ≤ x.eff.step ∧ x.eff.step < 8 ∧ 1 ≤ x.eff.phase ∧ x.eff.phase ≤ 3) ∨ (1 ≤ x.move ∧ x.move ≤ 64 ∧ x.eff = OM.zEff)) := by
  unfold OM.Item.ok at h
  simp only [Bool.and_eq_true, decide_eq_true_eq] at h
  obtain ⟨⟨h1, h2⟩, h3⟩ := h
  refine ⟨h1, h2, ?_⟩
  split at h3
  · rename_i hc
    simp only [Bool.and_eq_true, decide_eq_true_eq] at h3
    exact .inl ⟨hc.1, hc.2, h3.1.1.1.1.1, h3.1.1.1.1.2, h3.1.1.1.2, h3.1.1.2, h3.1.2, h3.2⟩
  · simp only [Bool.and_eq_true, decide_eq_true_eq, beq_iff_eq] at h3
    exact .inr ⟨h3.1.1, h3.1.2, h3.2⟩
theorem itemNum_bd {x : OM.Item} (h : x.ok = true) : 0 ≤ OM.itemNum x ∧ OM.itemNum x < 2000000 := by
  obtain ⟨h1, h2, h3⟩ := omi_ok h
  unfold OM.itemNum
  rcases h3 with ⟨a, b, c⟩ | ⟨a, b, c⟩
  · rw [if_pos a]; omega
  · rw [if_neg (by omega)]; split <;> omega
theorem effK130 {s t p : Int} (h : 1 ≤ s ∧ s ≤ 9999 ∧ 0 ≤ t ∧ t < 8 ∧ 1 ≤ p ∧ p ≤ 3) (W : World) : Calls Tryz.prog 130 #[.agg #[.int .i64 s, .int .i64 t, .int .i64 p]] W fun e w' => e = .returned (.int .i64 0) ∧ Gr W w' := by
  go_enter Tryz.func130, Tryz.ntmps130
  go_wp2
  all_goals first | (exfalso; omega) | skip
  go_ret
  exact ⟨rfl, (Gr.refl W).alloc _⟩
theorem itemK69 {x : OM.Item} (h : x.ok = true) (W : World) : Calls Tryz.prog 69 #[.agg (itC x).toArray] W fun e w' => e = .returned (.int .i64 0) ∧ Gr W w' := by
  obtain ⟨h1, h2, h3⟩ := omi_ok h
  obtain ⟨⟨s, t, p⟩, m, i, g⟩ := x
  clear h
  dsimp only at h1 h2 h3
  rcases h3 with ⟨h6, h7, h3⟩ | ⟨h6, h7, h8⟩
  · obtain rfl : m = 0 := h6
    obtain rfl : i = false := h7
    have h75 := fun W' => effK130 h3 W'
    show Calls Tryz.prog 69 #[.agg #[.int .i64 s, .int .i64 t, .int .i64 p, .int .i64 0, .bool false, .int .i64 g]] W _
    go_enter Tryz.func69, Tryz.ntmps69
    go_wp2_with (go_at_call 130; refine (h75 _).mono ?_; rintro e w' ⟨rfl, hg⟩)
    all_goals first | (exfalso; omega) | (go_ret; exact ⟨rfl, ((Gr.refl W).alloc _).trans ‹_›⟩)
  · unfold OM.zEff at h8
    simp only [OM.Eff.mk.injEq] at h8
    obtain ⟨rfl, rfl, rfl⟩ := h8
    show Calls Tryz.prog 69 #[.agg #[.int .i64 0, .int .i64 0, .int .i64 0, .int .i64 m, .bool i, .int .i64 g]] W _
    go_enter Tryz.func69, Tryz.ntmps69
    go_wp2
    all_goals first | (exfalso; omega) | (go_ret; exact ⟨rfl, (Gr.refl W).alloc _⟩)
theorem numberK29 {x : OM.Item} (h : x.ok = true) (W : World) : Calls Tryz.prog 29 #[.agg (itC x).toArray] W fun e w' => e = .returned (.tuple #[.int .i64 (OM.itemNum x), .int .i64 0]) ∧ Gr W w' := by
  obtain ⟨h1, h2, h3⟩ := omi_ok h
  have h47 := fun W' => itemK69 h W'
  obtain ⟨⟨s, t, p⟩, m, i, g⟩ := x
  clear h
  unfold OM.itemNum
  show Calls Tryz.prog 29 #[.agg #[.int .i64 s, .int .i64 t, .int .i64 p, .int .i64 m, .bool i, .int .i64 g]] W _
  change ∀ W', Calls Tryz.prog 69 #[.agg #[.int .i64 s, .int .i64 t, .int .i64 p, .int .i64 m, .bool i, .int .i64 g]] W' _ at h47
  dsimp only at h1 h2 h3 ⊢
  rcases h3 with ⟨h6, h7, h3⟩ | ⟨h6, h7, h8⟩
  · obtain rfl : m = 0 := h6
    obtain rfl : i = false := h7
    simp only [if_true]
    go_enter Tryz.func29, Tryz.ntmps29
    go_wp2_with (go_at_call 69; refine (h47 _).mono ?_; rintro e w' ⟨rfl, hg⟩; have c0 := hg.new (j := 0) rfl; have c1 := hg.new (j := 1) rfl; have c2 := hg.new (j := 2) rfl; have c3 := hg.new (j := 3) rfl; have c4 := hg.new (j := 4) rfl; have c5 := hg.new (j := 5) rfl)
    all_goals (go_ret2; exact ⟨rfl, ((Gr.refl W).alloc _).trans hg⟩)
  · unfold OM.zEff at h8
    simp only [OM.Eff.mk.injEq] at h8
    obtain ⟨rfl, rfl, rfl⟩ := h8
    have hm : ¬ m = 0 := by omega
    rw [if_neg hm]
    cases i
    · simp only [Bool.false_eq_true, if_false]
      go_enter Tryz.func29, Tryz.ntmps29
      go_wp2_with (go_at_call 69; refine (h47 _).mono ?_; rintro e w' ⟨rfl, hg⟩; have c0 := hg.new (j := 0) rfl; have c1 := hg.new (j := 1) rfl; have c2 := hg.new (j := 2) rfl; have c3 := hg.new (j := 3) rfl; have c4 := hg.new (j := 4) rfl; have c5 := hg.new (j := 5) rfl)
      all_goals first | (exfalso; omega) | (go_ret2; exact ⟨rfl, ((Gr.refl W).alloc _).trans hg⟩)
    · simp only [if_true]
      go_enter Tryz.func29, Tryz.ntmps29
      go_wp2_with (go_at_call 69; refine (h47 _).mono ?_; rintro e w' ⟨rfl, hg⟩; have c0 := hg.new (j := 0) rfl; have c1 := hg.new (j := 1) rfl; have c2 := hg.new (j := 2) rfl; have c3 := hg.new (j := 3) rfl; have c4 := hg.new (j := 4) rfl; have c5 := hg.new (j := 5) rfl)
      all_goals first | (exfalso; omega) | (go_ret2; exact ⟨rfl, ((Gr.refl W).alloc _).trans hg⟩)
theorem numK45 {x : OM.Item} (h : x.ok = true) (W : World) : Calls Tryz.prog 45 #[.agg (itC x).toArray] W fun e w' => e = .returned (.int .i64 (OM.itemNum x)) ∧ Gr W w' := by
  have h47 := fun W' => numberK29 h W'
  generalize OM.itemNum x = n at *
  obtain ⟨⟨s, t, p⟩, m, i, g⟩ := x
  clear h
  show Calls Tryz.prog 45 #[.agg #[.int .i64 s, .int .i64 t, .int .i64 p, .int .i64 m, .bool i, .int .i64 g]] W _
  change ∀ W', Calls Tryz.prog 29 #[.agg #[.int .i64 s, .int .i64 t, .int .i64 p, .int .i64 m, .bool i, .int .i64 g]] W' _ at h47
  go_enter Tryz.func45, Tryz.ntmps45
  go_wp2_with (go_at_call 29; refine (h47 _).mono ?_; rintro e w' ⟨rfl, hg⟩)
  all_goals (go_ret; exact ⟨rfl, ((Gr.refl W).alloc _).trans hg⟩)
theorem gr_cell {w w' : World} (h : Gr w w') {a : Addr} {v : Value} (hc : w.cell? a = some v) : w'.cell? a = some v := by
  obtain ⟨q, os, rfl⟩ := h
  refine cell_gr ?_ hc q os
  unfold World.cell? at hc
  by_cases hb : a.block < w.heap.size
  · exact hb
  · rw [Array.getElem?_eq_none (by omega)] at hc
    cases hc
theorem keepL {W w w' : World} {xs xt xp xm xg ys yt yp ym yg : Int} {xi yi : Bool} (h : Gr W w ∧ w.cell? ⟨W.heap.size, 0, none⟩ = some (.int .i64 xs) ∧ w.cell? ⟨W.heap.size, 1, none⟩ = some (.int .i64 xt) ∧ w.cell? ⟨W.heap.size, 2, none⟩ = some (.int .i64 xp) ∧ w.cell? ⟨W.heap.size, 3, none⟩ = some (.int .i64 xm) ∧ w.cell? ⟨W.heap.size, 4, none⟩ = some (.bool xi) ∧ w.cell? ⟨W.heap.size, 5, none⟩ = some (.int .i64 xg) ∧ w.cell? ⟨W.heap.size + 1, 0, none⟩ = some (.int .i64 ys) ∧ w.cell? ⟨W.heap.size + 1, 1, none⟩ = some (.int .i64 yt) ∧ w.cell? ⟨W.heap.size + 1, 2, none⟩ = some (.int .i64 yp) ∧ w.cell? ⟨W.heap.size + 1, 3, none⟩ = some (.int .i64 ym) ∧ w.cell? ⟨W.heap.size + 1, 4, none⟩ = some (.bool yi) ∧ w.cell? ⟨W.heap.size + 1, 5, none⟩ = some (.int .i64 yg)) (hg : Gr w w') : Gr W w' ∧ w'.cell? ⟨W.heap.size, 0, none⟩ = some (.int .i64 xs) ∧ w'.cell? ⟨W.heap.size, 1, none⟩ = some (.int .i64 xt) ∧ w'.cell? ⟨W.heap.size, 2, none⟩ = some (.int .i64 xp) ∧ w'.cell? ⟨W.heap.size, 3, none⟩ = some (.int .i64 xm) ∧ w'.cell? ⟨W.heap.size, 4, none⟩ = some (.bool xi) ∧ w'.cell? ⟨W.heap.size, 5, none⟩ = some (.int .i64 xg) ∧ w'.cell? ⟨W.heap.size + 1, 0, none⟩ = some (.int .i64 ys) ∧ w'.cell? ⟨W.heap.size + 1, 1, none⟩ = some (.int .i64 yt) ∧ w'.cell? ⟨W.heap.size + 1, 2, none⟩ = some (.int .i64 yp) ∧ w'.cell? ⟨W.heap.size + 1, 3, none⟩ = some (.int .i64 ym) ∧ w'.cell? ⟨W.heap.size + 1, 4, none⟩ = some (.bool yi) ∧ w'.cell? ⟨W.heap.size + 1, 5, none⟩ = some (.int .i64 yg) := by
  obtain ⟨k0, k1, k2, k3, k4, k5, k6, k7, k8, k9, k10, k11, k12⟩ := h
  exact ⟨k0.trans hg, gr_cell hg k1, gr_cell hg k2, gr_cell hg k3, gr_cell hg k4, gr_cell hg k5, gr_cell hg k6, gr_cell hg k7, gr_cell hg k8, gr_cell hg k9, gr_cell hg k10, gr_cell hg k11, gr_cell hg k12⟩
theorem itemsK44a {N : Int → Int → Int → Int → Bool → Int → Int} {O : Int → Int → Int → Int → Bool → Int → Prop}
    (hk : ∀ {s t p m : Int} {i : Bool} {g : Int}, O s t p m i g → ∀ W', Calls Tryz.prog 45 #[.agg #[.int .i64 s, .int .i64 t, .int .i64 p, .int .i64 m, .bool i, .int .i64 g]] W' fun e w' => e = .returned (.int .i64 (N s t p m i g)) ∧ Gr W' w')
    {xs xt xp xm xg ys yt yp ym yg : Int} {xi yi : Bool} (hx : O xs xt xp xm xi xg) (hy : O ys yt yp ym yi yg) (hw : IntKind.i64.wrap (N xs xt xp xm xi xg - N ys yt yp ym yi yg) = N xs xt xp xm xi xg - N ys yt yp ym yi yg) (W : World) :
    Calls Tryz.prog 44 #[.agg #[.int .i64 xs, .int .i64 xt, .int .i64 xp, .int .i64 xm, .bool xi, .int .i64 xg], .agg #[.int .i64 ys, .int .i64 yt, .int .i64 yp, .int .i64 ym, .bool yi, .int .i64 yg]] W fun e w' => e = .returned (.int .i64 (N xs xt xp xm xi xg - N ys yt yp ym yi yg)) ∧ Gr W w' := by
  go_enter Tryz.func44, Tryz.ntmps44
  go_wp2
  go_region_held3 (fun w' => Gr W w' ∧ w'.cell? ⟨W.heap.size, 0, none⟩ = some (.int .i64 xs) ∧ w'.cell? ⟨W.heap.size, 1, none⟩ = some (.int .i64 xt) ∧ w'.cell? ⟨W.heap.size, 2, none⟩ = some (.int .i64 xp) ∧ w'.cell? ⟨W.heap.size, 3, none⟩ = some (.int .i64 xm) ∧ w'.cell? ⟨W.heap.size, 4, none⟩ = some (.bool xi) ∧ w'.cell? ⟨W.heap.size, 5, none⟩ = some (.int .i64 xg) ∧ w'.cell? ⟨W.heap.size + 1, 0, none⟩ = some (.int .i64 ys) ∧ w'.cell? ⟨W.heap.size + 1, 1, none⟩ = some (.int .i64 yt) ∧ w'.cell? ⟨W.heap.size + 1, 2, none⟩ = some (.int .i64 yp) ∧ w'.cell? ⟨W.heap.size + 1, 3, none⟩ = some (.int .i64 ym) ∧ w'.cell? ⟨W.heap.size + 1, 4, none⟩ = some (.bool yi) ∧ w'.cell? ⟨W.heap.size + 1, 5, none⟩ = some (.int .i64 yg)) (first | (with_reducible exact hh) | (((repeat' (with_reducible apply And.intro)) <;> first | (with_reducible exact (((Gr.refl W).alloc _).alloc _).drew) | (simp [go_sem, World.cell?_alloc_past]; done))))
    ((go_at_call 45; refine (hk ?_ _).mono ?_; (with_reducible assumption); rintro e w' ⟨rfl, hg⟩; have hh := keepL (by assumption) hg))
  all_goals (rename_i hh; go_wp2; go_ret; exact ⟨rfl, hh.1⟩)
theorem itemsK44 {x y : OM.Item} (hx : x.ok = true) (hy : y.ok = true) (W : World) : Calls Tryz.prog 44 #[.agg (itC x).toArray, .agg (itC y).toArray] W fun e w' => e = .returned (.int .i64 (OM.itemNum x - OM.itemNum y)) ∧ Gr W w' := by
  have ha2 := itemNum_bd hx
  have hb2 := itemNum_bd hy
  obtain ⟨⟨xs, xt, xp⟩, xm, xi, xg⟩ := x
  obtain ⟨⟨ys, yt, yp⟩, ym, yi, yg⟩ := y
  exact itemsK44a (N := fun s t p m i g => OM.itemNum ⟨⟨s, t, p⟩, m, i, g⟩) (O := fun s t p m i g => OM.Item.ok ⟨⟨s, t, p⟩, m, i, g⟩ = true) (fun h W' => numK45 h W') hx hy (IntWalk.i64_in _ (by omega)) W
instance : Inhabited OMI := ⟨⟨⟨⟨1, 0, 1⟩, 0, false, 1⟩, by decide⟩⟩
abbrev OMI.cells (x : OMI) : List Value := itC x.1
theorem swoNum : SWO (ltOf fun x y : OMI => OM.itemNum x.1 - OM.itemNum y.1) where
  irrefl := fun x => by simp [ltOf]
  trans := fun x y z h1 h2 => by simp [ltOf] at *; omega
  ntrans := fun x y z h1 h2 => by simp [ltOf] at *; omega
theorem sortOk43 {cap : Nat} {a : Option Addr} (l : List OMI) (hsz : l.length ≤ 1000000) (w : World) :
    FrZ Tryz.prog 43 #[.slice a l.length cap, .func (.func 44) #[] #[]] w (SlA 31 6 a l.length cap (l.flatMap OMI.cells)) (fun _ : {l' : List OMI // l'.Perm l ∧ l'.Pairwise fun x y => ltOf (fun x y : OMI => OM.itemNum x.1 - OM.itemNum y.1) y x = false} => .tuple #[]) (fun l' => SlA 31 6 a l.length cap (l'.1.flatMap OMI.cells)) :=
  sortOk_of (k := 6) (ρ := Tryz.sortF_ren) Tryz.sortF ⟨_, Tryz.func43, by kernel_rfl, by kernel_rfl⟩ Tryz.isAgg31 Tryz.sizeOf31 (fun _ => rfl) (by decide) (fun x v hv => by
    have : v ∈ [Value.int .i64 x.1.eff.saga, .int .i64 x.1.eff.step, .int .i64 x.1.eff.phase, .int .i64 x.1.move, .bool x.1.in_, .int .i64 x.1.group] := hv
    simp only [List.mem_cons, List.not_mem_nil, or_false] at this
    rcases this with rfl | rfl | rfl | rfl | rfl | rfl <;> rfl) _ swoNum 44 #[] (enters_of Tryz.func44 (by kernel_rfl) rfl) (fun x y W => itemsK44 x.2 y.2 W) l hsz w
theorem made1041 {d : Nat} {o : OM.St} (hg : 0 < o.groups) (w : World) :
    Fr Tryz.prog 41 #[pv d] w (AssL [.ext 12 (OrchA d o)]) (.bool true) (AssL [.ext 12 (OrchA d o)]) := by
  refine enter_fr TBok (H := [.ext 12 (OrchA d o)]) all_foot Tryz.func41 rfl rfl Tryz.ntmps41 [.loc d 0 0] rfl rfl ?_
  intro S
  conv => whnf
  refine Run.ex (A := orH d o) (i := 12) .head ?_
  rintro ⟨t1, t2, t3⟩
  dsimp only [orH, layF]
  have hdec : decide (0 < o.groups) = true := decide_eq_true hg
  repeat' (first
 | with_reducible ((first | refine r_seq (fun KS hS => ?_) | (refine hS _ _ ?_; clear hS KS)))
 | ((with_reducible (first | refine r_region ?_ | refine r_ret ?_ | refine And.intro rfl ?_)); conv => whnf)
 | ((with_reducible apply OpK.more); (focus refine sok); (conv => whnf); fail_if_success guard_target =ₛ False))
  all_goals exact FinK.frL (by rw [hdec]; rfl) (HSub.trans (or_id (i := 0) (j := 1) (k := 2) (l := 3) (d := d) (s := o) (t1 := t1) (t2 := t2) (t3 := t3)) seG)
open Go.Proofs
theorem in1042 : InSt 42 Tryz.f42 4 := InSt.mk' Tryz.func42 rfl Tryz.ntmps42
abbrev imC (o : OM.St) : List Value := o.items.flatMap itC
theorem items_len {o : OM.St} : o.items.length = o.wanted.length := by unfold OM.St.items; exact List.length_map ..
theorem wanted_le {o : OM.St} (h : OM.Inv o) : o.wanted.length ≤ 128 := by
  unfold OM.St.wanted
  rw [List.length_append, List.length_map]
  have h1 : o.effs.length ≤ o.sagas.length := by unfold OM.St.effs; exact List.length_filterMap_le ..
  have h2 : o.openM.length ≤ o.moves.length := by
    unfold OM.St.openM
    rw [OM.openF_length]
    exact List.countP_le_length
  have := h.slen
  have := h.mlen
  omega
def omis {o : OM.St} (h : OM.Inv o) : List OMI := o.wanted.attach.map fun x => ⟨x.1.1, OM.item_ok (c := x.1.2) h x.2⟩
theorem omis_val {o : OM.St} (h : OM.Inv o) : (omis h).map (·.1) = o.items := by
  unfold omis OM.St.items
  rw [List.map_map]
  conv => rhs; rw [← List.attach_map_subtype_val o.wanted]
  rw [List.map_map]
  rfl
theorem omis_len {o : OM.St} (h : OM.Inv o) : (omis h).length = o.items.length := by rw [← omis_val h, List.length_map]
theorem omis_cells {l : List OMI} : l.flatMap OMI.cells = (l.map (·.1)).flatMap itC := by
  rw [List.flatMap_map]
theorem omis_sorted {o : OM.St} (h : OM.Inv o) : (omis h).Pairwise fun x y => OM.itemNum x.1 < OM.itemNum y.1 := by
  have h1 := OM.items_sorted h
  have h2 : o.items.Pairwise fun x y => OM.itemNum x < OM.itemNum y := by
    unfold OM.St.items
    rw [List.pairwise_map]; exact h1
  rw [← omis_val h, List.pairwise_map] at h2
  exact h2
theorem perm_sorted_eq {α : Type} {f : α → Int} : ∀ {l l' : List α}, l'.Perm l → l.Pairwise (fun x y => f x < f y) → l'.Pairwise (fun x y => f x ≤ f y) → l' = l
  | [], l', hp, _, _ => hp.eq_nil
  | x :: l, [], hp, _, _ => by simp at hp
  | x :: l, y :: l', hp, h1, h2 => by
    obtain ⟨a1, a2⟩ := List.pairwise_cons.1 h1
    obtain ⟨b1, b2⟩ := List.pairwise_cons.1 h2
    have hxy : y = x := by
      have hy : y ∈ x :: l := hp.subset (by simp)
      have hx : x ∈ y :: l' := hp.symm.subset (by simp)
      rcases List.mem_cons.1 hy with h | h
      · exact h
      · rcases List.mem_cons.1 hx with h' | h'
        · exact h'.symm
        · have := a1 y h; have := b1 x h'; omega
    subst hxy
    rw [perm_sorted_eq (List.Perm.cons_inv hp) a2 b2]
theorem itemsSorted1043 {o : OM.St} (h : OM.Inv o) {a : Option Addr} {cap : Nat} (w : World) :
    Fr Tryz.prog 43 #[.slice a o.items.length cap, .func (.func 44) #[] #[]] w (SlA 31 6 a o.items.length cap (imC o)) (.tuple #[]) (SlA 31 6 a o.items.length cap (imC o)) := by
  have hl := wanted_le h
  have hc : (omis h).flatMap OMI.cells = imC o := by rw [omis_cells, omis_val]
  have hs := sortOk43 (a := a) (cap := cap) (omis h) (by rw [omis_len, items_len]; omega) w
  rw [omis_len, hc] at hs
  intro S hS hlt
  refine (hs S hS hlt).mono ?_
  rintro e w' ⟨⟨l', hp, hw⟩, rfl, hq⟩
  have : l' = omis h := perm_sorted_eq (f := fun x : OMI => OM.itemNum x.1) hp (omis_sorted h) (hw.imp fun {x y} hxy => by
    simp only [ltOf, decide_eq_false_iff_not] at hxy
    omega)
  subst this
  dsimp only at hq
  rw [hc] at hq
  exact ⟨rfl, hq⟩
theorem items1012 {d : Nat} {o : OM.St} {o0 o1 : Obj} (hko : KObj o0 o1) (hI : OM.Inv o) (w : World) :
    FrZ Tryz.prog 12 #[pv d] w (AssL [.ext 12 (OrchA d o), .ext 9 (GlA o0 o1)]) (fun z : Option Addr × Nat => .slice z.1 o.items.length z.2) (fun z => AssL [.ext 12 (OrchA d o), .ext 9 (GlA o0 o1), .ext 1 (SlA 31 6 z.1 o.items.length z.2 (imC o))]) := by
  have hwl := wanted_le hI
  refine enter_frZ TBok (H := [.ext 12 (OrchA d o), .ext 9 (GlA o0 o1)]) all_foot Tryz.func12 rfl rfl Tryz.ntmps12 [.loc d 0 0] rfl rfl ?_
  intro S _ _
  conv => whnf
  repeat' (first
 | with_reducible refine r_stop 4 ?_
 | with_reducible ((first | refine r_seq (fun KS hS => ?_) | (refine hS _ _ ?_; clear hS KS) | (refine hB _ ?_; clear hB KB)))
 | ((with_reducible (first | refine r_region ?_ | refine r_cond (fun KA hA KB hB => ?_) | refine r_skip ?_ | intro b)); conv => whnf)
 | ((with_reducible refine CallK.id ?_); refine CallK.s1V rmG (fun ms w hk => made1041 (by have := hI.gr; omega) w) ?_; conv => whnf)
 | with_reducible apply_assumption -symm -exfalso)
  refine StopR.mk ?_
  revert b
  intro bk
  repeat' (first
 | with_reducible ((first | refine r_seq (fun KS hS => ?_) | (refine hS _ _ ?_; clear hS KS) | refine r_block ?_))
 | ((with_reducible (first | refine r_region ?_ | refine r_ret ?_ | refine And.intro rfl ?_ | intro b)); conv => whnf)
 | (apply in1042; rfl; rfl; rfl; intro A; conv => whnf))
  refine r_rangeN (fun i => [.ext 5 (BxE 10 25 31 6 bk i ((o.items.take i).flatMap itC))]) (o.wanted.map wtX) 40 rfl ?_ (wanted1090 (d := d) (bx := b) hko hI) ?_ (by decide) ?_ ?_
  · exact HSub.trans (HSub.app2 (A' := [.blk 11 b [.loc d 0 0] 23, .ext 12 (OrchA d o), .ext 9 (GlA o0 o1)]) (HSub.refl _) (bx_nil (j := 10))) seG
  · intro x hx
    obtain ⟨y, _, rfl⟩ := List.mem_map.1 hx
    rfl
  · intro i x hx lp rc W' S'
    rw [List.getElem?_map, Option.map_eq_some_iff] at hx
    obtain ⟨⟨x, c⟩, hx, rfl⟩ := hx
    have hi : o.items[i]? = some x := by unfold OM.St.items; rw [List.getElem?_map, hx]; rfl
    have hil : i < o.wanted.length := (List.getElem?_eq_some_iff.1 hx).1
    have htk : (o.items.take (i + 1)).flatMap itC = (o.items.take i).flatMap itC ++ itC x := by rw [← take_snoc hi, List.flatMap_append, List.flatMap_singleton]
    conv => whnf
    repeat' (first
 | ((with_reducible (first | refine r_region ?_ | refine And.intro rfl ?_ | intro b)); conv => whnf))
    refine AssignX.rm rmG ?_
    refine Run.ex (A := bxH 10 25 31 6 bk i ((o.items.take i).flatMap itC)) (i := 5) rmG ?_
    rintro ⟨a, cap⟩
    dsimp only [bxH, layF]
    repeat' (first
 | with_reducible refine r_block ?_
 | ((with_reducible (first | refine r_region ?_ | refine And.intro rfl ?_ | intro b)); conv => whnf)
 | ((with_reducible refine OpK.id ?_); refine OpK.app (k := 6) rfl rfl rfl rfl rfl rfl rfl rfl atG (SrcK.slc rfl rfl lmG (Nat.le_refl _) rfl) (big_ok (by omega) (by decide)) (fun a' cap' => ?_); conv => whnf))
    rw [htk]
    exact ⟨rfl, HSub.trans (HSub.app2 (A' := [.ext 40 _]) (HSub.refl _) (bx_id (i := 3) (j := 10) (a := a') (cap := cap'))) seG⟩
  · conv => whnf
    refine hS _ _ ?_
    clear hS KS
    dsimp only [List.cons_append, List.nil_append]
    have hll : (o.wanted.map wtX).length = o.items.length := by rw [List.length_map, items_len]
    rw [hll, List.take_of_length_le (Nat.le_refl _)]
    refine Run.ex (A := bxH 10 25 31 6 bk o.items.length (imC o)) (i := 5) rmG ?_
    rintro ⟨a, cap⟩
    dsimp only [bxH, layF]
    repeat' (first
 | with_reducible ((first | refine r_seq (fun KS hS => ?_) | (refine hS _ _ ?_; clear hS KS)))
 | ((with_reducible (first | refine r_region ?_ | refine r_ret ?_ | refine And.intro rfl ?_)); conv => whnf)
 | ((with_reducible refine CallK.id ?_); refine CallK.frE atG (fun w => itemsSorted1043 hI w) ?_; conv => whnf))
    all_goals exact FinK.frZL (a, cap) rfl seG
theorem itEq (x y : OM.Item) : ((decide (x.eff.saga = y.eff.saga) && (decide (x.eff.step = y.eff.step) && (decide (x.eff.phase = y.eff.phase) && true))) && (decide (x.move = y.move) && ((x.in_ == y.in_) && (decide (x.group = y.group) && true)))) = (x == y) := by
  obtain ⟨⟨a, b, c⟩, d, e, f⟩ := x
  obtain ⟨⟨a', b', c'⟩, d', e', f'⟩ := y
  rw [Bool.eq_iff_iff]
  simp only [Bool.and_eq_true, decide_eq_true_eq, beq_iff_eq, and_true, OM.Item.mk.injEq, OM.Eff.mk.injEq, and_assoc]
abbrev cmO (b : Bool) (c : OM.Cmd) : List SV := match b with | true => cmV c none 0 0 | false => cmV OM.zCmd none 0 0
def cvC : Option OM.Cmd → Value
  | none => .tuple #[.agg (denL (cmV OM.zCmd none 0 0)).toArray, .int .i64 5]
  | some c => .tuple #[.agg (denL (cmV c none 0 0)).toArray, .int .i64 0]
theorem find_idx {α : Type} {p : α → Bool} : ∀ l : List α, l.find? p = l[l.findIdx p]?
  | [] => rfl
  | a :: l => by
    rw [List.find?_cons, List.findIdx_cons]
    cases h : p a
    · simp [find_idx l]
    · simp
theorem command1017 {d : Nat} {o : OM.St} {o0 o1 : Obj} {x : OM.Item} (hko : KObj o0 o1) (hI : OM.Inv o) (w : World) :
    Fr Tryz.prog 17 #[pv d, .agg (denL (itV x)).toArray] w (AssL [.ext 12 (OrchA d o), .ext 9 (GlA o0 o1)]) (cvC (o.command x)) (AssL [.ext 12 (OrchA d o), .ext 9 (GlA o0 o1)]) := by
  obtain ⟨stop, hstop⟩ : ∃ stop, o.wanted.findIdx (fun y => x == y.1) = stop := ⟨_, rfl⟩
  have hfind : o.wanted.find? (fun y => x == y.1) = o.wanted[stop]? := by rw [← hstop]; exact find_idx _
  obtain ⟨cs, hcs⟩ : ∃ cs : OM.Cmd, cs = match o.wanted[stop]? with | some y => y.2 | none => OM.zCmd := ⟨_, rfl⟩
  refine enter_fr TBok (H := [.ext 12 (OrchA d o), .ext 9 (GlA o0 o1)]) all_foot Tryz.func17 rfl rfl Tryz.ntmps17 [.loc d 0 0, .agg (itV x)] rfl rfl ?_
  intro S
  conv => whnf
  repeat' (first
 | with_reducible refine r_stop 1 ?_
 | with_reducible ((first | refine r_seq (fun KS hS => ?_) | (refine hS _ _ ?_; clear hS KS)))
 | ((with_reducible (first | refine r_region ?_ | intro b)); conv => whnf))
  refine StopR.mk ?_
  rename_i b3 b4
  revert b
  intro b5
  repeat' (first
 | with_reducible ((first | refine r_seq (fun KS hS => ?_) | (refine hS _ _ ?_; clear hS KS) | (refine hB _ ?_; clear hB KB) | refine r_block ?_))
 | ((with_reducible (first | refine r_region ?_ | refine r_cond (fun KA hA KB hB => ?_) | refine r_ret ?_ | refine r_skip ?_ | refine And.intro rfl ?_ | intro b)); conv => whnf)
 | (apply in1042; rfl; rfl; rfl; intro A; conv => whnf)
 | ((with_reducible refine CallK.id ?_); refine CallK.s1V rmG (fun ms w hk => made1041 (by have := hI.gr; omega) w) ?_; conv => whnf)
 | with_reducible apply_assumption -symm -exfalso)
  refine r_rangeX (fun i => [.blk 13 b3 (itV x) 31, .blk 14 b4 (cmO (decide (stop < i)) cs) 42, .blk 15 b5 [.v (.int .i64 0)] 32]) (o.wanted.map wtX) stop .ret 40 rfl (by simp) ?_ (wanted1090 (d := d) (bx := b) hko hI) ?_ (by decide) ?_ ?_ ?_
  · rw [decide_eq_false (Nat.not_lt_zero _)]; exact seG
  · intro x hx
    obtain ⟨y, _, rfl⟩ := List.mem_map.1 hx
    rfl
  · intro i y hy hi lp rc W' S'
    rw [List.getElem?_map, Option.map_eq_some_iff] at hy
    obtain ⟨⟨y, c⟩, hy, rfl⟩ := hy
    have hil : i < o.wanted.length := (List.getElem?_eq_some_iff.1 hy).1
    have hxi : o.wanted[i] = (y, c) := (List.getElem?_eq_some_iff.1 hy).2
    rw [decide_eq_false (show ¬ stop < i by omega)]
    conv => whnf
    by_cases hlt : i < stop
    · have hno : (x == y) = false := by
        have := List.not_of_lt_findIdx (p := fun y : OM.Item × OM.Cmd => x == y.1) (xs := o.wanted) (i := i) (by omega)
        rw [hxi] at this
        simpa using this
      have hcomp := (itEq x y).trans hno
      rw [if_pos hlt, decide_eq_false (show ¬ stop < i + 1 by omega)]
      repeat' (first
 | with_reducible ((first | refine r_seq (fun KS hS => ?_) | (refine hS _ _ ?_; clear hS KS)))
 | ((with_reducible (first | refine r_region ?_ | refine And.intro rfl ?_ | intro b)); conv => whnf))
      refine AssignX.rm rmG ?_
      repeat' (first
 | with_reducible ((first | refine r_seq (fun KS hS => ?_) | (refine hS _ _ ?_; clear hS KS) | (refine hB _ ?_; clear hB KB) | refine r_block ?_))
 | ((with_reducible (first | refine r_region ?_ | refine r_cond (fun KA hA KB hB => ?_) | refine r_skip ?_ | refine And.intro rfl ?_)); conv => whnf)
 | (refine if_f hcomp ?_; conv => whnf)
 | ((with_reducible apply OpK.more); (focus refine sok); (conv => whnf); fail_if_success guard_target =ₛ False))
      exact ⟨rfl, seG⟩
    · obtain rfl : i = stop := by omega
      have hyes : (x == y) = true := by
        have := List.findIdx_getElem (p := fun y : OM.Item × OM.Cmd => x == y.1) (xs := o.wanted) (w := by omega)
        simp only [hstop] at this
        rw [hxi] at this
        exact this
      have hcomp := (itEq x y).trans hyes
      rw [hy] at hcs
      dsimp only at hcs
      subst hcs
      rw [if_neg hlt, decide_eq_true (show i < i + 1 by omega)]
      repeat' (first
 | with_reducible ((first | refine r_seq (fun KS hS => ?_) | (refine hS _ _ ?_; clear hS KS)))
 | ((with_reducible (first | refine r_region ?_ | refine And.intro rfl ?_ | intro b)); conv => whnf))
      refine AssignX.rm rmG ?_
      repeat' (first
 | with_reducible ((first | refine r_seq (fun KS hS => ?_) | (refine hS _ _ ?_; clear hS KS) | (refine hA _ ?_; clear hA KA) | refine r_block ?_))
 | ((with_reducible (first | refine r_region ?_ | refine r_cond (fun KA hA KB hB => ?_) | refine r_ret ?_ | refine And.intro rfl ?_)); conv => whnf)
 | (refine if_t hcomp ?_; conv => whnf)
 | ((with_reducible apply OpK.more); (focus refine sok); (conv => whnf); fail_if_success guard_target =ₛ False))
      exact ⟨rfl, seG⟩
  · intro hle
    rw [List.length_map] at hle
    rw [decide_eq_false (by rw [List.length_map]; omega)]
    have hnone : o.command x = none := by unfold OM.St.command; rw [hfind, List.getElem?_eq_none (by omega)]; rfl
    conv => whnf
    repeat' (first
 | with_reducible ((first | refine r_seq (fun KS hS => ?_) | (refine hS _ _ ?_; clear hS KS)))
 | ((with_reducible (first | refine r_region ?_ | refine r_ret ?_ | refine And.intro rfl ?_)); conv => whnf))
    exact FinK.frL (by rw [hnone]; rfl) seG
  · intro hle
    rw [List.length_map] at hle
    rw [decide_eq_true (by omega)]
    have hsome : o.command x = some cs := by
      unfold OM.St.command
      rw [hfind, List.getElem?_eq_getElem hle, hcs, List.getElem?_eq_getElem hle]; rfl
    conv => whnf
    repeat' (first
 | ((with_reducible refine And.intro rfl ?_); conv => whnf))
    exact FinK.frL (by rw [hsome]; rfl) seG
abbrev rpV (r : OM.Rep) : Value := .agg #[.int .i64 r.err, .int .i64 r.num, .string ⟨#[]⟩]
theorem refuse1046 {e : Int} (w : World) : Pu Tryz.prog 46 #[.int .i64 e] w (rpV ⟨e, 0⟩) := by
  refine enter_sound TBok Tryz.func46 rfl rfl Tryz.ntmps46 [.v (.int .i64 e)] (Kn.start w noS) rfl rfl ?_
  conv => whnf
  repeat' (first
 | with_reducible ((first | refine r_seq (fun KS hS => ?_) | (refine hS _ _ ?_; clear hS KS)))
 | ((with_reducible (first | refine r_region ?_ | refine r_ret ?_ | refine And.intro rfl ?_ | intro b)); conv => whnf))
  all_goals exact FinK.pu rfl
theorem nowP1097 {d : Nat} {n k : Int} {w : World} (h : OldC w d 0 [.v (.int .i64 n)]) (h' : OldC w d 1 [.v (.int .i64 k)]) : Pu Tryz.prog 97 #[pv d] w (.int .i64 (min k 2147483648)) := by
  refine enter_sound TBok Tryz.func97 rfl rfl Tryz.ntmps97 [.v (pv d)] (Kn.start w noS) rfl rfl ?_
  conv => whnf
  repeat' (first
 | with_reducible ((first | refine r_seq (fun KS hS => ?_) | (refine hS _ _ ?_; clear hS KS)))
 | ((with_reducible (first | refine r_region ?_ | refine r_ret ?_ | intro b)); conv => whnf)
 | ((with_reducible refine OpK.id ?_); (first | refine OpK.fap rfl rfl (h.pc id) ?_ | refine OpK.ldp rfl rfl (h'.pc id) (List.cons_ne_nil _ _) ?_ | refine OpK.minI rfl rfl rfl ?_); conv => whnf))
  all_goals exact FinK.pu rfl
theorem tstartAll1096 {t : Nat} {o : OM.St} {c : OM.Cmd} {now : Int} {a : Option Addr} {cap : Nat} (hL : LOk o.sagas) (hnow : now = o.now) (hd : c.d.ok = true) (hn : 0 ≤ now ∧ now ≤ 2147483648) (hz : 1 ≤ c.saga ∧ c.saga ≤ 9999) (w : World) :
    Fr Tryz.prog 96 #[pv t, .int .i64 c.saga, .agg #[.string c.d.name, .int .i64 c.d.retries, .int .i64 c.d.deadline, .slice a c.d.steps.length cap], .int .i64 now] w (AssL [.ext 0 (TabA t o.sagas), .ext 8 (dfA c.d a cap)]) (.int .i64 (o.doStart c).2.err) (AssL [.ext 0 (TabA t (o.doStart c).1.sagas), .ext 8 (dfA c.d a cap)]) := by
  subst hnow
  unfold OM.St.doStart
  cases hg : o.get c.saga with
  | some s => exact thave1096 hg hd hn hz w
  | none =>
    rw [Option.isSome_none, if_neg (by simp)]
    by_cases hl : 64 ≤ o.sagas.length
    · rw [if_pos hl]; exact tfull1096 hL.srt (by omega) hL.len hg hd hn hz w
    · rw [if_neg hl]; exact tstart1096 hL.srt (by omega) hg hd hn hz w
theorem doStart_same (o : OM.St) (c : OM.Cmd) : (o.doStart c).1 = { o with sagas := (o.doStart c).1.sagas } ∧ (o.doStart c).2.num = 0 := by
  unfold OM.St.doStart
  split
  · exact ⟨rfl, rfl⟩
  · split <;> exact ⟨rfl, rfl⟩
theorem now_ok {o : OM.St} (h : OM.Inv o) : 0 ≤ o.now ∧ o.now ≤ 2147483648 := by
  have := h.dn
  unfold OM.St.now
  omega
theorem start1048 {d : Nat} {o : OM.St} {c : OM.Cmd} {a : Option Addr} {cap : Nat} (hI : OM.Inv o) (hd : c.d.ok = true) (hz : 1 ≤ c.saga ∧ c.saga ≤ 9999) (w : World) :
    Fr Tryz.prog 48 #[pv d, .agg (denL (cmV c a c.d.steps.length cap)).toArray] w (AssL [.ext 12 (OrchA d o), .ext 8 (dfA c.d a cap)]) (rpV (o.doStart c).2) (AssL [.ext 12 (OrchA d (o.doStart c).1), .ext 8 (dfA c.d a cap)]) := by
  have hL := LOk.ofInv hI
  have hnow := now_ok hI
  obtain ⟨h1, h2⟩ := doStart_same o c
  have hst1096 := fun t w => tstartAll1096 (t := t) (a := a) (cap := cap) hL rfl hd hnow hz w
  generalize (o.doStart c).1.sagas = L' at *
  generalize (o.doStart c).1 = o' at *
  generalize (o.doStart c).2 = r at *
  obtain ⟨e, m⟩ := r
  dsimp only at h2 hst1096
  subst h1 h2
  unfold OM.St.now at hst1096 hnow
  refine enter_fr TBok (H := [.ext 12 (OrchA d o), .ext 8 (dfA c.d a cap)]) all_foot Tryz.func48 rfl rfl Tryz.ntmps48 [.loc d 0 0, .agg (cmV c a c.d.steps.length cap)] rfl rfl ?_
  intro S
  conv => whnf
  refine Run.ex (A := orH d o) (i := 12) rmG ?_
  rintro ⟨t1, t2, t3⟩
  dsimp only [orH, layF]
  repeat' (first
 | with_reducible ((first | refine r_seq (fun KS hS => ?_) | (refine hS _ _ ?_; clear hS KS)))
 | ((with_reducible (first | refine r_region ?_ | refine r_ret ?_ | refine And.intro rfl ?_ | intro b)); conv => whnf)
 | (apply r_split 10 (id := 1); refine mixed; kernel_rfl; kernel_rfl; kernel_rfl; intro K' hK; conv => whnf)
 | ((with_reducible refine CallQ.at 97 ?_); refine CallQ.puW (fun ms w hk => nowP1097 (d := d) (n := o.groups) (k := o.done) (OldC.of_got (hk.got lmG) rfl) (OldC.of_got (hk.got lmG) rfl)) ?_; conv => whnf)
 | ((with_reducible refine CallK.id ?_); refine CallK.s2V rmG rmG (fun ms w hk => hst1096 _ w) ?_; conv => whnf)
 | ((with_reducible refine CallK.at 46 ?_); refine CallK.pu (fun w => refuse1046 w) ?_; conv => whnf)
 | ((with_reducible ((first | refine AnyAt.mk (fun K' hK => ?_) | (refine hK _ ?_; clear hK K') | (refine hK _ _ ?_; clear hK K')))); conv => whnf))
  all_goals exact FinK.frL rfl (HSub.trans (HSub.app2 (A' := [.ext 12 (OrchA d { o with sagas := L' })]) (or_id (i := 0) (j := 1) (k := 2) (l := 3) (d := d) (s := { o with sagas := L' }) (t1 := t1) (t2 := t2) (t3 := t3)) (HSub.refl [.ext 8 (dfA c.d a cap)])) seG)
end Go.Proofs.YtjkmpaggfbghiaaGreatDoor
