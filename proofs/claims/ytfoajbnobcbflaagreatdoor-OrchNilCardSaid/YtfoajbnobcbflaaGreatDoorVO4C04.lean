/- Lemmas for the claim (part 4); no condition of its own. -/
import Derived.Test.YtfoajbnobcbflaaGreatDoorVO4C03
import Derived.Lib.LaidU8
import Derived.OpenShut
import Derived.LaidHandle
set_option linter.all false
set_option linter.unusedVariables false
set_option linter.unusedSimpArgs false
set_option linter.unnecessarySimpa false
namespace Go.Y
open Go Go.X
theorem headN_cons (i m : Nat) (l : List Nat) (best : Nat) : headN i (m :: l) best = (match Nat.beq m (Nat.sub (Nat.pow 2 i) 1) with
    | true => headN (i + 1) l best
    | false => headN (i + 1) l (i + 1)) := rfl
theorem headN_spec : ∀ (l : List Nat) (i best : Nat), best ≤ i → best ≤ headN i l best ∧ headN i l best ≤ i + l.length ∧ ∀ j m, l[j]? = some m → headN i l best ≤ i + j → m = 2 ^ (i + j) - 1
  | [], i, best, hb => ⟨Nat.le_refl _, by show best ≤ i + 0; omega, fun j m h => by simp at h⟩
  | x :: l, i, best, hb => by
    rw [headN_cons]
    split
    · rename_i hx
      have hx := Nat.eq_of_beq_eq_true hx
      obtain ⟨h1, h2, h3⟩ := headN_spec l (i + 1) best (by omega)
      refine ⟨h1, by simp; omega, fun j m hj hle => ?_⟩
      cases j with
      | zero =>
        simp only [List.getElem?_cons_zero, Option.some.injEq] at hj
        subst hj
        exact hx
      | succ j =>
        have := h3 j m (by simpa using hj) (by omega)
        rw [this]
        congr 2
        omega
    · obtain ⟨h1, h2, h3⟩ := headN_spec l (i + 1) (i + 1) (Nat.le_refl _)
      refine ⟨by omega, by simp; omega, fun j m hj hle => ?_⟩
      cases j with
      | zero => omega
      | succ j =>
        have := h3 j m (by simpa using hj) (by omega)
        rw [this]
        congr 2
        omega
theorem splitH_cons (seen : List Nat) (p : Nat × CB) (h : CH) : splitH seen (p :: h) = (match splitH seen h with
    | (a, r) => match memK p.1 seen with | true => (p :: a, r) | false => (a, p :: r)) := rfl
theorem splitH_perm (seen : List Nat) : ∀ (h : CH), ((splitH seen h).1 ++ (splitH seen h).2).Perm h
  | [] => .refl _
  | p :: h => by
    have ih := splitH_perm seen h
    rw [splitH_cons]
    cases memK p.1 seen with
    | true => exact ih.cons p
    | false => exact (List.perm_middle).trans (ih.cons p)
theorem giveC_cons (pg : Pg) (D : List Nat) (rec : Rec) (n : Nat) (all : List Oper) (fl : List (Nat × Bool)) (ro : List CH) (o : Oper) (l : List Oper) (i : Nat) (e : Tr) (rw : CH) (nx : Nat) (md : List Nat) (sh : CH) (us : List (Nat × CH)) : giveC pg D rec n all fl ro (o :: l) i e rw nx md sh us = (match fl with
      | [] => .ok (us, sh)
      | (j, b) :: fl' => match Nat.beq i j with
        | true => match (match b with | true => splitH (reachH 100000 rw (rootsO e.get (opdsAll o) []) []) sh | false => ([], sh)) with
          | (u, sh') => match fl' with
            | [] => .ok ((i, u) :: us, sh')
            | fl' => match hasT fl' with
              | false => .ok ((i, u) :: us, sh')
              | true => match stepO pg D rec n all o e.get ⟨rw, ro, nx, md⟩ with
              | .ok r => giveC pg D rec n all fl' ro l (i + 1) (putO o.dst r.v e) r.rw r.nx r.md sh' ((i, u) :: us)
              | .no er => .no er
        | false => match stepO pg D rec n all o e.get ⟨rw, ro, nx, md⟩ with
          | .ok r => giveC pg D rec n all fl ro l (i + 1) (putO o.dst r.v e) r.rw r.nx r.md sh us
          | .no er => .no er) := by
  cases fl <;> rfl
theorem giveC_sp {us : List (Nat × CH)} (i : Nat) (b : Bool) (X : CH × CH) {sh u s1 : CH} (hX : (X.1 ++ X.2).Perm sh) (he : (match b with | true => X | false => ([], sh)) = (u, s1)) : (((i, u) :: us).flatMap (·.2) ++ s1).Perm (us.flatMap (·.2) ++ sh) := by
  have hp : (u ++ s1).Perm sh := by
    cases b with
    | true => simp only at he; rw [he] at hX; exact hX
    | false => cases he; exact .refl _
  simp only [List.flatMap_cons, List.append_assoc]
  have h1 : (u ++ (us.flatMap (·.2) ++ s1)).Perm (us.flatMap (·.2) ++ (u ++ s1)) := by
    rw [← List.append_assoc, ← List.append_assoc]
    exact List.Perm.append_right _ List.perm_append_comm
  exact h1.trans (List.Perm.append_left _ hp)
theorem giveC_perm (pg : Pg) (D : List Nat) (rec : Rec) (n : Nat) (all : List Oper) (ro : List CH) : ∀ (l : List Oper) (fl : List (Nat × Bool)) {i : Nat} {e : Tr} {rw : CH} {nx : Nat} {md : List Nat} {sh : CH} {us us' : List (Nat × CH)} {sh' : CH}, giveC pg D rec n all fl ro l i e rw nx md sh us = .ok (us', sh') → (us'.flatMap (·.2) ++ sh').Perm (us.flatMap (·.2) ++ sh)
  | [], fl, i, e, rw, nx, md, sh, us, us', sh', h => by
    cases (show Rs.ok (us, sh) = .ok (us', sh') from h)
    exact .refl _
  | o :: l, fl, i, e, rw, nx, md, sh, us, us', sh', h => by
    rw [giveC_cons] at h
    split at h
    · cases h; exact .refl _
    · rename_i j b fl'
      have hsp := fun {u s1 : CH} => giveC_sp (us := us) i b (splitH (reachH 100000 rw (rootsO e.get (opdsAll o) []) []) sh) (u := u) (s1 := s1) (splitH_perm _ sh)
      split at h
      · split at h
        rename_i u s1 he
        split at h
        · cases h; exact hsp he
        · split at h
          · cases h; exact hsp he
          split at h
          · exact (giveC_perm pg D rec n all ro l _ h).trans (hsp he)
          · cases h
      · split at h
        · exact giveC_perm pg D rec n all ro l _ h
        · cases h
/-- the operations that draw their order -/
theorem headRun {c : Cx} {d : DR} (hcT : c.T = d.pg.T) (hok : PgOk c.P d.pg) (hv : VCS c d.pg d.D d.rc) (hn : d.n = c.n) (hms : d.ms = masksO [] d.all) (hdst : dstOk d.all = true) {F : List Blk} {ρ0 : Asg} {ds0 : List Deferred} (hgl : ρ0.gl) (hf0 : ρ0.free d.nx0) (h1000 : 1000 ≤ d.nx0) (hro : RdOk c.W c.S d.pg ρ0 d.ro F)
    {ps : List ND} (hps : NodesOk d ps) (hlen : ps.length ≤ d.all.length) (hM : ∀ i m, d.ms[i]? = some m → ∀ j, bitN' m j = true → j < i) (htail : ∀ i m, ps.length ≤ i → d.ms[i]? = some m → ∀ j, j < i → bitN' m j = true) {LS : List Blk} {Q : Exit → Act → World → Prop} {t : Nat}
    (hfin : ∀ L a w ρ LN LU, Inv c d F ρ0 ds0 ps L a w ρ LN LU LS → L.length = d.all.length → (∀ i, L.toArray.getD i false = true ↔ i < ps.length) → wpAnyIn c.F 0 c.P .any d.all.toArray Q t L.toArray a w) :
    ∀ (k : Nat) (R : List Nat) (L : List Bool) (a : Act) (w : World) (ρ : Asg) (LN LU : List Blk), R.length = k → Inv c d F ρ0 ds0 ps L a w ρ LN LU LS → Cl d.ms L → L.length = d.all.length → (∀ j, L.toArray.getD j false = true → j < ps.length) → R.Nodup → (∀ i, i ∈ R ↔ i < ps.length ∧ L.toArray.getD i false = false) →
      wpAnyIn c.F 0 c.P .any d.all.toArray Q (k + t) L.toArray a w := by
  intro k
  induction k with
  | zero =>
    intro R L a w ρ LN LU hR hinv hc hl hlt hnd hmem
    have hR0 : R = [] := List.length_eq_zero_iff.1 hR
    subst hR0
    rw [Nat.zero_add]
    refine hfin L a w ρ LN LU hinv hl fun i => ⟨hlt i, fun hi => ?_⟩
    cases h : L.toArray.getD i false with
    | true => rfl
    | false => have := (hmem i).2 ⟨hi, h⟩; simp at this
  | succ k ih =>
    intro R L a w ρ LN LU hR hinv hc hl hlt hnd hmem
    rw [show k + 1 + t = (k + t) + 1 by omega]
    -- the least that is not done
    have hex : ∃ i, i < ps.length ∧ L.toArray.getD i false = false ∧ ∀ j, j < i → L.toArray.getD j false = true := by
      have hx : ∃ i, i < ps.length ∧ L.toArray.getD i false = false := by
        cases R with
        | nil => simp at hR
        | cons i R => exact ⟨i, (hmem i).1 (by simp)⟩
      obtain ⟨i0, h0⟩ := hx
      have : ∀ n i, i < n → i < ps.length ∧ L.toArray.getD i false = false → ∃ i, i < ps.length ∧ L.toArray.getD i false = false ∧ ∀ j, j < i → L.toArray.getD j false = true := by
        intro n
        induction n with
        | zero => intro i h; omega
        | succ n ihn =>
          intro i hi hh
          by_cases hall : ∀ j, j < i → L.toArray.getD j false = true
          · exact ⟨i, hh.1, hh.2, hall⟩
          · simp only [Classical.not_forall] at hall
            obtain ⟨j, hj, hjf⟩ := hall
            exact ihn j (by omega) ⟨by omega, by simpa using hjf⟩
      exact this (i0 + 1) i0 (by omega) h0
    obtain ⟨i0, h1, h2, h3⟩ := hex
    refine ⟨fun h0 => ?_, fun i hi => ?_⟩
    · exfalso
      obtain ⟨A, p, B, o, m, rw, ro', md, r, e1, e2, e3, e4⟩ := hps.get h1
      have := ready_of hms (i := i0) (by rw [← e4]; exact e3.op) hl h2 (m := m) (by rw [← e4]; exact e3.msk) (fun j hj => h3 j (hM _ _ (by rw [← e4]; exact e3.msk) j hj))
      rw [h0] at this
      simp at this
    · obtain ⟨hun, o1, ho1, _⟩ := mem_ready.1 hi
      obtain ⟨hiL, hif⟩ := getD_tf hun
      have ho1 : d.all[i]? = some o1 := by simpa using ho1
      obtain ⟨mi, hmi⟩ : ∃ m, d.ms[i]? = some m := ⟨_, ms_get hms ho1⟩
      have hmk := ready_mask hms hc hi hmi
      have hih : i < ps.length := by
        rcases Nat.lt_or_ge i ps.length with h | h
        · exact h
        · have := hmk i0 (htail i mi h hmi i0 (by omega))
          rw [h2] at this
          cases this
      obtain ⟨A, p, B, o, m, rw, ro', md, r, e1, e2, e3, e4⟩ := hps.get hih
      subst e4
      have hmm := e3.msk
      rw [hmi] at hmm
      cases hmm
      subst e1
      simp only [wpOpIn]
      have hoA : d.all.toArray[p.i]? = some o := by simpa using e3.op
      rw [hoA]
      have := nodeStep (Q := Q) (K := wpAnyIn c.F 0 c.P .any d.all.toArray Q (k + t) (L.toArray.setIfInBounds p.i true)) hcT hok hv hn hdst hgl hf0 h1000 hro hps e3 hinv hc hlt hiL hif hmk ?_
      · exact this
      rintro a' w' ⟨ρ1, LN1, LU1, hinv1⟩
      have hset : L.toArray.setIfInBounds p.i true = (L.set p.i true).toArray := by simp
      rw [hset]
      have hiR : p.i ∈ R := (hmem _).2 ⟨hih, hif⟩
      refine ih (R.erase p.i) (L.set p.i true) a' w' ρ1 LN1 LU1 (by rw [List.length_erase_of_mem hiR]; omega) hinv1 ?_ (by simpa using hl) ?_ (hnd.erase _) ?_
      · intro j hj m' hm' j' hj'
        rw [getD_set hiL] at hj ⊢
        split
        · rfl
        · by_cases hjp : j = p.i
          · subst hjp
            rw [hmi] at hm'
            cases hm'
            exact hmk j' hj'
          · rw [if_neg hjp] at hj
            exact hc j hj m' hm' j' hj'
      · intro j hj
        rw [getD_set hiL] at hj
        by_cases hjp : j = p.i
        · rw [hjp]; exact hih
        · rw [if_neg hjp] at hj; exact hlt j hj
      · intro j
        rw [hnd.mem_erase_iff, hmem, getD_set hiL]
        by_cases hjp : j = p.i
        · subst hjp; simp
        · simp [hjp]
end Go.Y

namespace Go.Y
open Go Go.X
theorem rep_false {n i : Nat} : (List.replicate n false).toArray.getD i false = false := by
  simp only [Array.getD_eq_getD_getElem?, List.getElem?_toArray, List.getElem?_replicate]
  split <;> rfl
theorem takX_none {d : DR} {n : Nat} (p : ND) : keepB d (List.replicate n false) p = false := by
  cases h : keepB d (List.replicate n false) p with
  | false => rfl
  | true =>
    have := (keepB_iff.1 h).1
    rw [rep_false] at this
    cases this
theorem Kn0.drewn {W : World} {S : Nat → Prop} {H : List Blk} {w : World} (h : Kn0 W S H w) : Kn0 W S H { w with drawn := w.drawn + 1 } := Kn.drawn (ms := []) h
/-- drawn regions -/
theorem drawS {c : Cx} {pg : Pg} {D : List Nat} {rec : Rec} (hcT : c.T = pg.T) (hok : PgOk c.P pg) (hv : VCS c pg D rec) : DrawS c pg D rec := by
  intro rd fl bl all e ds s r h hrd ρ0 F L a w Q id hp ht hds hQ
  unfold drawC at h
  simp only at h
  have hgive : ∃ us sh, (match (match hasT fl with | false => .ok ([], s.rw) | true => giveC pg D rec c.n all fl s.ro all 0 e s.rw s.nx s.md s.rw [] : Rs (List (Nat × CH) × CH)) with
      | .no er => (.no (420 :: er) : Rs SR)
      | .ok (us, sh) => match nodesC pg D rec c.n all e s.ro sh fl bl us (masksO [] all) (takeL (headN 0 (masksO [] all) 0) all) 0 [] s.nx s.md with
        | .no er => .no er
        | .ok (ps, nx, md) => match dstOk all with
          | false => .no [421]
          | true => putsF ps e (fun e => frcH (joinD fl (masksO [] all) (headN 0 (masksO [] all) 0) s.nx ps sh) (fun rw => seqC pg D rec rd c.n all s.ro (dropL (headN 0 (masksO [] all) 0) all) e ds rw nx md))) = .ok r ∧
      (us.flatMap (·.2) ++ sh).Perm s.rw ∧ (match nodesC pg D rec c.n all e s.ro sh fl bl us (masksO [] all) (takeL (headN 0 (masksO [] all) 0) all) 0 [] s.nx s.md with
        | .no er => (.no er : Rs SR)
        | .ok (ps, nx, md) => match dstOk all with
          | false => .no [421]
          | true => putsF ps e (fun e => frcH (joinD fl (masksO [] all) (headN 0 (masksO [] all) 0) s.nx ps sh) (fun rw => seqC pg D rec rd c.n all s.ro (dropL (headN 0 (masksO [] all) 0) all) e ds rw nx md))) = .ok r := by
    cases hT : hasT fl with
    | false =>
      rw [hT] at h
      exact ⟨[], s.rw, h, .refl _, h⟩
    | true =>
      rw [hT] at h
      simp only at h ⊢
      cases hg : giveC pg D rec c.n all fl s.ro all 0 e s.rw s.nx s.md s.rw [] with
      | no er => rw [hg] at h; cases h
      | ok x =>
        obtain ⟨us, sh⟩ := x
        have hpm := giveC_perm pg D rec c.n all s.ro all fl hg
        rw [hg] at h
        simp only at h
        exact ⟨us, sh, h, by simpa using hpm, h⟩
  obtain ⟨us, sh, _, hperm, h⟩ := hgive
  split at h
  · cases h
  rename_i ps nx md hnodes
  split at h
  · cases h
  rename_i hdst
  rw [putsF_eq, frcH_eq] at h
  -- the parts
  let d : DR := ⟨pg, D, rec, c.n, all, e, s.ro, sh, fl, bl, us, masksO [] all, s.nx⟩
  have hmsl : (masksO [] all).length = all.length := ms_len (all := all) rfl
  obtain ⟨_, hh2, hh3⟩ := headN_spec (masksO [] all) 0 0 (Nat.le_refl _)
  rw [takeL_eq] at hnodes
  rw [dropL_eq] at h
  generalize hhd : headN 0 (masksO [] all) 0 = hd at *
  have hhl : hd ≤ all.length := by omega
  obtain ⟨hps, hpl, hnx⟩ := nodesC_s d (all.take hd) hnodes (fun j o hj => by
    rw [List.getElem?_take] at hj
    rw [Nat.zero_add]
    split at hj
    · exact hj
    · cases hj) .nil rfl rfl
  have hpl : ps.length = hd := by rw [hpl, List.length_take]; omega
  have htail : ∀ i m, ps.length ≤ i → (masksO [] all)[i]? = some m → ∀ j, j < i → bitN' m j = true := by
    intro i m hi hm j hj
    have := hh3 i m hm (by omega)
    rw [this, bitN'_eq, Nat.zero_add, Nat.testBit_two_pow_sub_one]
    simpa using hj
  have hM : ∀ i m, (masksO [] all)[i]? = some m → ∀ j, bitN' m j = true → j < i := by
    intro i m hm j hj
    rcases Nat.lt_or_ge i ps.length with h1 | h1
    · obtain ⟨A, p, B, o, m', rw, ro', md', r', e1, e2, e3, e4⟩ := hps.get h1
      subst e4
      have h5 : d.ms[p.i]? = some m := hm
      rw [e3.msk] at h5
      cases h5
      exact bit_lt e3.lt hj
    · have := hh3 i m hm (by omega)
      rw [this, bitN'_eq, Nat.zero_add, Nat.testBit_two_pow_sub_one] at hj
      simpa using hj
  obtain ⟨LL, hl1, hl2⟩ := hb_perm hperm.symm hp.rw
  obtain ⟨LU, LS, hl3, hl4, rfl⟩ := hb_split hl1
  have hfuel : all.toArray.size = ps.length + (all.drop hd).length := by simp; omega
  refine wpIn_region_any hok.mixed ?_
  rw [hfuel]
  have hrep : Array.replicate (ps.length + (all.drop hd).length) false = (List.replicate all.length false).toArray := by
    rw [List.toArray_replicate]
    congr 1
    simp; omega
  rw [hrep]
  have hcutgl : ∀ {ρ : Asg}, Asg.leN s.nx ρ0 ρ → ρ0.le (ρ.cut nx) := fun hlo => Asg.le_cut hp.free hlo (by rw [hnx]; exact (hps.nxle).2)
  refine headRun (d := d) (F := F) (ρ0 := ρ0) (ds0 := a.defers) (LS := LS) hcT hok hv rfl rfl hdst hp.gl hp.free hp.nx hp.ro hps (by show ps.length ≤ all.length; omega) hM htail ?_ ps.length (List.range ps.length) (List.replicate all.length false) a _ ρ0 [] LU (by simp) ?_ ?_ (by simp; rfl) ?_ List.nodup_range ?_
  · intro L1 a1 w1 ρ1 LN1 LU1 hinv hL1 hall
    obtain ⟨h1, LJ, h2, h3⟩ := hinv.fin hps hp.free hall
    have hnx' : nxO d.nx0 ps = nx := hnx.symm
    rw [hnx', hpl] at h2
    rw [hnx'] at h1
    have hle := hcutgl hinv.lo
    refine anyOfList rfl hM (all.drop hd) hd L1 a1 w1 rfl hL1 (fun i _ => ?_) (fun j m hj => htail j m (by omega)) ?_
    · cases hb : L1.toArray.getD i false with
      | true => have := (hall i).1 hb; rw [hpl] at this; simp [this]
      | false =>
        have : ¬ i < hd := fun hi => by rw [(hall i).2 (by omega)] at hb; cases hb
        simp [this]
    · have hnn := (hps.nxle).2
      rw [hnx'] at hnn
      refine seqC_s hcT hok hv hrd (all.drop hd) h (ρ1.cut nx) F LJ a1 w1 Q ⟨hp.gl.mono hle, ρ1.cut_free nx, Nat.le_trans hp.nx hnn, hp.ro.mono hle, h2, h3⟩ h1 ?_ ?_
      · rw [hinv.dfr]; exact hds.mono hle
      · intro ρ' L' a' w' hpost
        refine hQ ρ' L' a' w' (hpost.tran ⟨hle, fun j hj => ?_⟩ hnn)
        have : (ρ1.cut nx) j = ρ1 j := by
          unfold Asg.cut
          rw [if_pos (Nat.lt_of_lt_of_le hj hnn)]
        rw [this]
        exact hinv.lo.2 j hj
  · refine ⟨.refl ρ0, fun j x hj hj0 => ?_, ht.1, rfl, fun t y _ hy => ht.2 t y hy, fun p _ hpd => ?_, ?_, ?_, hl4, ?_⟩
    · rw [hp.free j hj0] at hj; cases hj
    · rw [rep_false] at hpd; cases hpd
    · rw [List.filter_eq_nil_iff.2 (fun p _ => by rw [takX_none]; simp)]
      rfl
    · have : restU (List.replicate all.length false) us = us.flatMap (·.2) := by
        unfold restU
        rw [List.filter_eq_self.2]
        intro u _
        rw [rep_false]
        rfl
      show hb pg ρ0 (restU (List.replicate all.length false) us) = some LU
      rw [this]
      exact hl3
    · refine Kn0.drewn (Kn0.hsub hp.k ?_)
      have := HSub.app2 (HSub.perm hl2) (HSub.refl F)
      simpa only [List.append_assoc, List.nil_append] using this
  · intro i hi
    rw [rep_false] at hi
    cases hi
  · intro j hj
    rw [rep_false] at hj
    cases hj
  · intro i
    rw [rep_false]
    simp
end Go.Y

namespace Go.Y
open Go Go.X
section
variable {P : Program} {T : TR} {W : World} {S : Nat → Prop} {hT : TOk P T} {pg : Pg} {D : List Nat}
/-- the evaluator's run is the program's -/
theorem evC_s (hcT : T = pg.T) (hok : PgOk P pg) (hD : DOk P D) : ∀ fuel, RecS P T W S hT pg (evC pg D fuel)
  | 0 => by
    intro fc x e ds s r _ h
    cases (show (Rs.no [1] : Rs CR) = .ok r from h)
  | fuel + 1 => by
    have ih := evC_s hcT hok hD fuel
    exact codeC_s (rec := evC pg D fuel) hcT hok hD (fun n cr => drawS hcT hok (vcs hcT hok hD ih n cr)) ih
end
end Go.Y

namespace Go.Y
open Go Go.X
/-- the package's variables -/
def Asg.g0 : Asg := fun g => if g < 1000 then some ⟨some (g, 0), 1⟩ else none
/-- a package variable's cells, in a world -/
def GOk (w : World) (pg : Pg) (gh : CH) : Prop := ∀ p ∈ gh, ∃ A T, p.2.ass pg Asg.g0 p.1 = some A ∧ A.holds w T ∧ ∀ k, T k → k < w.heap.size
theorem runC_s {P : Program} {T : TR} (hT : TOk P T) {pg : Pg} {D : List Nat} (hcT : T = pg.T) (hok : PgOk P pg) (hD : DOk P D) {fuel : Nat} {f : Nat} {args : List CV} {vals : List Value} {gh : CH} {w : World} (hg : GOk w pg gh) {r : O2} {x : Value}
    (hv : valL Asg.g0 args = some vals) (h : runC pg D fuel f args ⟨[], [gh], 1000, []⟩ = .ok r) (hx : r.v = .v x) : Pu P f vals.toArray w x := by
  have hfree : Asg.g0.free 1000 := fun i hi => by
    unfold Asg.g0
    rw [if_neg (by omega)]
  have hk : Kn0 w (fun _ => False) ([] ++ []) w := ⟨rfl, rfl, rfl, Nat.le_refl _, fun _ _ _ => rfl, fun _ => False, .nil, fun _ h => h.elim⟩
  have hro : RdOk w (fun _ => False) pg Asg.g0 [gh] [] := by
    intro g hgm p hp
    rcases List.mem_singleton.1 hgm with rfl
    obtain ⟨A, T', h1, h2, h3⟩ := hg p hp
    refine ⟨A, h1, fun L w' hk' => ⟨T', A.loc _ _ _ (fun k hkk => hk'.old k (h3 k hkk) (fun h => h)) h2, fun k hkk => Nat.lt_of_lt_of_le (h3 k hkk) hk'.size⟩⟩
  have hct := callC_s (hT := hT) (W := w) (S := fun _ => False) (n := 0) (cr := none) (F := []) (L := []) (ρ := Asg.g0) (w := w) hcT hok hD (evC_s hcT hok hD fuel) h
    ⟨fun g hgg => by unfold Asg.g0; rw [if_pos hgg], hfree, Nat.le_refl _, hro, rfl, hk⟩ hv
  unfold Pu X.CT at *
  refine ⟨hct.1, hct.2.mono ?_⟩
  rintro e w' ⟨v, rfl, ρ', L', hpost⟩
  have hvx := hpost.v
  rw [hx] at hvx
  cases hvx
  refine ⟨rfl, ?_⟩
  have hk' := hpost.k
  exact ⟨hk'.os, hk'.tape, hk'.output, hk'.size, fun k hkk => hk'.old k hkk (fun h => h)⟩
end Go.Y

namespace Go.Y
open Go Go.X
/-- every type of a table is as p asks -/
noncomputable def allT (p : Nat → TI → Bool) (T : TR) : Bool := @TR.rec (fun _ => Bool) true (fun _ k v _ a b => match p k v with | true => (match a with | true => b | false => false) | false => false) T
theorem allT_node (p : Nat → TI → Bool) (l : TR) (k : Nat) (v : TI) (r : TR) : allT p (.node l k v r) = (match p k v with | true => (match allT p l with | true => allT p r | false => false) | false => false) := rfl
theorem allT_spec {p : Nat → TI → Bool} : ∀ {T : TR}, allT p T = true → ∀ {t : Nat} {i : TI}, T.get t = some i → p t i = true
  | .leaf, _, t, i, h => by cases h
  | .node l k v r, ha, t, i, h => by
    rw [allT_node] at ha
    split at ha
    rotate_left
    · cases ha
    rename_i h1
    split at ha
    rotate_left
    · cases ha
    rename_i h2
    simp only [TR.get] at h
    cases h3 : Nat.blt t k with
    | true => rw [h3] at h; exact allT_spec h2 h
    | false =>
      rw [h3] at h
      cases h4 : Nat.beq t k with
      | true =>
        rw [h4] at h
        simp only [cond_true, cond_false, Option.some.injEq] at h
        subst h
        rw [Nat.eq_of_beq_eq_true h4]
        exact h1
      | false => rw [h4] at h; exact allT_spec ha h
def zeroB (i : TI) : Bool := Nat.beq i.zero.cells.size i.size
theorem zero_of {T : TR} (h : allT (fun _ i => zeroB i) T = true) : ∀ t i, getT T t = some i → i.zero.cells.size = i.size := fun t i hi => by
  rw [getT_eq] at hi
  exact Nat.eq_of_beq_eq_true (allT_spec h hi)
/-- the table of functions, one after the other -/
inductive FOk (P : Program) : FT → Prop
  | leaf : FOk P .leaf
  | node {l r : FT} {k : Nat} {v : FI} (hl : FOk P l) (h : ∃ fn, P.funcs[k]? = some fn ∧ fn.body = some v.body ∧ fn.ntmps = v.n ∧ fn.results.toList = v.rs ∧ (fn.name == "runtime.NumGoroutine") = false) (hr : FOk P r) : FOk P (.node l k v r)
theorem FT.get_node (l : FT) (k : Nat) (v : FI) (r : FT) (t : Nat) : (FT.node l k v r).get t = (match Nat.blt t k with
    | true => l.get t
    | false => match Nat.beq k t with
      | true => some v
      | false => r.get t) := rfl
theorem FOk.get {P : Program} : ∀ {F : FT} (_ : FOk P F) {f : Nat} {fi : FI}, F.get f = some fi → ∃ fn, P.funcs[f]? = some fn ∧ fn.body = some fi.body ∧ fn.ntmps = fi.n ∧ fn.results.toList = fi.rs ∧ (fn.name == "runtime.NumGoroutine") = false
  | .leaf, _, f, fi, h => by cases (show (none : Option FI) = some fi from h)
  | .node l k v r, h, f, fi, hg => by
    cases h with
    | node hl hh hr =>
      rw [FT.get_node] at hg
      split at hg
      · exact FOk.get hl hg
      · split at hg
        · rename_i hb
          cases hg
          rw [← Nat.eq_of_beq_eq_true hb]
          exact hh
        · exact FOk.get hr hg
end Go.Y

namespace Go.Y
open Go Go.X
theorem extK_cons (h : Nat) (p : Nat × Nat) (l : List (Nat × Nat)) : extK h (p :: l) = (match Nat.beq p.1 h with | true => some p.2 | false => extK h l) := rfl
theorem extK_mem {h k : Nat} : ∀ {l : List (Nat × Nat)}, extK h l = some k → (h, k) ∈ l
  | [], e => by cases (show (none : Option Nat) = some k from e)
  | p :: l, e => by
    rw [extK_cons] at e
    split at e
    · rename_i hb
      cases e
      rw [← Nat.eq_of_beq_eq_true hb]
      exact List.mem_cons_self
    · exact List.mem_cons_of_mem _ (extK_mem e)
theorem LaidVars_find {P : Program} {w : World} : ∀ {l : List (String × DataW Unit)} {ps : List MemPlace}, DataW.LaidVars P w l ps → ∀ n d, (n, d) ∈ l →
    ∃ g t cs fuel p, P.globalNamed n = some g ∧ (P.globals[g]?).map (·.type) = some t ∧ w.var? P n = some cs ∧ DataW.trod (fun _ => ()) P w 0 (fun _ => true) false fuel t cs.toList = some (d, p) ∧ ∀ i, i < cs.size → MemPlace.cell g i ∈ ps
  | [], _, _, _, _, hm => by cases hm
  | (n', d') :: r, ps, h, n, d, hm => by
    obtain ⟨g, t, cs, fuel, p, q, h1, h2, h3, h4, h5, rfl⟩ := h
    rcases List.mem_cons.1 hm with e | e
    · cases e
      refine ⟨g, t, cs, fuel, p, h1, h2, h3, h4, fun i hi => ?_⟩
      simp only [List.mem_append]
      refine .inl (.inl ?_)
      unfold MemPlace.row
      exact List.mem_map.2 ⟨i, List.mem_range.2 hi, by simp⟩
    · obtain ⟨g', t', cs', fuel', p', a1, a2, a3, a4, a5⟩ := LaidVars_find h5 n d e
      exact ⟨g', t', cs', fuel', p', a1, a2, a3, a4, fun i hi => by simp [a5 i hi]⟩
/-- a laid array of integers -/
theorem laid_ints {P : Program} {w : World} {l : List (String × DataW Unit)} (h : laidMet P l w) {n : String} {zs : List Int} {k : IntKind} (hm : (n, DataW.agg (zs.map fun z => .lit (.int k z))) ∈ l) {g t e : Nat} (hg : P.globalNamed n = some g) (ht : (P.globals[g]?).map (·.type) = some t)
    (hu : P.underlying t = some (.array zs.length e)) (he : P.underlying e = some (.int k)) (hc : P.cellsOf e = 1) (hct : P.cellsOf t = zs.length) (hz : 0 < zs.length) : ∃ t', w.heap[g]? = some (.cells (zs.map (Value.int k)).toArray t' (0, 0)) := by
  obtain ⟨ps, hv, _, hcells⟩ := h
  obtain ⟨g', t1, cs, fuel, p, h1, h2, h3, h4, h5⟩ := LaidVars_find hv n _ hm
  obtain rfl : g' = g := Option.some.inj (h1.symm.trans hg)
  obtain rfl : t1 = t := Option.some.inj (h2.symm.trans ht)
  obtain ⟨xs, m, rfl, hx, hl, hxl, hall⟩ := DataW.trod_array hu h4
  rw [hct] at hl
  rw [hc] at hall
  have hx1 : xs.map (·.1) = zs.map fun z => (DataW.lit (.int k z) : DataW Unit) := by
    have := congrArg Prod.fst hx
    simpa using this.symm
  have hcs : cs.toList = zs.map (Value.int k) := by
    apply List.ext_getElem?
    intro i
    by_cases hi : i < zs.length
    · have hxi : i < xs.length := by omega
      have h6 := hall i hi
      rw [List.getElem?_eq_getElem hxi] at h6
      obtain ⟨z, g1, g2, _⟩ := DataW.trod_int he h6
      have h7 : (xs.map (·.1))[i]? = some (.lit (.int k z)) := by rw [List.getElem?_map, List.getElem?_eq_getElem hxi, g2]; rfl
      rw [hx1, List.getElem?_map, List.getElem?_eq_getElem hi] at h7
      simp only [Option.map_some, Option.some.injEq, DataW.lit.injEq, Lit.int.injEq, true_and] at h7
      have h8 : ((cs.toList.drop (i * 1)).take 1)[0]? = some (.int k z) := by rw [g1]; rfl
      rw [List.getElem?_take, if_pos (by omega), List.getElem?_drop] at h8
      simp only [Nat.mul_one, Nat.add_zero] at h8
      rw [h8, List.getElem?_map, List.getElem?_eq_getElem hi, Option.map_some, h7]
    · rw [List.getElem?_eq_none (by omega), List.getElem?_eq_none (by simp; omega)]
  obtain ⟨⟨c, t', h6⟩, _⟩ := hcells g' 0 (h5 0 (by rw [← Array.length_toList, hl]; exact hz))
  unfold World.var? at h3
  rw [hg] at h3
  simp only [Option.bind_some, h6, Option.some.injEq] at h3
  refine ⟨t', ?_⟩
  rw [h6, h3, ← hcs]
/-- a package variable that is an array of integers -/
theorem GOk.ints {w : World} {pg : Pg} {g t' : Nat} {k : IntKind} {zs : List Int} (hlt : g < 1000) (h : w.heap[g]? = some (.cells (zs.map (Value.int k)).toArray t' (0, 0))) :
    ∃ A T, (CB.cells t' zs.length 1 none (zs.map fun z => CV.v (.int k z))).ass pg Asg.g0 g = some A ∧ A.holds w T ∧ ∀ j, T j → j < w.heap.size := by
  have hr : Asg.g0 g = some ⟨some (g, 0), 1⟩ := if_pos hlt
  have hv : valL Asg.g0 (zs.map fun z => CV.v (.int k z)) = some (zs.map (Value.int k)) := by
    clear h
    induction zs with
    | nil => rfl
    | cons z zs ih => simp only [List.map_cons, valL, val, ih]
  refine ⟨_, fun j => j = g, ass_mk hr hv rfl, .inr ⟨g, rfl, [], [], (0, 0), rfl, by simpa using h, by simp, Nat.le_refl _, by simp, fun h => absurd rfl h⟩, ?_⟩
  rintro j rfl
  exact (Array.getElem?_eq_some_iff.1 h).1
theorem GOk.glob {w : World} {pg : Pg} {g t' : Nat} {fr : Nat × Nat} {cs : List CV} {vs : List Value} (hlt : g < 1000) (hv : valL Asg.g0 cs = some vs) (h : w.heap[g]? = some (.cells vs.toArray t' fr)) :
    ∃ A T, (CB.glob cs).ass pg Asg.g0 g = some A ∧ A.holds w T ∧ ∀ j, T j → j < w.heap.size := by
  have hr : Asg.g0 g = some ⟨some (g, 0), 1⟩ := if_pos hlt
  refine ⟨GlA (RV.a ⟨some (g, 0), 1⟩) vs, fun j => j = g, by simp [CB.ass, hr, hv], ⟨g, rfl, rfl, t', fr, h⟩, ?_⟩
  rintro j rfl
  exact (Array.getElem?_eq_some_iff.1 h).1
end Go.Y

namespace Go.Y
open Go Go.X
theorem str_of_utf8 {a b : String} (h : a.toUTF8.data.toList = b.toUTF8.data.toList) : a = b := by
  have h1 : a.toUTF8 = b.toUTF8 := by
    have h2 : a.toUTF8.data = b.toUTF8.data := Array.toList_inj.1 h
    cases h3 : a.toUTF8
    cases h4 : b.toUTF8
    rw [h3, h4] at h2
    exact congrArg ByteArray.mk h2
  exact String.toByteArray_inj.1 h1
inductive ZipFn (P : Program) : List (DataW Unit) → List Value → Prop
  | nil : ZipFn P [] []
  | z {ds : List (DataW Unit)} {vs : List Value} (h : ZipFn P ds vs) : ZipFn P (.nil :: ds) (.nilFunc :: vs)
  | f {ds : List (DataW Unit)} {vs : List Value} {b : UInt8} {r : List UInt8} {f : Nat} (s : String) (hs : s.toUTF8.data.toList = b :: r) (hf : P.funcNamed s = some f) (h : ZipFn P ds vs) : ZipFn P (.iface "func" (.lit (.string (b :: r))) :: ds) (.func (.func f) #[] #[] :: vs)
theorem funcsOutAll_eq : ∀ (l : List (DataW Unit)), DataW.funcsOutAll l = l.map DataW.funcsOut
  | [] => by simp [DataW.funcsOutAll]
  | d :: r => by simp [DataW.funcsOutAll, funcsOutAll_eq r]
theorem zip_cells {P : Program} {w : World} {e : TypeId} {ps rs : Array TypeId} {vd : Bool} (he : P.underlying e = some (.func ps rs vd)) : ∀ {ds : List (DataW Unit)} {vs : List Value}, ZipFn P ds vs → ∀ {cs : List Value}, cs.length = ds.length →
    (∀ i, i < ds.length → ∃ m p, DataW.trod (funcToken P) P w 0 (fun _ => true) true m e ((cs.drop i).take 1) = some ((ds.map DataW.funcsOut)[i]?.getD .nil, p)) → cs = vs
  | _, _, .nil, cs, hl, _ => List.length_eq_zero_iff.1 hl
  | _, _, .z (ds := ds) h, cs, hl, hh => by
    cases cs with
    | nil => simp at hl
    | cons c cs =>
      have h1 : cs = _ := zip_cells he h (by simpa using hl) fun i hi => by
        obtain ⟨m, p, h2⟩ := hh (i + 1) (by simpa using hi)
        exact ⟨m, p, by simpa using h2⟩
      obtain ⟨m, p, h2⟩ := hh 0 (by simp)
      simp only [List.drop_zero, List.take_succ_cons, List.take_zero, List.map_cons, List.getElem?_cons_zero, Option.getD_some] at h2
      rw [h1]
      congr 1
      cases m with
      | zero => simp [DataW.trod] at h2
      | succ m =>
        simp only [DataW.trod, he] at h2
        cases c <;> simp_all [DataW.funcsOut]
  | _, _, .f (ds := ds) (b := b0) (r := r0) s hs hf h, cs, hl, hh => by
    cases cs with
    | nil => simp at hl
    | cons c cs =>
      have h1 : cs = _ := zip_cells he h (by simpa using hl) fun i hi => by
        obtain ⟨m, p, h2⟩ := hh (i + 1) (by simpa using hi)
        exact ⟨m, p, by simpa using h2⟩
      obtain ⟨m, p, h2⟩ := hh 0 (by simp)
      simp only [List.drop_zero, List.take_succ_cons, List.take_zero, List.map_cons, List.getElem?_cons_zero, Option.getD_some] at h2
      rw [h1]
      congr 1
      cases m with
      | zero => simp [DataW.trod] at h2
      | succ m =>
        simp only [DataW.trod, he] at h2
        have e1 : (DataW.funcsOut (.iface "func" (.lit (.string (b0 :: r0)))) : DataW (List UInt8)) = .held (b0 :: r0) := by simp [DataW.funcsOut]
        rw [e1] at h2
        cases c with
        | func fn first cap =>
          simp only [if_true, Option.some.injEq, Prod.mk.injEq, DataW.held.injEq] at h2
          obtain ⟨f', fn', g1, g2, g3, g4⟩ := funcToken_tells h2.1
          have : fn'.name = s := str_of_utf8 (by rw [g4, hs])
          rw [this, hf] at g3
          cases g3
          exact g1
        | _ => simp at h2
/-- a laid array of functions -/
theorem laid_fns {P : Program} {w : World} {l : List (String × DataW Unit)} (h : laidMetH P l w) {n : String} {ds : List (DataW Unit)} (hm : (n, DataW.iface "func table" (.agg ds)) ∈ l) {g t e : Nat} (hg : P.globalNamed n = some g) (ht : (P.globals[g]?).map (·.type) = some t)
    (hu : P.underlying t = some (.array ds.length e)) {ps rs : Array TypeId} {vd : Bool} (he : P.underlying e = some (.func ps rs vd)) (hc : P.cellsOf e = 1) (hct : P.cellsOf t = ds.length) {vs : List Value} (hz : ZipFn P ds vs) : ∃ t' fr, w.heap[g]? = some (.cells vs.toArray t' fr) := by
  obtain ⟨g', t1, cs, fuel, p, h1, h2, h3, h4⟩ := laidMetH.funcs h hm
  obtain rfl : g' = g := Option.some.inj (h1.symm.trans hg)
  obtain rfl : t1 = t := Option.some.inj (h2.symm.trans ht)
  obtain ⟨xs, m, rfl, hx, hl, hxl, hall⟩ := DataW.trod_array hu h4
  rw [hct] at hl
  rw [hc] at hall
  have hx1 : xs.map (·.1) = ds.map DataW.funcsOut := by
    have := congrArg Prod.fst hx
    simp only [DataW.funcsOut, funcsOutAll_eq, DataW.agg.injEq] at this
    exact this.symm
  have hcs : cs.toList = vs := zip_cells he hz hl fun i hi => by
    have h6 := hall i hi
    have hxi : i < xs.length := by omega
    rw [List.getElem?_eq_getElem hxi, Nat.mul_one] at h6
    refine ⟨m, xs[i].2, ?_⟩
    rw [h6, ← hx1, List.getElem?_map, List.getElem?_eq_getElem hxi]
    rfl
  unfold World.var? at h3
  rw [hg] at h3
  simp only [Option.bind_some] at h3
  split at h3
  · rename_i cs' t' fr hh
    cases h3
    exact ⟨t', fr, by rw [hh, ← hcs]⟩
  · cases h3
end Go.Y

namespace Go.Y
open Go Go.X
theorem runC_v {P : Program} {T : TR} (hT : TOk P T) {pg : Pg} {D : List Nat} (hcT : T = pg.T) (hok : PgOk P pg) (hD : DOk P D) {fuel : Nat} {f : Nat} {args : List CV} {vals : List Value} {gh : CH} {w : World} (hg : GOk w pg gh) {r : O2} {x : Value}
    (hv : valL Asg.g0 args = some vals) (h : runC pg D fuel f args ⟨[], [gh], 1000, []⟩ = .ok r) (hx : val (fun _ => none) r.v = some x) : Pu P f vals.toArray w x := by
  have hfree : Asg.g0.free 1000 := fun i hi => by
    unfold Asg.g0
    rw [if_neg (by omega)]
  have hk : Kn0 w (fun _ => False) ([] ++ []) w := ⟨rfl, rfl, rfl, Nat.le_refl _, fun _ _ _ => rfl, fun _ => False, .nil, fun _ h => h.elim⟩
  have hro : RdOk w (fun _ => False) pg Asg.g0 [gh] [] := by
    intro g hgm p hp
    rcases List.mem_singleton.1 hgm with rfl
    obtain ⟨A, T', h1, h2, h3⟩ := hg p hp
    refine ⟨A, h1, fun L w' hk' => ⟨T', A.loc _ _ _ (fun k hkk => hk'.old k (h3 k hkk) (fun h => h)) h2, fun k hkk => Nat.lt_of_lt_of_le (h3 k hkk) hk'.size⟩⟩
  have hct := callC_s (hT := hT) (W := w) (S := fun _ => False) (n := 0) (cr := none) (F := []) (L := []) (ρ := Asg.g0) (w := w) hcT hok hD (evC_s hcT hok hD fuel) h
    ⟨fun g hgg => by unfold Asg.g0; rw [if_pos hgg], hfree, Nat.le_refl _, hro, rfl, hk⟩ hv
  unfold Pu X.CT at *
  refine ⟨hct.1, hct.2.mono ?_⟩
  rintro e w' ⟨v, rfl, ρ', L', hpost⟩
  have hvx := hpost.v
  rw [val_mono (ρ' := ρ') (fun j r h => by cases h) hx] at hvx
  cases hvx
  refine ⟨rfl, ?_⟩
  have hk' := hpost.k
  exact ⟨hk'.os, hk'.tape, hk'.output, hk'.size, fun k hkk => hk'.old k hkk (fun h => h)⟩
/-- the value that a run gives, if it is free of memory -/
noncomputable def outV : Rs O2 → Option Value
  | .ok r => val (fun _ => none) r.v
  | .no _ => none
/-- a closed run is what the program does -/
theorem runV {P : Program} {T : TR} (hT : TOk P T) {pg : Pg} {D : List Nat} (hcT : T = pg.T) (hok : PgOk P pg) (hD : DOk P D) {fuel : Nat} {f : Nat} {args : List CV} {vals : List Value} {gh : CH} {w : World} (hg : GOk w pg gh) {v : Value}
    (hv : valL Asg.g0 args = some vals) (h : outV (runC pg D fuel f args ⟨[], [gh], 1000, []⟩) = some v) : Pu P f vals.toArray w v := by
  cases hr : runC pg D fuel f args ⟨[], [gh], 1000, []⟩ with
  | no e => rw [hr] at h; cases h
  | ok r =>
    rw [hr] at h
    exact runC_v hT hcT hok hD hg hv hr h
end Go.Y
