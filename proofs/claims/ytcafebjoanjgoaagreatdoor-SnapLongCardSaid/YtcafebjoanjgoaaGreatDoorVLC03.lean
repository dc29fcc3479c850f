/- Lemmas for the claim (part 3); no condition of its own. -/
import Derived.Test.YtcafebjoanjgoaaGreatDoorVLC02
import Derived.Laws.MakeOwn
import Derived.Lib.AppendZerosOnto
set_option linter.all false
set_option linter.unusedVariables false
set_option linter.unusedSimpArgs false
set_option linter.unnecessarySimpa false
namespace Go.Y
open Go Go.X
section
variable {c : Cx} {pg : Pg} (hcT : c.T = pg.T) {o : Oper} {e : Look} {s : Sn} {r : O2}
include hcT
theorem opMakeSlice_s (hz : ∀ t i, getT pg.T t = some i → i.zero.cells.size = i.size) {t : Nat} {x y : Operand} (ho : o.op = .makeSlice t x y) (h : opMakeSlice pg e s t x y = .ok r) : OpS c pg o e s r := by
  unfold opMakeSlice at h
  split at h
  · rename_i i l cc hi hl hc
    have hti := getT_ok hcT hi
    split at h
    · rename_i el m n hd hm hn
      obtain ⟨q, rfl⟩ := natC_ok hm
      obtain ⟨q', rfl⟩ := natC_ok hn
      split at h
      · rename_i j hj hle
        have hji := getT_ok hcT hj
        have hzl := hz el j hj
        split at h
        · cases h
        · rename_i hb
          rw [nble, decide_eq_true_eq] at hle hb
          refine OpS.run (by rw [ho]; intro cl e; cases e) fun ρ F L a w hp ht => ?_
          have e1 := (Option.some.inj (opdC_spec hp.gl ht hl)).symm
          have e2 := (Option.some.inj (opdC_spec hp.gl ht hc)).symm
          obtain ⟨ρ', L', hpost⟩ := newSl_post hp h (rep_cells hzl _) (by simp)
          refine ⟨ρ', _, L', _, ?_, hpost⟩
          obtain ⟨inf, hi1, hi2, hi3, hi4⟩ := info_of hji
          have hu := hti.1
          rw [hd] at hu
          have hbb : j.bytes * n ≤ 16777216 := by
            have : n * (j.bytes + 1) = j.bytes * n + n := by rw [Nat.mul_add, Nat.mul_one, Nat.mul_comm]
            omega
          have hbn : n ≤ 16777216 := by
            have : n * (j.bytes + 1) = j.bytes * n + n := by rw [Nat.mul_add, Nat.mul_one, Nat.mul_comm]
            omega
          have hr := run_make (P := c.P) w t el inf j.zero hu hi1 hi4 q q' (.ofNat m) (.ofNat n) (by simp) (by simp; exact hle) (by
            rw [hi3]
            have : (j.bytes : Int) * (n : Int) = ((j.bytes * n : Nat) : Int) := by simp
            simp only [Int.ofNat_eq_natCast]
            omega) (by simp; omega)
          simp only [Int.ofNat_eq_natCast, Int.toNat_natCast] at hr
          simp only [execOp, ho, e1, e2, Int.ofNat_eq_natCast, Sem.run_bind, hr]
          simp [madeCells, hi2]
          congr 2
          apply Array.ext'
          simp
      · cases h
    · cases h
  · cases h
omit hcT in
theorem bndC_ok {ρ : Asg} {n : Nat} {a : Act} (hg : ρ.gl) (ht : okT ρ n e a.tmps) {x : Option Operand} {d m : Nat} (h : bndC e x d = some m) : (x = none ∧ m = d) ∨ ∃ y q, x = some y ∧ a.eval y = .int q (.ofNat m) := by
  unfold bndC at h
  split at h
  · cases h; exact .inl ⟨rfl, rfl⟩
  · rename_i y
    split at h
    · rename_i z hz
      obtain ⟨q, rfl⟩ := natC_ok h
      exact .inr ⟨y, q, rfl, (Option.some.inj (opdC_spec hg ht hz)).symm⟩
    · cases h
omit hcT in
theorem run_bnds {a : Act} {lo hi mx : Option Operand} {len cap l u m : Nat} {sl : Bool} (P : Program) (w : World) (hl : (lo = none ∧ l = 0) ∨ ∃ y q, lo = some y ∧ a.eval y = .int q (.ofNat l)) (hh : (hi = none ∧ mx = none ∧ u = len) ∨ ∃ y q, hi = some y ∧ a.eval y = .int q (.ofNat u))
    (hm : (mx = none ∧ m = cap) ∨ ∃ y q, mx = some y ∧ a.eval y = .int q (.ofNat m)) (h1 : l ≤ u) (h2 : u ≤ m) (h3 : m ≤ cap) : (Instr.sliceBounds sl len cap (lo.map a.eval) (hi.map a.eval) (mx.map a.eval)).run P w = .ok (l, u, m) w := by
  unfold Instr.sliceBounds
  rcases hm with ⟨rfl, rfl⟩ | ⟨ym, qm, rfl, em⟩
  · rcases hh with ⟨rfl, _, rfl⟩ | ⟨yh, qh, rfl, eh⟩
    · rcases hl with ⟨rfl, rfl⟩ | ⟨yl, ql, rfl, el⟩
      · simp
      · simp [el, Instr.sliceBound, asIntOf, h1]
    · rcases hl with ⟨rfl, rfl⟩ | ⟨yl, ql, rfl, el⟩
      · simp [eh, Instr.sliceBound, asIntOf, h2]
      · simp [el, eh, Instr.sliceBound, asIntOf, h1, h2]
  · rcases hh with ⟨_, hmx, _⟩ | ⟨yh, qh, rfl, eh⟩
    · cases hmx
    · rcases hl with ⟨rfl, rfl⟩ | ⟨yl, ql, rfl, el⟩
      · simp [em, eh, Instr.sliceBound, asIntOf, h2, h3]
      · simp [em, el, eh, Instr.sliceBound, asIntOf, h1, h2, h3]
omit hcT in
theorem bndM_ok {ρ : Asg} {n : Nat} {a : Act} (hg : ρ.gl) (ht : okT ρ n e a.tmps) {x : Option Operand} {m : Option Nat} (h : bndM e x = some m) : (x = none ∧ m = none) ∨ ∃ y q k, x = some y ∧ m = some k ∧ a.eval y = .int q (.ofNat k) := by
  unfold bndM at h
  split at h
  · cases h; exact .inl ⟨rfl, rfl⟩
  · rename_i y
    split at h
    · rename_i k hk
      cases h
      rcases bndC_ok hg ht hk with ⟨h, _⟩ | ⟨y', q, h1, h2⟩
      · cases h
      · cases h1; exact .inr ⟨_, q, k, rfl, rfl, h2⟩
    · cases h
omit hcT in
theorem bnds_ok {ρ : Asg} {n : Nat} {a : Act} (hg : ρ.gl) (ht : okT ρ n e a.tmps) {hi mx : Option Operand} {m : Option Nat} {d u cap : Nat} (hm : bndM e mx = some m) (hho : hiOk hi mx = true) (hu : bndC e hi d = some u) :
    ((hi = none ∧ mx = none ∧ u = d) ∨ ∃ y q, hi = some y ∧ a.eval y = .int q (.ofNat u)) ∧ ((mx = none ∧ m = none) ∨ ∃ y q k, mx = some y ∧ m = some k ∧ a.eval y = .int q (.ofNat k)) := by
  refine ⟨?_, bndM_ok hg ht hm⟩
  rcases bndC_ok hg ht hu with ⟨h1, h2⟩ | h
  · cases mx with
    | none => exact .inl ⟨h1, rfl, h2⟩
    | some y => subst h1; cases hho
  · exact .inr h
omit hcT in
theorem val_se_inv {ρ : Asg} {i : Nat} {cap : Option Nat} {v : Value} (h : val ρ (.se i cap) = some v) : ∃ q, ρ i = some q ∧ v = .slice q.a 0 (capO cap q.cap) := by
  simp only [val] at h
  cases h1 : ρ i with
  | none => rw [h1] at h; cases h
  | some q => rw [h1] at h; cases cap <;> exact ⟨q, rfl, (Option.some.inj h).symm⟩
omit hcT in
theorem run_slc {a : Act} {P : Program} {t el : Nat} {j : TI} (hu : P.underlying t = some (.slice el)) (hj : TIok P el j) {ad : Option Addr} {len cap : Nat} {lo hi mx : Option Operand} {l u m : Nat} (hl : (lo = none ∧ l = 0) ∨ ∃ y q, lo = some y ∧ a.eval y = .int q (.ofNat l))
    (hh : (hi = none ∧ mx = none ∧ u = len) ∨ ∃ y q, hi = some y ∧ a.eval y = .int q (.ofNat u)) (hm : (mx = none ∧ m = cap) ∨ ∃ y q, mx = some y ∧ a.eval y = .int q (.ofNat m)) (h1 : l ≤ u) (h2 : u ≤ m) (h3 : m ≤ cap) (w : World) :
    (Instr.sliceAt t (.slice ad len cap) (lo.map a.eval) (hi.map a.eval) (mx.map a.eval)).run P w = .ok (.slice (if m = l then ad else ad.map (·.add (l * j.size))) (u - l) (m - l)) w := by
  simp [Instr.sliceAt, Instr.slice, run_underlying hu, run_bnds P w hl hh hm h1 h2 h3, r_sizeOf hj w]
omit hcT in
/-- an empty part -/
theorem slZ_s {cap : Option Nat} {v : ∀ (ρ : Asg) (a : Act), Value} (h : slZ s cap = .ok r) (hnd : ∀ cl, o.op ≠ .defer cl)
    (hv : ∀ ρ F L (a : Act) w, Pre c pg ρ s F L w → okT ρ c.n e a.tmps → ∃ p d, (execOp a.eval o).run c.P w = .ok (.value (.slice (match p with | some (b, o) => some ⟨b, o, none⟩ | none => none) 0 (capO cap d))) w) : OpS c pg o e s r := by
  have hr : r = ⟨.se s.nx cap, s.rw, s.nx + 1, s.md⟩ := by
    simp only [slZ, frcN_eq] at h
    cases h; rfl
  subst hr
  refine OpS.run hnd fun ρ F L a w hp ht => ?_
  obtain ⟨p, d, h1⟩ := hv ρ F L a w hp ht
  have hle := Asg.ins_le (r := ⟨p, d⟩) hp.free
  obtain ⟨L', h2, h3⟩ := hb_mono (pg := pg) hle hp.rw
  refine ⟨_, _, L', w, h1, Asg.ins_leN hp.free, Asg.ins_free hp.free, Nat.le_succ _, ?_, h2, hp.k.hsub (h3.app2 (HSub.refl F))⟩
  simp only [val, Asg.ins_get, RV.a]
  cases cap <;> rfl
omit hcT in
theorem blkN_cap {i k' n : Nat} (hf : blkN s i = some (k', n)) {ρ : Asg} {F L : List Blk} {w : World} (hp : Pre c pg ρ s F L w) {q : RV} (h1 : ρ i = some q) : n ≤ q.cap := by
  unfold blkN at hf
  split at hf
  · rename_i t2 k2 n2 c2 cs2 hf2
    cases hf
    obtain ⟨B, T, h3, h4, _⟩ := find_holds hf2 hp.ro hp.rw hp.k
    obtain ⟨q', vs, h5, h6, rfl, _⟩ := ass_cells h3
    rw [h1] at h5
    cases h5
    rcases h4 with ⟨_, rfl, _, _⟩ | ⟨_, _, _, _, _, _, _, _, h7, _⟩
    · exact Nat.zero_le _
    · exact h7
  · rename_i t2 c2 l hf2
    cases hf
    obtain ⟨B, T, h3, h4, _⟩ := find_holds hf2 hp.ro hp.rw hp.k
    obtain ⟨q', h5, rfl, _⟩ := ass_rb h3
    rw [h1] at h5
    cases h5
    rw [lenR_eq]
    rcases h4 with ⟨_, h0, _, _⟩ | ⟨_, _, _, _, _, _, _, _, h7, _⟩
    · rw [h0]; exact Nat.zero_le _
    · exact h7
  · cases hf
theorem opSlice_s {t : Nat} {x : Operand} {lo hi mx : Option Operand} (ho : o.op = .slice t x lo hi mx) (h : opSlice pg e s t x lo hi mx = .ok r) : OpS c pg o e s r := by
  have hnd : ∀ cl, o.op ≠ .defer cl := by rw [ho]; intro cl e; cases e
  unfold opSlice at h
  split at h
  rotate_left
  · cases h
  rename_i y ti l m hx hti hl hm hho
  have hti' := getT_ok hcT hti
  split at h
  · -- a text
    rename_i b hd
    split at h
    rotate_left
    · cases h
    rename_i u hu
    unfold slS at h
    split at h
    rotate_left
    · cases h
    rename_i rr hle hdr
    split at h
    rotate_left
    · cases h
    rename_i rr' htk
    refine OpS.pure h hnd fun ρ F L a w hp ht => ?_
    have e1 := (Option.some.inj (opdC_spec hp.gl ht hx)).symm
    have hu' := hti'.1
    rw [hd] at hu'
    have hbl := bndC_ok hp.gl ht hl
    have hbh := bndC_ok hp.gl ht hu
    have hmx : mx = none := by
      rcases bndM_ok hp.gl ht hm with ⟨h, _⟩ | ⟨_, _, _, _, h, _⟩
      · exact h
      · cases h
    subst hmx
    obtain ⟨g1, rfl⟩ := dropN_spec hdr
    obtain ⟨g2, rfl⟩ := takeN_spec htk
    rw [nble, decide_eq_true_eq] at hle
    rw [lenN_eq] at hbh
    have hsz : b.size = b.data.toList.length := Array.length_toList.symm
    simp only [List.length_drop] at g2
    refine ⟨.string (b.extract l u), ?_, ?_⟩
    · have hb := run_bnds (sl := false) (len := b.size) (cap := b.size) (m := b.size) c.P w hbl (hbh.imp (fun h => ⟨h.1, rfl, by rw [hsz]; exact h.2⟩) id) (.inl ⟨rfl, rfl⟩) hle (by omega) (Nat.le_refl _)
      simp only [Option.map_none] at hb
      simp only [execOp, ho, e1, Option.map_none, Sem.run_bind, run_sliceAt_string w t _ _ _ _ hu', Instr.slice, run_underlying hu', Result.andThen_ok]
      simp [hb]
    · have : b.extract l u = ⟨((b.data.toList.drop l).take (u - l)).toArray⟩ := by
        apply congrArg ByteArray.mk
        apply Array.ext'
        exact Go.Lib.extract_data b l u
      rw [this]
      rfl
  · -- a long text
    rename_i b hd
    split at h
    rotate_left
    · cases h
    rename_i u hu
    split at h
    rotate_left
    · cases h
    rename_i hle hul
    refine OpS.pure h hnd fun ρ F L a w hp ht => ?_
    have e1 := (Option.some.inj (opdC_spec hp.gl ht hx)).symm
    have hu' := hti'.1
    rw [hd] at hu'
    have hbl := bndC_ok hp.gl ht hl
    have hbh := bndC_ok hp.gl ht hu
    have hmx : mx = none := by
      rcases bndM_ok hp.gl ht hm with ⟨h, _⟩ | ⟨_, _, _, _, h, _⟩
      · exact h
      · cases h
    subst hmx
    rw [nble, decide_eq_true_eq] at hle hul
    have hlb := lenR_eq b
    obtain ⟨B, hB⟩ : ∃ B : ByteArray, B = ⟨(expR b).toArray⟩ := ⟨_, rfl⟩
    have hBd : B.data.toList = expR b := by rw [hB]
    have e1 : a.eval x = .string B := by rw [e1, hB]; rfl
    have hsz : B.size = lenR b := by
      rw [hlb, ← hBd]
      exact Array.length_toList.symm
    refine ⟨.string (B.extract l u), ?_, ?_⟩
    · have hb := run_bnds (sl := false) (len := B.size) (cap := B.size) (m := B.size) c.P w hbl (hbh.imp (fun h => ⟨h.1, rfl, by rw [hsz]; exact h.2⟩) id) (.inl ⟨rfl, rfl⟩) hle (by omega) (Nat.le_refl _)
      simp only [Option.map_none] at hb
      simp only [execOp, ho, e1, Option.map_none, Sem.run_bind, run_sliceAt_string w t _ _ _ _ hu', Instr.slice, run_underlying hu', Result.andThen_ok]
      simp [hb]
    · have h1 : B.extract l u = ⟨((B.data.toList.drop l).take (u - l)).toArray⟩ := by
        apply congrArg ByteArray.mk
        apply Array.ext'
        exact Go.Lib.extract_data B l u
      rw [h1, mkS_val, hBd]
      congr 1
      unfold strR
      rw [takR_exp _ _ (by rw [drpR_exp, List.length_drop]; omega), drpR_exp]
  · -- nil
    rename_i el hd
    have hu' := hti'.1
    rw [hd] at hu'
    split at h
    rotate_left
    · cases h
    rename_i j hj hl0 hu hm0
    have hl0 := Nat.eq_of_beq_eq_true hl0
    subst hl0
    refine OpS.pure h hnd fun ρ F L a w hp ht => ?_
    have e1 := (Option.some.inj (opdC_spec hp.gl ht hx)).symm
    obtain ⟨hh, hmx⟩ := bnds_ok hp.gl ht hm hho hu (cap := 0)
    have hmx' : (mx = none ∧ (0 : Nat) = 0) ∨ ∃ y q, mx = some y ∧ a.eval y = .int q (.ofNat 0) := by
      rcases hmx with ⟨h, _⟩ | ⟨y, q, k, h1, h2, h3⟩
      · exact .inl ⟨h, rfl⟩
      · subst h2
        cases k with
        | zero => exact .inr ⟨y, q, h1, h3⟩
        | succ k => cases hm0
    refine ⟨.slice none 0 0, ?_, rfl⟩
    simp only [execOp, ho, e1, Sem.run_bind]
    rw [run_slc hu' (getT_ok hcT hj) (bndC_ok hp.gl ht hl) hh hmx' (Nat.le_refl _) (Nat.le_refl _) (Nat.le_refl _) w]
    simp
  · -- an empty one
    rename_i el i cap hd
    have hu' := hti'.1
    rw [hd] at hu'
    split at h
    rotate_left
    · cases h
    rename_i j hj hl0 hu hm0
    have hl0 := Nat.eq_of_beq_eq_true hl0
    subst hl0
    refine OpS.pure h hnd fun ρ F L a w hp ht => ?_
    have e1 := opdC_spec hp.gl ht hx
    obtain ⟨q, h1, e2⟩ := val_se_inv e1
    obtain ⟨hh, hmx⟩ := bnds_ok hp.gl ht hm hho hu (cap := capO cap q.cap)
    rcases hmx with ⟨rfl, rfl⟩ | ⟨y, q', k, rfl, rfl, h3⟩
    · refine ⟨_, ?_, e1⟩
      simp only [execOp, ho, e2, Sem.run_bind]
      rw [run_slc hu' (getT_ok hcT hj) (bndC_ok hp.gl ht hl) hh (.inl ⟨rfl, rfl⟩) (Nat.le_refl _) (Nat.zero_le _) (Nat.le_refl _) w]
      cases q.a <;> simp [Addr.add]
    · cases k with
      | succ k => cases hm0
      | zero =>
        refine ⟨.slice q.a 0 0, ?_, by simp only [val, h1]⟩
        simp only [execOp, ho, e2, Sem.run_bind]
        rw [run_slc hu' (getT_ok hcT hj) (bndC_ok hp.gl ht hl) hh (.inr ⟨y, q', rfl, h3⟩) (Nat.le_refl _) (Nat.le_refl _) (Nat.zero_le _) w]
        simp
  · -- a window
    rename_i el i k off len cap hd
    have hu' := hti'.1
    rw [hd] at hu'
    split at h
    rotate_left
    · cases h
    rename_i k' n j u hf hj hu
    split at h
    rotate_left
    · cases h
    rename_i hk hj2
    obtain rfl := Nat.eq_of_beq_eq_true hk
    have hj2 := Nat.eq_of_beq_eq_true hj2
    have hji := getT_ok hcT hj
    -- what is known of the slice
    have base : ∀ ρ F L (a : Act) w, Pre c pg ρ s F L w → okT ρ c.n e a.tmps → ∃ q b o', ρ i = some q ∧ q.p = some (b, o') ∧ a.eval x = .slice (some ⟨b, o' + off * k', none⟩) len (capO cap (q.cap - off)) ∧ n ≤ q.cap := by
      intro ρ F L a w hp ht
      obtain ⟨q, b, o', h1, h2, e1⟩ := val_sl_inv (opdC_spec hp.gl ht hx)
      refine ⟨q, b, o', h1, h2, e1, ?_⟩
      exact blkN_cap hf hp h1
    unfold slW at h
    split at h
    rotate_left
    · cases h
    rename_i hlu hun
    rw [nble, decide_eq_true_eq] at hlu hun
    -- a part with a place
    have some_part : ∀ {cap' : Option Nat} {M : ∀ (ρ : Asg), Nat}, l < n - off ∨ True → pureR s (.sl i k' (off + l) (u - l) cap') = .ok r →
        (∀ ρ F L (a : Act) w, Pre c pg ρ s F L w → okT ρ c.n e a.tmps → ∀ q, ρ i = some q → n ≤ q.cap → ∃ m', (m = none ∧ m' = capO cap (q.cap - off) ∨ m = some m') ∧ l < m' ∧ u ≤ m' ∧ m' ≤ capO cap (q.cap - off) ∧ capO cap' (q.cap - (off + l)) = m' - l) → OpS c pg o e s r := by
      intro cap' _ _ h hc
      refine OpS.pure h hnd fun ρ F L a w hp ht => ?_
      obtain ⟨q, b, o', h1, h2, e1, h3⟩ := base ρ F L a w hp ht
      obtain ⟨m', h4, h5, h6, h7, h8⟩ := hc ρ F L a w hp ht q h1 h3
      obtain ⟨hh, hmx⟩ := bnds_ok hp.gl ht hm hho hu (cap := capO cap (q.cap - off))
      refine ⟨.slice (some ⟨b, o' + (off + l) * k', none⟩) (u - l) (m' - l), ?_, ?_⟩
      · simp only [execOp, ho, e1, Sem.run_bind]
        rw [run_slc hu' hji (bndC_ok hp.gl ht hl) hh (m := m') (by
          rcases hmx with ⟨h9, h10⟩ | ⟨y, q', k2, h9, h10, h11⟩
          · rcases h4 with ⟨_, h4⟩ | h4
            · exact .inl ⟨h9, h4⟩
            · rw [h10] at h4; cases h4
          · rcases h4 with ⟨h4, _⟩ | h4
            · rw [h10] at h4; cases h4
            · rw [h10] at h4; cases h4; exact .inr ⟨y, q', h9, h11⟩) hlu h6 h7 w]
        rw [if_neg (by omega), hj2]
        simp only [Result.andThen_ok, Sem.run_pure, Option.map_some, add_none]
        rw [Nat.add_assoc, ← Nat.add_mul]
      · simp only [val, h1, h2]
        rw [← h8]
        cases cap' <;> rfl
    have none_part : ∀ {cap' : Option Nat}, slZ s cap' = .ok r →
        (∀ ρ F L (a : Act) w, Pre c pg ρ s F L w → okT ρ c.n e a.tmps → ∀ q, ρ i = some q → n ≤ q.cap → ∃ m', (m = none ∧ m' = capO cap (q.cap - off) ∨ m = some m') ∧ u = l ∧ u ≤ m' ∧ m' ≤ capO cap (q.cap - off) ∧ (cap' = none ∨ cap' = some (m' - l))) → OpS c pg o e s r := by
      intro cap' h hc
      refine slZ_s (v := fun _ _ => undef) h hnd fun ρ F L a w hp ht => ?_
      obtain ⟨q, b, o', h1, h2, e1, h3⟩ := base ρ F L a w hp ht
      obtain ⟨m', h4, h5, h6, h7, h8⟩ := hc ρ F L a w hp ht q h1 h3
      obtain ⟨hh, hmx⟩ := bnds_ok hp.gl ht hm hho hu (cap := capO cap (q.cap - off))
      have hr := run_slc (ad := some ⟨b, o' + off * k', none⟩) hu' hji (bndC_ok hp.gl ht hl) hh (m := m') (by
          rcases hmx with ⟨h9, h10⟩ | ⟨y, q', k2, h9, h10, h11⟩
          · rcases h4 with ⟨_, h4⟩ | h4
            · exact .inl ⟨h9, h4⟩
            · rw [h10] at h4; cases h4
          · rcases h4 with ⟨h4, _⟩ | h4
            · rw [h10] at h4; cases h4
            · rw [h10] at h4; cases h4; exact .inr ⟨y, q', h9, h11⟩) hlu h6 h7 w
      refine ⟨some (b, if m' = l then o' + off * k' else o' + off * k' + l * j.size), m' - l, ?_⟩
      simp only [execOp, ho, e1, Sem.run_bind]
      rw [hr]
      subst h5
      simp only [Result.andThen_ok, Sem.run_pure, Nat.sub_self]
      congr 2
      have e3 : capO cap' (m' - u) = m' - u := by rcases h8 with rfl | rfl <;> rfl
      rw [e3]
      congr 1
      split
      · rfl
      · simp [add_none]
    split at h
    · rename_i m'
      split at h
      rotate_left
      · cases h
      rename_i hum hcm
      rw [nble, decide_eq_true_eq] at hum
      have hcap : ∀ q : RV, n ≤ q.cap → m' ≤ capO cap (q.cap - off) := by
        intro q hq
        cases cap with
        | none => simp only [nble, decide_eq_true_eq] at hcm; simp only [capO]; omega
        | some c => simp only [nble, decide_eq_true_eq] at hcm; exact hcm
      split at h
      · rename_i hlm
        rw [nblt, decide_eq_true_eq] at hlm
        exact some_part (M := fun _ => 0) (.inr trivial) h fun ρ F L a w hp ht q hq hn => ⟨m', .inr rfl, hlm, hum, hcap q hn, rfl⟩
      · rename_i hlm
        rw [nblt, decide_eq_false_iff_not] at hlm
        exact none_part h fun ρ F L a w hp ht q hq hn => ⟨m', .inr rfl, by omega, hum, hcap q hn, .inr (by congr 1; omega)⟩
    · split at h
      · split at h
        · rename_i hlt
          rw [nblt, decide_eq_true_eq] at hlt
          exact some_part (M := fun _ => 0) (.inr trivial) h fun ρ F L a w hp ht q hq hn => ⟨q.cap - off, .inl ⟨rfl, rfl⟩, by omega, by omega, Nat.le_refl _, by simp only [capO]; omega⟩
        · rename_i hlt
          rw [nblt, decide_eq_false_iff_not] at hlt
          exact none_part h fun ρ F L a w hp ht q hq hn => ⟨q.cap - off, .inl ⟨rfl, rfl⟩, by omega, by omega, Nat.le_refl _, .inl rfl⟩
      · rename_i c2
        split at h
        · rename_i huc hlc
          rw [nble, decide_eq_true_eq] at huc
          rw [nblt, decide_eq_true_eq] at hlc
          exact some_part (M := fun _ => 0) (.inr trivial) h fun ρ F L a w hp ht q hq hn => ⟨c2, .inl ⟨rfl, rfl⟩, hlc, huc, Nat.le_refl _, rfl⟩
        · rename_i huc hlc
          rw [nble, decide_eq_true_eq] at huc
          rw [nblt, decide_eq_false_iff_not] at hlc
          exact none_part h fun ρ F L a w hp ht q hq hn => ⟨c2, .inl ⟨rfl, rfl⟩, by omega, huc, Nat.le_refl _, .inr (by congr 1; omega)⟩
        · cases h
  · cases h
end
end Go.Y

namespace Go.Y
open Go Go.X
theorem run_convert_mark {P : Program} (w : World) (q te b o n c' : Nat) {C : Array Value} {e : Nat} {fr : Nat × Nat} (hh : w.heap[b]? = some (.cells C e fr)) (ht : P.underlying q = some (.slice te)) (he : P.underlying te = some (.int .u8)) :
    (convert q q (.slice (some ⟨b, o, none⟩) n c')).run P w = .ok (.slice (some ⟨b, o, none⟩) n c') (w.freeze ⟨b, C.size, none⟩ 1) := by
  have hsh : w.shape? b = some (e, C.size) := by
    unfold World.shape?
    rw [hh]
  simp [convert, run_underlying ht, run_underlying he, markStringish, hsh]
theorem freeze_heap {w : World} {b n : Nat} {C : Array Value} {e : Nat} {fr : Nat × Nat} (hh : w.heap[b]? = some (.cells C e fr)) :
    (w.freeze ⟨b, n, none⟩ 1).heap[b]? = some (.cells C e (if fr.1 == fr.2 then (n, n + 1) else (min fr.1 n, max fr.2 (n + 1)))) := by
  unfold World.freeze
  rw [if_neg (by decide)]
  simp [Array.getElem?_modify, hh]
theorem freeze_other {w : World} {b n k : Nat} (hk : k ≠ b) : (w.freeze ⟨b, n, none⟩ 1).heap[k]? = w.heap[k]? := by
  unfold World.freeze
  rw [if_neg (by decide)]
  simp [Array.getElem?_modify, Ne.symm hk]
theorem freeze_eff {w : World} {b n : Nat} : (w.freeze ⟨b, n, none⟩ 1).os = w.os ∧ (w.freeze ⟨b, n, none⟩ 1).tape = w.tape ∧ (w.freeze ⟨b, n, none⟩ 1).output = w.output ∧ (w.freeze ⟨b, n, none⟩ 1).heap.size = w.heap.size := by
  unfold World.freeze
  rw [if_neg (by decide)]
  simp
/-- what is new, and nobody else's -/
theorem Kn0.fresh {W : World} {S : Nat → Prop} {H : List Blk} {w w' : World} (hk : Kn0 W S H w) (i : Nat) {A : Ass} (hp : FPost (fun _ => False) w A w') : Kn0 W S (.ext i A :: H) w' := by
  have h1 := Kn.free (ms := []) hk i (A := emp) (fun _ h => h)
  have h2 : Kn0 W S ([] ++ .ext i emp :: H) w := h1
  obtain ⟨T, h3, h4, h5⟩ := Kn.openA (ms := []) (A := []) (x := .ext i emp) h2
  have h6 : FPost T w A w' := by
    obtain ⟨e1, T', e2, e3⟩ := hp
    refine ⟨⟨e1.os, e1.tape, e1.output, e1.size, fun k hk hn => e1.old k hk (fun h => h)⟩, T', e2, fun k hk => ⟨(e3 k hk).1, (e3 k hk).2.imp (fun h => h.elim) id⟩⟩
  exact h5 (.ext i A) w' h6
theorem u8s_val (ρ : Asg) : ∀ (l : List UInt8), valL ρ (u8s l) = some (bcells l)
  | [] => rfl
  | c :: l => by
    show valL ρ (.v (.int .u8 (.ofNat c.toNat)) :: u8s l) = _
    simp only [valL, u8s_val ρ l, val]
    rfl
theorem ofU8s_cons (x : CV) (cs : List CV) : ofU8s (x :: cs) = (match x with
      | .v (.int .u8 (.ofNat n)) => (match Nat.blt n 256, ofU8s cs with | true, some r => some (UInt8.ofNat n :: r) | _, _ => none)
      | _ => none) := rfl
theorem ofU8s_val {ρ : Asg} : ∀ {cs : List CV} {l : List UInt8}, ofU8s cs = some l → valL ρ cs = some (bcells l)
  | [], l, h => by
    cases (show some [] = some l from h)
    rfl
  | x :: cs, l, h => by
    rw [ofU8s_cons] at h
    split at h
    · rename_i n
      split at h
      · rename_i r hn hr
        cases h
        rw [nblt, decide_eq_true_eq] at hn
        have ih := ofU8s_val (ρ := ρ) hr
        simp only [valL, val, ih]
        have : (UInt8.ofNat n).toNat = n := by simp; omega
        simp only [bcells, List.map_cons, bcell, this]
        rfl
      · cases h
    · cases h
theorem isSlC_str {ρ : Asg} {y : CV} {b : ByteArray} (h : isSlC y = true) (e1 : val ρ y = some (.string b)) : False := by
  cases y with
  | v z => simp only [val, Option.some.injEq] at e1; subst e1; cases h
  | agg cs => obtain ⟨_, _, h9⟩ := val_agg_inv e1; cases h9
  | tup cs => obtain ⟨_, _, h9⟩ := val_tup_inv e1; cases h9
  | rs l => cases h
  | _ =>
    simp only [val] at e1
    repeat' split at e1
    all_goals first | (cases e1; done) | (simp at e1; done)
/-- the bytes of a text, anew -/
theorem fpost_bytes (w : World) (s : ByteArray) (e cap : Nat) (hge : s.size ≤ cap) : FPost (fun _ => False) w (SlA e 1 (some ⟨w.heap.size, 0, none⟩) s.size cap (bcells s.data.toList)) (w.drew.alloc (.cells (bytesRow s cap) e ((bytesRow s cap).size, (bytesRow s cap).size + 1))) := by
  have hsz : s.data.toList.length = s.size := by rw [Array.length_toList]; rfl
  have hwsz : (w.drew.alloc (.cells (bytesRow s cap) e ((bytesRow s cap).size, (bytesRow s cap).size + 1))).heap.size = w.heap.size + 1 := by
    rw [heap_alloc, Array.size_push]; rfl
  have hrow : bytesRow s cap = ([] ++ bcells s.data.toList ++ List.replicate (cap - s.size) (Value.int .u8 0)).toArray := by
    apply Array.ext'
    simp [bytesRow, bcells, bcell]
  have hhp : (w.drew.alloc (.cells (bytesRow s cap) e ((bytesRow s cap).size, (bytesRow s cap).size + 1))).heap[w.heap.size]? =
      some (.cells (bytesRow s cap) e ((bytesRow s cap).size, (bytesRow s cap).size + 1)) := by
    rw [heap_alloc]
    have : w.drew.heap.size = w.heap.size := rfl
    rw [← this, Array.getElem?_push_size]
  refine ⟨⟨rfl, rfl, rfl, by rw [hwsz]; omega, fun k hk _ => ?_⟩, fun k => k = w.heap.size, .inr ⟨w.heap.size, rfl, [], List.replicate (cap - s.size) (Value.int .u8 0), ((bytesRow s cap).size, (bytesRow s cap).size + 1), rfl, ?_, ?_, hge, ?_, ?_⟩, ?_⟩
  · rw [heap_alloc, Array.getElem?_push, if_neg (by show ¬ k = w.heap.size; omega)]
    rfl
  · rw [hhp, ← hrow]
  · rw [bcells_length, hsz, Nat.mul_one]
  · simp
  · intro _
    rw [hrow]
    simp
  · rintro k rfl
    exact ⟨by rw [hwsz]; omega, .inr (Nat.le_refl _)⟩
theorem lenN_bytes (b : ByteArray) : lenN b.data.toList = b.size := by rw [lenN_eq, Array.length_toList]; rfl
section
variable {c : Cx} {pg : Pg} (hcT : c.T = pg.T) {o : Oper} {e : Look} {s : Sn} {r : O2}
theorem u8s_len (l : List UInt8) : (u8s l).length = l.length := by
  have := valL_length (u8s_val (fun _ => none) l)
  rw [bcells_length] at this
  exact this.symm
/-- the elements behind a slice, or a text -/
theorem sliceC_spec {ρ : Asg} {F L : List Blk} {w : World} (hp : Pre c pg ρ s F L w) {y : CV} {m : Nat} {cs : List CV} (h : sliceC s.st y = some (m, cs)) {v : Value} (hv : val ρ y = some v) : ∃ vs, valL ρ cs = some vs ∧
    ((∃ c', v = .slice none 0 c' ∧ m = 0 ∧ vs = []) ∨ (∃ a c', v = .slice a 0 c' ∧ m = 0 ∧ vs = []) ∨ (∃ b o' c', v = .slice (some ⟨b, o', none⟩) m c' ∧ ∀ j u, vs[j]? = some u → w.cell? ⟨b, o' + j, none⟩ = some u) ∨ (∃ b : ByteArray, v = .string b ∧ m = b.size ∧ vs = bcells b.data.toList)) := by
  unfold sliceC at h
  split at h
  · cases h
    cases hv
    exact ⟨[], rfl, .inl ⟨_, rfl, rfl, rfl⟩⟩
  · cases h
    obtain ⟨q, _, rfl⟩ := val_se_inv hv
    exact ⟨[], rfl, .inr (.inl ⟨_, _, rfl, rfl, rfl⟩)⟩
  · rename_i i k off len cap
    split at h
    · rename_i t' k' n c' cs' hf
      split at h
      · rename_i l hd
        split at h
        · rename_i r ht
          cases h
          obtain ⟨q, b, o', h1, h2, rfl⟩ := val_sl_inv hv
          obtain ⟨B, T, h3, h4, _⟩ := find_holds hf hp.ro hp.rw hp.k
          obtain ⟨q', vs, h5, h6, rfl, _⟩ := ass_cells h3
          rw [h1] at h5
          cases h5
          obtain ⟨g1, rfl⟩ := dropN_spec hd
          obtain ⟨g2, rfl⟩ := takeN_spec ht
          refine ⟨_, valL_take (valL_drop h6 _) _, .inr (.inr (.inl ⟨b, o' + off * k, _, rfl, fun j u hj => ?_⟩))⟩
          rw [RV.a_of h2] at h4
          rcases h4 with ⟨h7, _⟩ | ⟨b', _, pre, post, fr, ha, hh, _, _, _, _⟩
          · cases h7
          cases ha
          rw [List.getElem?_take] at hj
          split at hj
          · rw [List.getElem?_drop] at hj
            have hlt : off * k + j < vs.length := (List.getElem?_eq_some_iff.1 hj).1
            rw [cell_of hh, List.getElem?_toArray, List.append_assoc, List.getElem?_append_right (by omega), List.getElem?_append_left (by omega), show pre.length + off * k + j - pre.length = off * k + j by omega]
            exact hj
          · cases hj
        · cases h
      · cases h
    · cases h
  · rename_i b
    cases h
    cases hv
    exact ⟨_, u8s_val ρ _, .inr (.inr (.inr ⟨b, rfl, by rw [lenN_eq]; exact Array.length_toList, rfl⟩))⟩
  · cases h
theorem strR_str (l : List (Nat × Nat)) : ∃ b : ByteArray, strR l = .string b ∧ b.data.toList = expR l ∧ b.size = (expR l).length := by
  refine ⟨⟨(expR l).toArray⟩, rfl, rfl, ?_⟩
  rw [← lenN_bytes, lenN_eq]
/-- the bytes behind a slice, or of a text, as runs -/
theorem bytR_spec {ρ : Asg} {F L : List Blk} {w : World} (hp : Pre c pg ρ s F L w) {y : CV} {m : Nat} {l : List (Nat × Nat)} (h : bytR s y = some (m, l)) {v : Value} (hv : val ρ y = some v) : m = (expR l).length ∧
    ((∃ c', v = .slice none 0 c' ∧ m = 0) ∨ (∃ a c', v = .slice a 0 c' ∧ m = 0) ∨ (∃ b o' c', v = .slice (some ⟨b, o', none⟩) m c' ∧ ∀ j u, (bcells (expR l))[j]? = some u → w.cell? ⟨b, o' + j, none⟩ = some u) ∨ (∃ b : ByteArray, v = .string b ∧ m = b.size ∧ b.data.toList = expR l)) := by
  unfold bytR at h
  split at h
  · cases h
    cases hv
    obtain ⟨b, h1, h2, h3⟩ := strR_str l
    exact ⟨lenR_eq _, .inr (.inr (.inr ⟨b, h1, by rw [lenR_eq, h3], h2⟩))⟩
  · rename_i b
    cases h
    cases hv
    exact ⟨by rw [lenN_eq, ofB_exp], .inr (.inr (.inr ⟨b, rfl, lenN_bytes b, (ofB_exp _).symm⟩))⟩
  · cases h
    cases hv
    exact ⟨rfl, .inl ⟨_, rfl, rfl⟩⟩
  · cases h
    obtain ⟨q, _, rfl⟩ := val_se_inv hv
    exact ⟨rfl, .inr (.inl ⟨_, _, rfl, rfl⟩)⟩
  · rename_i i k off len cap
    obtain ⟨q, b, o', h1, h2, rfl⟩ := val_sl_inv hv
    split at h
    · rename_i t' c' l' hk hf
      obtain rfl := Nat.eq_of_beq_eq_true hk
      split at h
      rotate_left
      · cases h
      rename_i hle
      have hle := Nat.le_of_ble_eq_true hle
      rw [lenR_eq] at hle
      cases h
      have hex : expR (takR m (drpR off l')) = ((expR l').drop off).take m := by
        rw [takR_exp _ _ (by rw [drpR_exp, List.length_drop]; omega), drpR_exp]
      obtain ⟨B, T, h3, h4, _⟩ := find_holds hf hp.ro hp.rw hp.k
      obtain ⟨q', h5, rfl, _⟩ := ass_rb h3
      rw [h1] at h5
      cases h5
      rw [RV.a_of h2] at h4
      refine ⟨by rw [hex, List.length_take, List.length_drop]; omega, .inr (.inr (.inl ⟨b, o' + off * 1, _, rfl, fun j u hj => ?_⟩))⟩
      rcases h4 with ⟨h7, _⟩ | ⟨b', _, pre, post, fr, ha, hh, _, _, _, _⟩
      · cases h7
      cases ha
      rw [hex] at hj
      simp only [bcells, List.getElem?_map, List.getElem?_take] at hj
      split at hj
      · rw [List.getElem?_drop] at hj
        rw [cell_of hh, List.getElem?_toArray, List.append_assoc, List.getElem?_append_right (by omega)]
        have hlt : off + j < (expR l').length := by omega
        rw [List.getElem?_append_left (by rw [bcells_length]; omega), show pre.length + off * 1 + j - pre.length = off + j by omega]
        simpa [bcells] using hj
      · simp at hj
    · rename_i t' k' n c' cs hk hf
      obtain rfl := Nat.eq_of_beq_eq_true hk
      split at h
      rotate_left
      · cases h
      rename_i bs hk' hn hbs
      obtain rfl := Nat.eq_of_beq_eq_true hk'
      have hn := Nat.le_of_ble_eq_true hn
      cases h
      obtain ⟨B, T, h3, h4, _⟩ := find_holds hf hp.ro hp.rw hp.k
      obtain ⟨q', vs, h5, h6, rfl, _⟩ := ass_cells h3
      rw [h1] at h5
      cases h5
      have hvs := ofU8s_val (ρ := ρ) hbs
      rw [hvs] at h6
      cases h6
      have hlen := SlA.len h4
      rw [bcells_length] at hlen
      have hex : expR (takR m (drpR off (ofB bs))) = (bs.drop off).take m := by
        rw [takR_exp _ _ (by rw [drpR_exp, List.length_drop, ofB_exp]; omega), drpR_exp, ofB_exp]
      rw [RV.a_of h2] at h4
      refine ⟨by rw [hex, List.length_take, List.length_drop]; omega, .inr (.inr (.inl ⟨b, o' + off * 1, _, rfl, fun j u hj => ?_⟩))⟩
      rcases h4 with ⟨h7, _⟩ | ⟨b', _, pre, post, fr, ha, hh, _, _, _, _⟩
      · cases h7
      cases ha
      rw [hex] at hj
      simp only [bcells, List.getElem?_map, List.getElem?_take] at hj
      split at hj
      · rw [List.getElem?_drop] at hj
        rw [cell_of hh, List.getElem?_toArray, List.append_assoc, List.getElem?_append_right (by omega)]
        rw [List.getElem?_append_left (by rw [bcells_length]; omega), show pre.length + off * 1 + j - pre.length = off + j by omega]
        simpa [bcells] using hj
      · simp at hj
    · cases h
  · cases h
include hcT
theorem markC_s {q t te qe : Nat} {x : Operand} {y : CV} (ho : o.op = .convert q t x) (hx : opdC e x = some y) (h1 : c.P.underlying q = some (.slice qe)) (h2 : c.P.underlying t = some (.slice te)) (h : markC pg s (Nat.beq q t) te y = .ok r) : OpS c pg o e s r := by
  have hnd : ∀ cl, o.op ≠ .defer cl := by rw [ho]; intro cl e; cases e
  unfold markC at h
  split at h
  rotate_left
  · cases h
  rename_i i k off len cap ej hqt hj
  have hqt := Nat.eq_of_beq_eq_true hqt
  subst hqt
  split at h
  rotate_left
  · cases h
  rename_i t' k' n c' cs hju hf
  split at h
  rotate_left
  · cases h
  rename_i hk1
  have hk1 := Nat.eq_of_beq_eq_true hk1
  subst hk1
  have h3 := (getT_ok hcT hj).1
  rw [hju] at h3
  refine OpS.run hnd fun ρ F L ac w hp ht => ?_
  have e1 := opdC_spec hp.gl ht hx
  obtain ⟨qv, b, o', g1, g2, g3⟩ := val_sl_inv e1
  obtain ⟨A, L1, L2, hA, rfl, hset, _⟩ := hb_find hf hp.rw
  obtain ⟨T, hT, hlt, hopen⟩ := Kn0.openX hp.k
  obtain ⟨q', vs0, p1, p2, rfl, p4⟩ := ass_cells hA
  rw [g1] at p1
  cases p1
  rw [RV.a_of g2] at hT
  have hT0 := hT
  rcases hT with ⟨e0, _⟩ | ⟨b', hb, pre, post, fr, ha, hh, hl, hnc, hpp, hff⟩
  · cases e0
  obtain ⟨rfl, rfl⟩ : b = b' ∧ o' = pre.length := by simpa using ha
  obtain ⟨f1, f2, f3, f4⟩ := freeze_eff (w := w) (b := b) (n := (pre ++ vs0 ++ post).toArray.size)
  have hfp : FPost T w (SlA t' 1 (some ⟨b, pre.length, none⟩) n qv.cap vs0) (w.freeze ⟨b, (pre ++ vs0 ++ post).toArray.size, none⟩ 1) := by
    refine ⟨⟨f1, f2, f3, by rw [f4]; exact Nat.le_refl _, fun k _ hn => freeze_other (fun e => hn (e ▸ hb))⟩, fun k => k = b, .inr ⟨b, rfl, pre, post, _, rfl, freeze_heap hh, hl, hnc, hpp, ?_⟩, ?_⟩
    · intro _
      refine ⟨rfl, ?_⟩
      simp only [List.size_toArray, List.length_append]
      split
      · omega
      · rename_i hne
        have := (hff (by simpa using hne)).2
        simp only
        omega
    · rintro k rfl
      rw [f4]
      exact ⟨hlt _ hb, .inl hb⟩
  have hr := run_convert_mark (P := c.P) w q te b (pre.length + off * k) len (capO cap (qv.cap - off)) hh h2 h3
  obtain ⟨h', q1, q2, q3, q4⟩ := setR_ok h
  obtain ⟨h'', q5, q6⟩ := hset _ _ hA
  rw [q1] at q5
  cases q5
  rw [RV.a_of g2] at q6
  refine ⟨ρ, .slice (some ⟨b, pre.length + off * k, none⟩) len (capO cap (qv.cap - off)), _, _, ?_, .refl ρ, by rw [q4]; exact hp.free, by rw [q4]; exact Nat.le_refl _, by rw [q2, e1, g3], by rw [q3]; exact q6, hopen _ _ hfp⟩
  have e2 : ac.eval x = .slice (some ⟨b, pre.length + off * k, none⟩) len (capO cap (qv.cap - off)) := g3
  simp only [execOp, ho, e2, Sem.run_bind, hr]
  rfl
omit hcT in
theorem isU8_spec {d : TypeDesc} (h : isU8 d = true) : d = .int .u8 := by
  unfold isU8 at h
  split at h
  · rfl
  · cases h
theorem opConvert_s {q t : Nat} {x : Operand} (ho : o.op = .convert q t x) (h : opConvert pg e s q t x = .ok r) : OpS c pg o e s r := by
  have hnd : ∀ cl, o.op ≠ .defer cl := by rw [ho]; intro cl e; cases e
  unfold opConvert at h
  split at h
  rotate_left
  · cases h
  rename_i y0 qi ti hx hq ht0
  have hqo := getT_ok hcT hq
  have hto := getT_ok hcT ht0
  split at h
  · rename_i k k' k'' a hd1 hd2
    refine OpS.pure h hnd fun ρ F L ac w hp ht => ?_
    have e1 := (Option.some.inj (opdC_spec hp.gl ht hx)).symm
    have h1 := hqo.1
    have h2 := hto.1
    rw [hd1] at h1
    rw [hd2] at h2
    refine ⟨_, ?_, rfl⟩
    simp only [execOp, ho, e1]
    simp [convert, run_underlying h1, run_underlying h2, Conv.intToInt, wrapF_eq]
  · rename_i b hd1 hd2
    refine OpS.pure h hnd fun ρ F L ac w hp ht => ?_
    have e1 := (Option.some.inj (opdC_spec hp.gl ht hx)).symm
    have h1 := hqo.1
    have h2 := hto.1
    rw [hd1] at h1
    rw [hd2] at h2
    refine ⟨.string b, ?_, rfl⟩
    simp only [execOp, ho, e1]
    simp [convert, run_underlying h1, run_underlying h2]
  · rename_i b hd1 hd2
    refine OpS.pure h hnd fun ρ F L ac w hp ht => ?_
    have e1 := (Option.some.inj (opdC_spec hp.gl ht hx)).symm
    have h1 := hqo.1
    have h2 := hto.1
    rw [hd1] at h1
    rw [hd2] at h2
    obtain ⟨B, hB, _, _⟩ := strR_str b
    have e1 : ac.eval x = .string B := by rw [e1, hB]
    refine ⟨.string B, ?_, by rw [← hB]; rfl⟩
    simp only [execOp, ho, e1]
    simp [convert, run_underlying h1, run_underlying h2]
  · rename_i qe hd1 hd2
    split at h
    · split at h
      rotate_left
      · cases h
      rename_i ej m l hj hs
      split at h
      rotate_left
      · cases h
      rename_i hu8 hsl
      have hu8 := isU8_spec hu8
      refine OpS.pure h hnd fun ρ F L ac w hp ht => ?_
      have e1 := opdC_spec hp.gl ht hx
      have h1 := hqo.1
      have h2 := hto.1
      have h3 := (getT_ok hcT hj).1
      rw [hd1] at h1
      rw [hd2] at h2
      rw [hu8] at h3
      obtain ⟨hm, g2⟩ := bytR_spec hp hs e1
      refine ⟨strR l, ?_, mkS_val ρ l⟩
      rcases g2 with ⟨c', e2, rfl⟩ | ⟨a, c', e2, rfl⟩ | ⟨b, o', c', e2, hc⟩ | ⟨b, e2, hm2, hvs⟩
      · have : expR l = [] := List.length_eq_zero_iff.1 (by omega)
        simp [execOp, ho, e2, convert, run_underlying h1, run_underlying h2, run_underlying h3, Conv.bytesToString, strR, this]
        rfl
      · have : expR l = [] := List.length_eq_zero_iff.1 (by omega)
        cases a with
        | none =>
          simp [execOp, ho, e2, convert, run_underlying h1, run_underlying h2, run_underlying h3, Conv.bytesToString, strR, this]
          rfl
        | some ad =>
          have h9 := run_convert_bytes_back (P := c.P) w q t qe ad c' [] h1 h3 h2 (fun j hj => by simp at hj)
          simp only [List.length_nil] at h9
          simp [execOp, ho, e2, h9, strR, this]
      · subst hm
        have h9 := run_convert_bytes_back (P := c.P) w q t qe ⟨b, o', none⟩ c' (expR l) h1 h3 h2 (fun j hj => by
          rw [add_none]
          exact hc j _ (by simp [bcells, hj, bcell]))
        simp [execOp, ho, e2, h9, strR]
      · exfalso
        rw [e2] at e1
        exact isSlC_str hsl e1
    split at h
    rotate_left
    · cases h
    rename_i ej m cs hj hs
    split at h
    rotate_left
    · cases h
    rename_i l hu8 hl hm hsl
    refine OpS.pure h hnd fun ρ F L ac w hp ht => ?_
    have e1 := opdC_spec hp.gl ht hx
    have h1 := hqo.1
    have h2 := hto.1
    have h3 := (getT_ok hcT hj).1
    rw [hd1] at h1
    rw [hd2] at h2
    rw [hu8] at h3
    obtain ⟨vs, g1, g2⟩ := sliceC_spec hp hs e1
    rw [ofU8s_val hl] at g1
    cases g1
    have hm := Nat.eq_of_beq_eq_true hm
    have hlen := valL_length (ofU8s_val (ρ := ρ) hl)
    rw [lenN_eq, ← hlen, bcells_length] at hm
    refine ⟨.string ⟨l.toArray⟩, ?_, rfl⟩
    rcases g2 with ⟨c', e2, rfl, hvs⟩ | ⟨a, c', e2, rfl, hvs⟩ | ⟨b, o', c', e2, hc⟩ | ⟨b, e2, hm2, hvs⟩
    · have : l = [] := List.length_eq_zero_iff.1 (by omega)
      subst this
      simp [execOp, ho, e2, convert, run_underlying h1, run_underlying h2, run_underlying h3, Conv.bytesToString]
      rfl
    · have : l = [] := List.length_eq_zero_iff.1 (by omega)
      subst this
      cases a with
      | none =>
        simp [execOp, ho, e2, convert, run_underlying h1, run_underlying h2, run_underlying h3, Conv.bytesToString]
        rfl
      | some ad =>
        have := run_convert_bytes_back (P := c.P) w q t qe ad c' [] h1 h3 h2 (fun j hj => by simp at hj)
        simp only [List.length_nil] at this
        simp [execOp, ho, e2, this]
    · subst hm
      have := run_convert_bytes_back (P := c.P) w q t qe ⟨b, o', none⟩ c' l h1 h3 h2 (fun j hj => by
        rw [add_none]
        exact hc j _ (by simp [bcells, hj, bcell]))
      simp [execOp, ho, e2, this]
    · exfalso
      rw [e2] at e1
      exact isSlC_str hsl e1
  · rename_i te l hd1 hd2
    split at h
    rotate_left
    · cases h
    rename_i ej hj
    split at h
    rotate_left
    · cases h
    rename_i hu8 h0
    have hu8 := isU8_spec hu8
    have h1 := hqo.1
    have h2 := hto.1
    have h3 := (getT_ok hcT hj).1
    rw [hd1] at h1
    rw [hd2] at h2
    rw [hu8] at h3
    refine OpS.run hnd fun ρ F L ac w hp ht => ?_
    have e1 := (Option.some.inj (opdC_spec hp.gl ht hx)).symm
    obtain ⟨b, hB, hBd, hBs⟩ := strR_str l
    have e1 : ac.eval x = .string b := by rw [e1, hB]
    have hr := run_bytes_of_string (P := c.P) w q t te b h1 h2 h3
    obtain ⟨ρ', L', hpost⟩ := Post.new h hp ⟨some (w.heap.size, 0), grownCap w b.size 0 te⟩ (A := SlA te 1 (some ⟨w.heap.size, 0, none⟩) b.size (grownCap w b.size 0 te) (bcells b.data.toList)) (v := .slice (some ⟨w.heap.size, 0, none⟩) b.size (grownCap w b.size 0 te))
      (by rw [ass_rb_mk (Asg.ins_get _ _ _) rfl, hBd, hBs]; rfl) (by simp [val, Asg.ins_get, lenR_eq, hBs, capO]) (fun H hk => Kn0.fresh hk s.nx (fpost_bytes w b te _ (grownCap_ge w b.size 0 te)))
    refine ⟨ρ', _, L', _, ?_, hpost⟩
    simp only [execOp, ho, e1, Sem.run_bind, hr]
    rfl
  · rename_i te b hd1 hd2
    split at h
    rotate_left
    · cases h
    rename_i ej hj
    have h1 := hqo.1
    have h2 := hto.1
    have h3 := (getT_ok hcT hj).1
    rw [hd1] at h1
    rw [hd2] at h2
    split at h
    · rename_i hju hnil
      rw [hju] at h3
      cases h
      refine OpS.run hnd fun ρ F L ac w hp ht => ?_
      have e1 := (Option.some.inj (opdC_spec hp.gl ht hx)).symm
      have hr := run_bytes_of_string (P := c.P) w q t te b h1 h2 h3
      have hz : b.size = 0 := by rw [← lenN_bytes, hnil]; rfl
      have hle := Asg.ins_le (r := ⟨some (w.heap.size, 0), grownCap w b.size 0 te⟩) hp.free
      obtain ⟨L', h4, h5⟩ := hb_mono (pg := pg) hle hp.rw
      have hk := Kn0.fresh hp.k s.nx (fpost_bytes w b te _ (grownCap_ge w b.size 0 te))
      refine ⟨_, .slice (some ⟨w.heap.size, 0, none⟩) b.size (grownCap w b.size 0 te), L', _, ?_, Asg.ins_leN hp.free, Asg.ins_free hp.free, Nat.le_succ _, ?_, h4, hk.hsub (.drop (h5.app2 (HSub.refl F)))⟩
      · simp only [execOp, ho, e1, Sem.run_bind, hr]
        rfl
      · rw [hz]
        simp [val, Asg.ins_get, RV.a]
    · rename_i hju hnil
      rw [hju] at h3
      refine OpS.run hnd fun ρ F L ac w hp ht => ?_
      have e1 := (Option.some.inj (opdC_spec hp.gl ht hx)).symm
      have hr := run_bytes_of_string (P := c.P) w q t te b h1 h2 h3
      obtain ⟨ρ', L', hpost⟩ := Post.new h hp ⟨some (w.heap.size, 0), grownCap w b.size 0 te⟩ (A := SlA te 1 (some ⟨w.heap.size, 0, none⟩) b.size (grownCap w b.size 0 te) (bcells b.data.toList)) (v := .slice (some ⟨w.heap.size, 0, none⟩) b.size (grownCap w b.size 0 te))
        (by simp [CB.ass, Asg.ins_get, u8s_val, capB, RV.a, lenN_bytes]) (by simp [val, Asg.ins_get, lenN_bytes]) (fun H hk => Kn0.fresh hk s.nx (fpost_bytes w b te _ (grownCap_ge w b.size 0 te)))
      refine ⟨ρ', _, L', _, ?_, hpost⟩
      simp only [execOp, ho, e1, Sem.run_bind, hr]
      rfl
    · cases h
  · rename_i qe te hd1 hd2
    exact markC_s hcT ho hx (by have := hqo.1; rw [hd1] at this; exact this) (by have := hto.1; rw [hd2] at this; exact this) h
  · cases h
end
end Go.Y

namespace Go.Y
open Go Go.X
theorem fpost_set {T : Nat → Prop} {w : World} {r : Nat} {o : Obj} (h : (ObjA r o).holds w T) (hlt : r < w.heap.size) (o' : Obj) : FPost T w (ObjA r o') { w with heap := w.heap.setIfInBounds r o' } := by
  refine ⟨⟨rfl, rfl, rfl, by simp, fun k hk hn => ?_⟩, fun k => k = r, ⟨rfl, by simp [hlt]⟩, fun k hk => by subst hk; exact ⟨by simpa using hlt, .inl h.1⟩⟩
  have : r ≠ k := fun e => hn (e ▸ h.1)
  simp [this]
theorem Kn0.free {W : World} {S : Nat → Prop} {H : List Blk} {w : World} (hk : Kn0 W S H w) (i : Nat) {A : Ass} (h : A.holds w (fun _ => False)) : Kn0 W S (.ext i A :: H) w := Kn.free (ms := []) hk i h
theorem ass_map {pg : Pg} {ρ : Asg} {i : Nat} {es : List (CV × CV × Nat)} {clk : Nat} {A : Ass} (h : (CB.map es clk).ass pg ρ i = some A) : ∃ m l, idO ρ i = some m ∧ esV ρ es = some l ∧ A = ObjA m (.map l.toArray clk) := by
  simp only [CB.ass] at h
  split at h
  · rename_i m l h1 h2
    cases h
    exact ⟨m, l, h1, h2, rfl⟩
  · cases h
theorem ass_strIt {pg : Pg} {ρ : Asg} {i : Nat} {s : ByteArray} {pos : Nat} {A : Ass} (h : (CB.strIt s pos).ass pg ρ i = some A) : ∃ m, idO ρ i = some m ∧ A = ObjA m (.stringIter s pos) := by
  simp only [CB.ass] at h
  split at h
  · rename_i m h1
    cases h
    exact ⟨m, h1, rfl⟩
  · cases h
theorem ass_mapIt {pg : Pg} {ρ : Asg} {i m since : Nat} {seen : List Nat} {last : Nat} {A : Ass} (h : (CB.mapIt m since seen last).ass pg ρ i = some A) : ∃ r m', idO ρ i = some r ∧ idO ρ m = some m' ∧ A = ObjA r (.mapIter (some m') since seen.toArray last) := by
  simp only [CB.ass] at h
  split at h
  · rename_i r m' h1 h2
    cases h
    exact ⟨r, m', h1, h2, rfl⟩
  · cases h
theorem val_mp_inv {ρ : Asg} {i : Nat} {v : Value} (h : val ρ (.mp i) = some v) : ∃ m, idO ρ i = some m ∧ v = .map (some m) := by
  simp only [val] at h
  unfold idO
  split at h
  · rename_i r hr
    try rw [hr]
    split at h
    · rename_i m hm
      cases h
      exact ⟨m, hm, rfl⟩
    · cases h
  · cases h
theorem val_ob_inv {ρ : Asg} {i : Nat} {v : Value} (h : val ρ (.ob i) = some v) : ∃ m, idO ρ i = some m ∧ v = .pointer (some ⟨m, 0, none⟩) := by
  simp only [val] at h
  unfold idO
  split at h
  · rename_i r hr
    try rw [hr]
    split at h
    · rename_i m hm
      cases h
      exact ⟨m, hm, rfl⟩
    · cases h
  · cases h
theorem esV_cons {ρ : Asg} {k v : CV} {b : Nat} {es : List (CV × CV × Nat)} {l : List MapEntry} (h : esV ρ ((k, v, b) :: es) = some l) : ∃ k' v' l', val ρ k = some k' ∧ val ρ v = some v' ∧ esV ρ es = some l' ∧ l = ⟨k', v', b⟩ :: l' := by
  simp only [esV] at h
  split at h
  · rename_i k' v' l' h1 h2 h3
    cases h
    exact ⟨k', v', l', h1, h2, h3, rfl⟩
  · cases h
theorem esV_get {ρ : Asg} : ∀ {es : List (CV × CV × Nat)} {l : List MapEntry} (_ : esV ρ es = some l) {n : Nat} {k v : CV} {b : Nat}, es[n]? = some (k, v, b) → ∃ k' v', val ρ k = some k' ∧ val ρ v = some v' ∧ l[n]? = some ⟨k', v', b⟩
  | [], l, h, n, k, v, b, hn => by simp at hn
  | (k0, v0, b0) :: es, l, h, n, k, v, b, hn => by
    obtain ⟨k', v', l', h1, h2, h3, rfl⟩ := esV_cons h
    cases n with
    | zero =>
      simp only [List.getElem?_cons_zero, Option.some.injEq, Prod.mk.injEq] at hn
      obtain ⟨rfl, rfl, rfl⟩ := hn
      exact ⟨k', v', h1, h2, rfl⟩
    | succ n =>
      simp only [List.getElem?_cons_succ] at hn ⊢
      exact esV_get h3 hn
theorem esV_length {ρ : Asg} : ∀ {es : List (CV × CV × Nat)} {l : List MapEntry} (_ : esV ρ es = some l), l.length = es.length
  | [], l, h => by cases (show some [] = some l from h); rfl
  | (k0, v0, b0) :: es, l, h => by
    obtain ⟨k', v', l', h1, h2, h3, rfl⟩ := esV_cons h
    simp [esV_length h3]
theorem esV_append {ρ : Asg} : ∀ {es es' : List (CV × CV × Nat)} {l l' : List MapEntry} (_ : esV ρ es = some l) (_ : esV ρ es' = some l'), esV ρ (es ++ es') = some (l ++ l')
  | [], es', l, l', h, h' => by cases (show some [] = some l from h); exact h'
  | (k0, v0, b0) :: es, es', l, l', h, h' => by
    obtain ⟨k', v', l'', h1, h2, h3, rfl⟩ := esV_cons h
    simp only [List.cons_append, esV, h1, h2, esV_append h3 h']
theorem esV_one {ρ : Asg} {k v : CV} {b : Nat} {k' v' : Value} (h : val ρ k = some k') (h' : val ρ v = some v') : esV ρ [(k, v, b)] = some [⟨k', v', b⟩] := by simp only [esV, h, h']
theorem setVal_cons (n : Nat) (x : CV) (p : CV × CV × Nat) (es : List (CV × CV × Nat)) : setVal n x (p :: es) = (match n with
    | 0 => (p.1, x, p.2.2) :: es
    | n + 1 => p :: setVal n x es) := rfl
theorem esV_set {ρ : Asg} {x : CV} {xv : Value} (hx : val ρ x = some xv) : ∀ {es : List (CV × CV × Nat)} {l : List MapEntry} (_ : esV ρ es = some l) (n : Nat), esV ρ (setVal n x es) = some (l.modify n fun e => { e with val := xv })
  | [], l, h, n => by cases (show some [] = some l from h); show some [] = _; simp
  | (k0, v0, b0) :: es, l, h, n => by
    obtain ⟨k', v', l', h1, h2, h3, rfl⟩ := esV_cons h
    rw [setVal_cons]
    cases n with
    | zero => simp [esV, h1, hx, h3]
    | succ n => simp [esV, h1, h2, esV_set hx h3 n]
theorem ba_beq (a b : ByteArray) : (a == b) = decide (a = b) := by
  have h : (a == b) = (a.data == b.data) := by
    cases a; cases b; rfl
  rw [h]
  by_cases hab : a = b
  · subst hab; simp
  · have : a.data ≠ b.data := fun h => hab (by cases a; cases b; simp_all)
    simp [hab, this]
theorem keyC_cons (d : TypeDesc) (k : CV) (p : CV × CV × Nat) (es : List (CV × CV × Nat)) (i : Nat) : keyC d k (p :: es) i = (match d, k, p.1 with
    | .int _, .v (.int q a), .v (.int q' b) => match ikEq q q' with
      | true => (match decide (a = b) with | true => some (some (i, p.2.1)) | false => keyC d k es (i + 1))
      | false => none
    | .string, .v (.string a), .v (.string b) => match eqBytes a.data.toList b.data.toList with
      | true => some (some (i, p.2.1))
      | false => keyC d k es (i + 1)
    | _, _, _ => none) := rfl
/-- a key's kind, told -/
def keyK (d : TypeDesc) (v : Value) : Prop := match d, v with
  | .int _, .int _ _ => True
  | .string, .string _ => True
  | _, _ => False
theorem keyC_spec {ρ : Asg} {d : TypeDesc} {k : CV} {kv : Value} (hk : val ρ k = some kv) : ∀ {es : List (CV × CV × Nat)} {l : List MapEntry} (_ : esV ρ es = some l) {i : Nat} {r : Option (Nat × CV)}, keyC d k es i = some r →
    (r = none ∧ Instr.findNow d kv l i = some none) ∨ (∃ n v k' v' b x, r = some (i + n, v) ∧ es[n]? = some (x, v, b) ∧ l[n]? = some ⟨k', v', b⟩ ∧ val ρ v = some v' ∧ k' = kv ∧ keyK d kv ∧ Instr.findNow d kv l i = some (some (i + n, v')))
  | [], l, h, i, r, hr => by
    cases (show some [] = some l from h)
    cases (show some none = some r from hr)
    exact .inl ⟨rfl, rfl⟩
  | (k0, v0, b0) :: es, l, h, i, r, hr => by
    obtain ⟨k', v', l', h1, h2, h3, rfl⟩ := esV_cons h
    rw [keyC_cons] at hr
    have step : ∀ {r : Option (Nat × CV)}, Instr.sameNow d kv k' = some false → keyC d k es (i + 1) = some r → (r = none ∧ Instr.findNow d kv (⟨k', v', b0⟩ :: l') i = some none) ∨ (∃ n v k'' v'' b x, r = some (i + n, v) ∧ ((k0, v0, b0) :: es)[n]? = some (x, v, b) ∧ ((⟨k', v', b0⟩ :: l') : List MapEntry)[n]? = some ⟨k'', v'', b⟩ ∧ val ρ v = some v'' ∧ k'' = kv ∧ keyK d kv ∧ Instr.findNow d kv (⟨k', v', b0⟩ :: l') i = some (some (i + n, v''))) := by
      intro r hs hr
      rcases keyC_spec hk h3 hr with ⟨g1, g2⟩ | ⟨n, v, k'', v'', b, x, g1, g2, g3, g4, g5, g6, g7⟩
      · exact .inl ⟨g1, by simp only [Instr.findNow, hs]; exact g2⟩
      · refine .inr ⟨n + 1, v, k'', v'', b, x, by rw [g1, show i + 1 + n = i + (n + 1) by omega], by simpa using g2, by simpa using g3, g4, g5, g6, ?_⟩
        simp only [Instr.findNow, hs]
        rw [g7, show i + 1 + n = i + (n + 1) by omega]
    split at hr
    · rename_i q a q' b hp
      cases hk
      simp only at hp
      subst hp
      cases h1
      split at hr
      · rename_i hq
        have hqq := ikEq_eq hq
        subst hqq
        split at hr
        · rename_i hab
          cases hr
          have := of_decide_eq_true hab
          subst this
          exact .inr ⟨0, v0, _, v', b0, _, rfl, rfl, rfl, h2, rfl, trivial, by simp [Instr.findNow, Instr.sameNow]⟩
        · rename_i hab
          have hab := of_decide_eq_false hab
          exact step (by simp [Instr.sameNow, hab]) hr
      · cases hr
    · rename_i a b hp
      cases hk
      simp only at hp
      subst hp
      cases h1
      have e1 : (a == b) = eqBytes a.data.toList b.data.toList := by rw [eqBytes_eq, str_deq, ba_beq]
      split at hr
      · rename_i hab
        cases hr
        rw [hab] at e1
        have : a = b := by
          rw [eqBytes_eq, str_deq] at hab
          exact of_decide_eq_true hab
        subst this
        exact .inr ⟨0, v0, _, v', b0, _, rfl, rfl, rfl, h2, rfl, trivial, by simp [Instr.findNow, Instr.sameNow, e1]⟩
      · rename_i hab
        exact step (by simp [Instr.sameNow, e1, hab]) hr
    · cases hr
theorem run_checkKeyS {P : Program} {w : World} {b : Bool} {n t : Nat} (v : Value) (ht : P.underlying t = some .string) : (Instr.checkKey b (n + 1) t v).run P w = .ok () w := by
  cases v <;> simp [Instr.checkKey, run_underlying ht]
theorem keyD_run {P : Program} {t : Nat} {d : TypeDesc} (h : keyD d = true) (ht : P.underlying t = some d) (w : World) (b : Bool) (v : Value) : (Instr.checkKey b 10000 t v).run P w = .ok () w := by
  unfold keyD at h
  split at h
  · exact run_checkKey v ht
  · exact run_checkKeyS v ht
  · cases h
theorem findKey_run {P : Program} {t : Nat} {d : TypeDesc} {kv : Value} {l : List MapEntry} {r : Option (Nat × Value)} (ht : P.underlying t = some d) (h : Instr.findNow d kv l 0 = some r) (w : World) : (Instr.findKey t kv l).run P w = .ok r w := by
  simp [Instr.findKey, run_underlying ht, h]
theorem keyK_stays {P : Program} {d : TypeDesc} {kv : Value} (h : keyK d kv) (w : World) : (Instr.keyThatStays kv kv).run P w = .ok kv w := by
  unfold keyK at h
  split at h
  · simp [Instr.keyThatStays, Instr.sameBits]
  · rename_i s
    simp [Instr.keyThatStays, Instr.sameBits, ba_beq]
  · cases h
section
variable {c : Cx} {pg : Pg} (hcT : c.T = pg.T) {o : Oper} {e : Look} {s : Sn} {r : O2}
include hcT
theorem mapTy_spec {t : Nat} {kd : TypeDesc} {ed : TI} (h : mapTy pg.T t = some (kd, ed)) : ∃ kt et, c.P.underlying t = some (.map kt et) ∧ c.P.underlying kt = some kd ∧ TIok c.P et ed ∧ keyD kd = true := by
  unfold mapTy at h
  split at h
  · rename_i ti hti
    split at h
    · rename_i kt et hd
      split at h
      · rename_i kd' ed' h1 h2
        split at h
        · rename_i hk
          cases h
          have := (getT_ok hcT hti).1
          rw [hd] at this
          exact ⟨kt, et, this, (getT_ok hcT h1).1, getT_ok hcT h2, hk⟩
        · cases h
      · cases h
    · cases h
  · cases h
omit hcT in
/-- a map that is read -/
theorem find_map {ρ : Asg} {F L : List Blk} {w : World} (hp : Pre c pg ρ s F L w) {i clk : Nat} {es : List (CV × CV × Nat)} (h : s.st.find i = some (.map es clk)) {m : Nat} (hm : idO ρ i = some m) : ∃ l, esV ρ es = some l ∧ w.heap[m]? = some (.map l.toArray clk) := by
  obtain ⟨B, T, h1, h2, _⟩ := find_holds h hp.ro hp.rw hp.k
  obtain ⟨m', l, h3, h4, rfl⟩ := ass_map h1
  rw [hm] at h3
  cases h3
  exact ⟨l, h4, h2.2⟩
theorem opMakeMap_s {t : Nat} {x : Option Operand} (ho : o.op = .makeMap t x) (h : opMakeMap pg e s t x = .ok r) : OpS c pg o e s r := by
  have hnd : ∀ cl, o.op ≠ .defer cl := by rw [ho]; intro cl e; cases e
  have key : ∀ {ρ : Asg} {F L : List Blk} {w : World}, Pre c pg ρ s F L w → newR s (.map [] 0) (.mp s.nx) = .ok r → ∃ ρ' L', Post c pg ρ F s r ρ' (.map (some w.heap.size)) L' (w.alloc (.map #[] 0)) := fun {ρ F L w} hp hr =>
    Post.new hr hp ⟨some (w.heap.size, 0), 0⟩ (A := ObjA w.heap.size (.map #[] 0)) (v := .map (some w.heap.size)) (by simp [CB.ass, idO, Asg.ins_get, RV.id, esV]) (by simp [val, Asg.ins_get, RV.id]) (fun H hk => Kn0.allocO' hk s.nx _)
  unfold opMakeMap at h
  split at h
  · refine OpS.run hnd fun ρ F L a w hp ht => ?_
    obtain ⟨ρ', L', hpost⟩ := key hp h
    exact ⟨ρ', _, L', _, by simp [execOp, ho, Instr.makeMap], hpost⟩
  · rename_i x
    split at h
    rotate_left
    · cases h
    rename_i y mt hy hmt
    split at h
    rotate_left
    · cases h
    rename_i n hn
    split at h
    rotate_left
    · cases h
    obtain ⟨q, rfl⟩ := natC_ok hn
    obtain ⟨kt, et, h1, _⟩ := mapTy_spec (kd := mt.1) (ed := mt.2) hcT hmt
    refine OpS.run hnd fun ρ F L a w hp ht => ?_
    obtain ⟨ρ', L', hpost⟩ := key hp h
    have e1 := (Option.some.inj (opdC_spec hp.gl ht hy)).symm
    exact ⟨ρ', _, L', _, by simp [execOp, ho, Instr.makeMap, e1, run_underlying h1, asInt, asIntOf], hpost⟩
theorem opLookup_s {t : Nat} {x ix : Operand} {ok : Bool} (ho : o.op = .lookup t x ix ok) (h : opLookup pg e s t x ix ok = .ok r) : OpS c pg o e s r := by
  have hnd : ∀ cl, o.op ≠ .defer cl := by rw [ho]; intro cl e; cases e
  unfold opLookup at h
  split at h
  rotate_left
  · cases h
  rename_i m k kd ed hm hk hmt
  obtain ⟨kt, et, h1, h2, h3, h4⟩ := mapTy_spec hcT hmt
  split at h
  rotate_left
  · cases h
  rename_i es hes
  split at h
  rotate_left
  · cases h
  rename_i r0 hr0
  refine OpS.pure h hnd fun ρ F L a w hp ht => ?_
  have e1 := opdC_spec hp.gl ht hm
  have e2 := opdC_spec hp.gl ht hk
  have hl : ∃ l, esV ρ es = some l ∧ ((a.eval x = .map none ∧ l = []) ∨ ∃ m clk, a.eval x = .map (some m) ∧ w.heap[m]? = some (.map l.toArray clk)) := by
    split at hes
    · cases hes
      exact ⟨[], rfl, .inl ⟨(Option.some.inj e1).symm, rfl⟩⟩
    · split at hes
      · rename_i i es' clk hf
        cases hes
        obtain ⟨m, g1, g2⟩ := val_mp_inv e1
        obtain ⟨l, g3, g4⟩ := find_map hp hf g1
        exact ⟨l, g3, .inr ⟨m, clk, g2, g4⟩⟩
      · cases hes
    · cases hes
  obtain ⟨l, hl1, hl2⟩ := hl
  have hfind : ∃ rv, (Instr.findKey kt (a.eval ix) l).run c.P w = .ok rv w ∧ ((r0 = none ∧ rv = none) ∨ ∃ n v v', r0 = some (n, v) ∧ rv = some (n, v') ∧ val ρ v = some v') := by
    rcases keyC_spec e2 hl1 hr0 with ⟨g1, g2⟩ | ⟨n, v, k', v', b, x, g1, g2, g3, g4, g5, g6, g7⟩
    · exact ⟨none, findKey_run h2 g2 w, .inl ⟨g1, rfl⟩⟩
    · exact ⟨_, findKey_run h2 g7 w, .inr ⟨_, _, _, g1, rfl, g4⟩⟩
  obtain ⟨rv, hrv1, hrv2⟩ := hfind
  have hck := keyD_run (P := c.P) h4 h2 w l.isEmpty (a.eval ix)
  have hz := r_zeroValue h3 w
  have hrun : ∀ u b, ((∃ n, rv = some (n, u) ∧ b = true) ∨ (rv = none ∧ u = ed.zero ∧ b = false)) → (execOp a.eval o).run c.P w = .ok (.value (if ok then .tuple #[u, .bool b] else u)) w := by
    intro u b hub
    rcases hl2 with ⟨g1, rfl⟩ | ⟨m', clk, g1, g2⟩
    · simp only [List.isEmpty_nil] at hck
      rcases hub with ⟨n, rfl, rfl⟩ | ⟨rfl, rfl, rfl⟩ <;> cases ok <;> simp [execOp, ho, g1, Instr.lookup, run_underlying h1, hck, hrv1, hz]
    · have hg := getObj_ran (P := c.P) g2 (by intro _ _ _ e; cases e)
      rcases hub with ⟨n, rfl, rfl⟩ | ⟨rfl, rfl, rfl⟩ <;> cases ok <;> simp [execOp, ho, g1, Instr.lookup, run_underlying h1, hg, hck, hrv1, hz]
  rcases hrv2 with ⟨rfl, rfl⟩ | ⟨n, v, v', rfl, rfl, g3⟩
  · exact ⟨_, hrun _ _ (.inr ⟨rfl, rfl, rfl⟩), by cases ok <;> simp [zv, val, valL]⟩
  · exact ⟨_, hrun _ _ (.inl ⟨_, rfl, rfl⟩), by cases ok <;> simp [val, valL, g3]⟩
omit hcT in
/-- a map that is changed -/
theorem map_post {ρ : Asg} {F L : List Blk} {w : World} (hp : Pre c pg ρ s F L w) {er i clk clk' : Nat} {es es' : List (CV × CV × Nat)} {l' : List MapEntry} {x : CV} {v : Value} (hf : findB i s.rw = some (.map es clk)) (hr : setR er s i (.map es' clk') x = .ok r) (hv : val ρ x = some v) (he : esV ρ es' = some l') {m : Nat} (hm : idO ρ i = some m) :
    ∃ L', Post c pg ρ F s r ρ v L' { w with heap := w.heap.setIfInBounds m (.map l'.toArray clk') } := by
  refine Post.set hr hp hf hv fun A T hA hT hlt => ?_
  obtain ⟨m', l, h1, h2, rfl⟩ := ass_map hA
  rw [hm] at h1
  cases h1
  exact ⟨_, by simp [CB.ass, hm, he], fpost_set hT (hlt _ hT.1) _⟩
omit hcT in
theorem mod_key {l : List MapEntry} {n : Nat} {e : MapEntry} (h : l[n]? = some e) (v : Value) : (l.modify n fun x => ⟨e.key, v, x.born⟩) = (l.modify n fun x => ⟨x.key, v, x.born⟩) := by
  apply List.ext_getElem?
  intro j
  simp only [List.getElem?_modify]
  by_cases hj : n = j
  · subst hj; rw [h]; simp
  · simp [hj]
omit hcT in
theorem mod_same {l : List MapEntry} {n : Nat} {e : MapEntry} (h : l[n]? = some e) : (l.modify n fun x => ⟨e.key, x.val, x.born⟩) = l := by
  apply List.ext_getElem?
  intro j
  simp only [List.getElem?_modify]
  by_cases hj : n = j
  · subst hj; rw [h]; simp
  · simp [hj]
theorem mapUpd_s {t : Nat} {m k x : Operand} (ho : o.op = .mapUpdate t m k x ∨ o.op = .insert t m k x) (h : opMapUpdate pg e s t m k x = .ok r) : OpS c pg o e s r := by
  have hnd : ∀ cl, o.op ≠ .defer cl := by rcases ho with ho | ho <;> · rw [ho]; intro cl e; cases e
  unfold opMapUpdate at h
  split at h
  rotate_left
  · cases h
  rename_i i k0 x0 kd ed hm hk hx hmt
  obtain ⟨kt, et, h1, h2, h3, h4⟩ := mapTy_spec hcT hmt
  split at h
  rotate_left
  · cases h
  rename_i es clk hf
  refine OpS.skip hnd fun ρ F L a w hp ht => ?_
  have e1 := opdC_spec hp.gl ht hm
  have e2 := opdC_spec hp.gl ht hk
  have e3 := opdC_spec hp.gl ht hx
  obtain ⟨mi, g1, g2⟩ := val_mp_inv e1
  have hfs : s.st.find i = some (.map es clk) := by simp [Sn.st, St.find, hf]
  obtain ⟨l, g3, g4⟩ := find_map hp hfs g1
  have hg := getObj_ran (P := c.P) g4 (by intro _ _ _ e; cases e)
  have hck := keyD_run (P := c.P) h4 h2 w false (a.eval k)
  split at h
  · rename_i n v hkey
    rcases keyC_spec e2 g3 hkey with ⟨q1, q2⟩ | ⟨n', v', k', v'', b, x', q1, q2, q3, q4, q5, q6, q7⟩
    · cases q1
    simp only [Nat.zero_add, Option.some.injEq, Prod.mk.injEq] at q1 q7
    obtain ⟨rfl, rfl⟩ := q1
    obtain ⟨L', hpost⟩ := map_post hp hf h (v := undef) rfl (esV_set e3 g3 n) g1
    refine ⟨ρ, L', _, ?_, hpost⟩
    have hfk := findKey_run (P := c.P) h2 q7 w
    have hst := keyK_stays (P := c.P) q6 w
    have hs := setObj_run (P := c.P) (o' := .map (l.modify n fun x' => { x' with val := a.eval x }).toArray clk) g4 (by intro _ _ _ e; cases e)
    have hmk := mod_key q3 (a.eval x)
    simp only [q5] at hmk
    rcases ho with ho | ho <;> simp [execOp, ho, g2, Instr.mapUpdate, run_underlying h1, hg, hck, hfk, q3, q5, hst, hmk, hs]
  · rename_i hkey
    rcases keyC_spec e2 g3 hkey with ⟨q1, q2⟩ | ⟨n', v', k', v'', b, x', q1, q2, q3, q4, q5, q6, q7⟩
    rotate_left
    · cases q1
    rw [appN_eq] at h
    obtain ⟨L', hpost⟩ := map_post hp hf h (v := undef) rfl (esV_append g3 (esV_one e2 e3)) g1
    refine ⟨ρ, L', _, ?_, hpost⟩
    have hfk := findKey_run (P := c.P) h2 q2 w
    have hs := setObj_run (P := c.P) (o' := .map (l ++ [({ key := a.eval k, val := a.eval x, born := clk } : MapEntry)]).toArray (clk + 1)) g4 (by intro _ _ _ e; cases e)
    rcases ho with ho | ho <;> simp [execOp, ho, g2, Instr.mapUpdate, run_underlying h1, hg, hck, hfk, hs]
  · cases h
theorem opMapEntry_s {t : Nat} {m k : Operand} (ho : o.op = .mapEntry t m k) (h : opMapEntry pg e s t m k = .ok r) : OpS c pg o e s r := by
  have hnd : ∀ cl, o.op ≠ .defer cl := by rw [ho]; intro cl e; cases e
  unfold opMapEntry at h
  split at h
  rotate_left
  · cases h
  rename_i i k0 kd ed hm hk hmt
  obtain ⟨kt, et, h1, h2, h3, h4⟩ := mapTy_spec hcT hmt
  split at h
  rotate_left
  · cases h
  rename_i es clk hf
  refine OpS.run hnd fun ρ F L a w hp ht => ?_
  have e1 := opdC_spec hp.gl ht hm
  have e2 := opdC_spec hp.gl ht hk
  obtain ⟨mi, g1, g2⟩ := val_mp_inv e1
  have hfs : s.st.find i = some (.map es clk) := by simp [Sn.st, St.find, hf]
  obtain ⟨l, g3, g4⟩ := find_map hp hfs g1
  have hg := getObj_ran (P := c.P) g4 (by intro _ _ _ e; cases e)
  have hck := keyD_run (P := c.P) h4 h2 w false (a.eval k)
  split at h
  · rename_i n v hkey
    rcases keyC_spec e2 g3 hkey with ⟨q1, q2⟩ | ⟨n', v', k', v'', b, x', q1, q2, q3, q4, q5, q6, q7⟩
    · cases q1
    simp only [Nat.zero_add, Option.some.injEq, Prod.mk.injEq] at q1 q7
    obtain ⟨rfl, rfl⟩ := q1
    rw [nthN_eq, q2] at h
    simp only at h
    obtain ⟨L', hpost⟩ := map_post hp hf h (v := .tuple #[v'', goInt b]) (by simp [val, valL, q4, iC, goInt]) g3 g1
    refine ⟨ρ, _, L', _, ?_, hpost⟩
    have hfk := findKey_run (P := c.P) h2 q7 w
    have hst := keyK_stays (P := c.P) q6 w
    have hs := setObj_run (P := c.P) (o' := .map l.toArray clk) g4 (by intro _ _ _ e; cases e)
    have hmk := mod_same q3
    simp only [q5] at hmk
    simp [execOp, ho, g2, Instr.mapEntry, run_underlying h1, hg, hck, hfk, q3, q5, hst, hmk, hs]
  · rename_i hkey
    rcases keyC_spec e2 g3 hkey with ⟨q1, q2⟩ | ⟨n', v', k', v'', b, x', q1, q2, q3, q4, q5, q6, q7⟩
    rotate_left
    · cases q1
    rw [appN_eq] at h
    have hz : val ρ (zv ed) = some ed.zero := rfl
    obtain ⟨L', hpost⟩ := map_post hp hf h (v := .tuple #[ed.zero, goInt clk]) (by simp [val, valL, hz, iC, goInt]) (esV_append g3 (esV_one e2 hz)) g1
    refine ⟨ρ, _, L', _, ?_, hpost⟩
    have hfk := findKey_run (P := c.P) h2 q2 w
    have hs := setObj_run (P := c.P) (o' := .map (l ++ [({ key := a.eval k, val := ed.zero, born := clk } : MapEntry)]).toArray (clk + 1)) g4 (by intro _ _ _ e; cases e)
    simp [execOp, ho, g2, Instr.mapEntry, run_underlying h1, hg, hck, hfk, hs, r_zeroValue h3 w]
  · cases h
omit hcT in
theorem findBorn_spec {ρ : Asg} {b : Nat} : ∀ {es : List (CV × CV × Nat)} {l : List MapEntry} (_ : esV ρ es = some l) {i n : Nat} {k v : CV}, findBorn b es i = some (n, k, v) → ∃ m k' v', n = i + m ∧ l[m]? = some ⟨k', v', b⟩ ∧ val ρ k = some k' ∧ val ρ v = some v' ∧ (∀ j e, j < m → l[j]? = some e → e.born ≠ b)
  | [], l, h, i, n, k, v, hn => by cases (show (none : Option (Nat × CV × CV)) = some _ from hn)
  | (k0, v0, b0) :: es, l, h, i, n, k, v, hn => by
    obtain ⟨k', v', l', h1, h2, h3, rfl⟩ := esV_cons h
    have hn' : (match Nat.beq b0 b with
      | true => some (i, k0, v0)
      | false => findBorn b es (i + 1)) = some (n, k, v) := hn
    split at hn'
    · rename_i hb
      cases hn'
      have := Nat.eq_of_beq_eq_true hb
      subst this
      exact ⟨0, k', v', rfl, rfl, h1, h2, fun j e hj => by omega⟩
    · rename_i hb
      obtain ⟨m, k'', v'', g1, g2, g3, g4, g5⟩ := findBorn_spec h3 hn'
      refine ⟨m + 1, k'', v'', by omega, by simpa using g2, g3, g4, fun j e hj he => ?_⟩
      cases j with
      | zero =>
        simp only [List.getElem?_cons_zero, Option.some.injEq] at he
        subst he
        rw [nbeq, decide_eq_false_iff_not] at hb
        exact hb
      | succ j =>
        simp only [List.getElem?_cons_succ] at he
        exact g5 j e (by omega) he
omit hcT in
theorem born_idx {l : List MapEntry} {m b : Nat} {e : MapEntry} (h : l[m]? = some e) (hb : e.born = b) (h' : ∀ j e, j < m → l[j]? = some e → e.born ≠ b) : l.toArray.findIdx? (fun e => (e.born : Int) == (b : Int)) = some m ∧ l.find? (fun e => e.born == b) = some e := by
  obtain ⟨hlt, hget⟩ := List.getElem?_eq_some_iff.1 h
  constructor
  · simp only [List.findIdx?_toArray]
    rw [List.findIdx?_eq_some_iff_getElem]
    refine ⟨hlt, by rw [hget, hb]; simp, fun j hj => ?_⟩
    have := h' j l[j] hj (List.getElem?_eq_getElem (by omega))
    simp only [Bool.not_eq_true, beq_eq_false_iff_ne, ne_eq]
    omega
  · rw [List.find?_eq_some_iff_getElem]
    refine ⟨by rw [hb]; simp, m, hlt, hget, fun j hj => ?_⟩
    have := h' j l[j] hj (List.getElem?_eq_getElem (by omega))
    simpa using this
omit hcT in
theorem opEntryStore_s {t : Nat} {m k x : Operand} (ho : o.op = .entryStore t m k x) (h : opEntryStore e s m k x = .ok r) : OpS c pg o e s r := by
  have hnd : ∀ cl, o.op ≠ .defer cl := by rw [ho]; intro cl e; cases e
  unfold opEntryStore at h
  split at h
  rotate_left
  · cases h
  rename_i i k0 x0 hm hk hx
  split at h
  rotate_left
  · cases h
  rename_i es clk b hf hn
  split at h
  rotate_left
  · cases h
  rename_i n k1 v1 hb
  obtain ⟨q, rfl⟩ := natC_ok hn
  refine OpS.skip hnd fun ρ F L a w hp ht => ?_
  have e1 := opdC_spec hp.gl ht hm
  have e2 := (Option.some.inj (opdC_spec hp.gl ht hk)).symm
  have e3 := opdC_spec hp.gl ht hx
  obtain ⟨mi, g1, g2⟩ := val_mp_inv e1
  have hfs : s.st.find i = some (.map es clk) := by simp [Sn.st, St.find, hf]
  obtain ⟨l, g3, g4⟩ := find_map hp hfs g1
  have hg := getObj_ran (P := c.P) g4 (by intro _ _ _ e; cases e)
  obtain ⟨j, k', v', q1, q2, q3, q4, q5⟩ := findBorn_spec g3 hb
  rw [Nat.zero_add] at q1
  subst q1
  obtain ⟨L', hpost⟩ := map_post hp hf h (v := undef) rfl (esV_set e3 g3 n) g1
  refine ⟨ρ, L', _, ?_, hpost⟩
  have hs := setObj_run (P := c.P) (o' := .map (l.modify n fun x' => { x' with val := a.eval x }).toArray clk) g4 (by intro _ _ _ e; cases e)
  have hfi := (born_idx q2 rfl q5).1
  simp only [List.findIdx?_toArray] at hfi
  simp [execOp, ho, g2, e2, Instr.entryStore, hg, asInt, asIntOf, hfi, hs]
theorem opRange_s {t : Nat} {x : Operand} (ho : o.op = .range t x) (h : opRange pg e s t x = .ok r) : OpS c pg o e s r := by
  have hnd : ∀ cl, o.op ≠ .defer cl := by rw [ho]; intro cl e; cases e
  unfold opRange at h
  split at h
  rotate_left
  · cases h
  rename_i y ti hx hti
  have h1 := (getT_ok hcT hti).1
  split at h
  · rename_i b hd
    rw [hd] at h1
    refine OpS.run hnd fun ρ F L a w hp ht => ?_
    have e1 := (Option.some.inj (opdC_spec hp.gl ht hx)).symm
    obtain ⟨ρ', L', hpost⟩ := Post.new h hp ⟨some (w.heap.size, 0), 0⟩ (A := ObjA w.heap.size (.stringIter b 0)) (v := .pointer (some ⟨w.heap.size, 0, none⟩)) (by simp [CB.ass, idO, Asg.ins_get, RV.id]) (by simp [val, Asg.ins_get, RV.id]) (fun H hk => Kn0.allocO' hk s.nx _)
    exact ⟨ρ', _, L', _, by simp [execOp, ho, e1, Instr.range, run_underlying h1], hpost⟩
  · rename_i kt et i hd
    rw [hd] at h1
    split at h
    rotate_left
    · cases h
    rename_i es clk hf
    refine OpS.run hnd fun ρ F L a w hp ht => ?_
    have e1 := opdC_spec hp.gl ht hx
    obtain ⟨mi, g1, g2⟩ := val_mp_inv e1
    obtain ⟨l, g3, g4⟩ := find_map hp hf g1
    have hg := getObj_ran (P := c.P) g4 (by intro _ _ _ e; cases e)
    have hle : ρ.le (ρ.ins s.nx ⟨some (w.heap.size, 0), 0⟩) := Asg.ins_le hp.free
    have g5 := idO_mono hle g1
    obtain ⟨ρ', L', hpost⟩ := Post.new h hp ⟨some (w.heap.size, 0), 0⟩ (A := ObjA w.heap.size (.mapIter (some mi) clk #[] clk)) (v := .pointer (some ⟨w.heap.size, 0, none⟩))
      (by
        have : idO (ρ.ins s.nx ⟨some (w.heap.size, 0), 0⟩) s.nx = some w.heap.size := by simp [idO, Asg.ins_get, RV.id]
        simp [CB.ass, this, g5]) (by simp [val, Asg.ins_get, RV.id]) (fun H hk => Kn0.allocO' hk s.nx _)
    exact ⟨ρ', _, L', _, by simp [execOp, ho, g2, Instr.range, run_underlying h1, hg], hpost⟩
  · cases h
end
end Go.Y

namespace Go.Y
open Go Go.X
theorem dropN_some {α : Type} : ∀ {n : Nat} {l : List α}, n ≤ l.length → dropN n l = some (l.drop n)
  | 0, l, _ => rfl
  | n + 1, [], h => by simp at h
  | n + 1, x :: l, h => by
    show dropN n l = _
    rw [dropN_some (by simpa using h)]
    rfl
section
variable {c : Cx} {pg : Pg} (hcT : c.T = pg.T) {o : Oper} {e : Look} {s : Sn} {r : O2}
theorem find_mapIt {ρ : Asg} {F L : List Blk} {w : World} (hp : Pre c pg ρ s F L w) {i m since last : Nat} {seen : List Nat} (h : s.st.find i = some (.mapIt m since seen last)) {n : Nat} (hn : idO ρ i = some n) : ∃ m', idO ρ m = some m' ∧ w.heap[n]? = some (.mapIter (some m') since seen.toArray last) := by
  obtain ⟨B, T, h1, h2, _⟩ := find_holds h hp.ro hp.rw hp.k
  obtain ⟨r, m', h3, h4, rfl⟩ := ass_mapIt h1
  rw [hn] at h3
  cases h3
  exact ⟨m', h4, h2.2⟩
theorem find_strIt {ρ : Asg} {F L : List Blk} {w : World} (hp : Pre c pg ρ s F L w) {i pos : Nat} {b : ByteArray} (h : s.st.find i = some (.strIt b pos)) {n : Nat} (hn : idO ρ i = some n) : w.heap[n]? = some (.stringIter b pos) := by
  obtain ⟨B, T, h1, h2, _⟩ := find_holds h hp.ro hp.rw hp.k
  obtain ⟨m', h3, rfl⟩ := ass_strIt h1
  rw [hn] at h3
  cases h3
  exact h2.2
theorem find_of_rw {s : Sn} {i : Nat} {b : CB} (hf : findB i s.rw = some b) : s.st.find i = some b := by simp [Sn.st, St.find, hf]
theorem getLast_back (l : List Nat) : l.toArray.back? = l.getLast? := by simp
theorem opEntry_s {x : Operand} (ho : o.op = .entry x) (h : opEntry e s x = .ok r) : OpS c pg o e s r := by
  have hnd : ∀ cl, o.op ≠ .defer cl := by rw [ho]; intro cl e; cases e
  unfold opEntry at h
  split at h
  rotate_left
  · cases h
  rename_i i hx
  split at h
  rotate_left
  · cases h
  rename_i m since seen last hf
  split at h
  rotate_left
  · cases h
  rename_i es clk b hm hl
  split at h
  rotate_left
  · cases h
  rename_i n k v hc hb
  refine OpS.pure h hnd fun ρ F L a w hp ht => ?_
  have e1 := opdC_spec hp.gl ht hx
  obtain ⟨mi, g1, g2⟩ := val_ob_inv e1
  obtain ⟨m', g3, g4⟩ := find_mapIt hp hf g1
  obtain ⟨l, g5, g6⟩ := find_map hp hm g3
  obtain ⟨j, k', v', q1, q2, q3, q4, q5⟩ := findBorn_spec g5 hb
  have hfi := (born_idx q2 rfl q5).2
  have hg := getObj_ran (P := c.P) g4 (by intro _ _ _ e; cases e)
  have hg' := getObj_ran (P := c.P) g6 (by intro _ _ _ e; cases e)
  have hcl := Nat.eq_of_beq_eq_true hc
  subst hcl
  have hlb : seen.toArray.back? = some b := by rw [getLast_back]; exact hl
  refine ⟨.tuple #[k', v'], ?_, by simp [val, valL, q3, q4]⟩
  simp only [List.back?_toArray] at hlb
  simp [execOp, ho, g2, Instr.entry, hg, hg', hlb, hfi]
theorem opNextT_s {x : Operand} (ho : o.op = .next x true) (h : opNextT e s x = .ok r) : OpS c pg o e s r := by
  have hnd : ∀ cl, o.op ≠ .defer cl := by rw [ho]; intro cl e; cases e
  unfold opNextT at h
  split at h
  rotate_left
  · cases h
  rename_i i hx
  split at h
  rotate_left
  · cases h
  rename_i b pos hf
  refine OpS.run hnd fun ρ F L a w hp ht => ?_
  have e1 := opdC_spec hp.gl ht hx
  obtain ⟨mi, g1, g2⟩ := val_ob_inv e1
  have g3 := find_strIt hp (find_of_rw hf) g1
  have hg := getObj_ran (P := c.P) g3 (by intro _ _ _ e; cases e)
  have hset : ∀ {er pos' : Nat} {y : CV} {v : Value}, setR er s i (.strIt b pos') y = .ok r → val ρ y = some v → ∃ L', Post c pg ρ F s r ρ v L' { w with heap := w.heap.setIfInBounds mi (.stringIter b pos') } := by
    intro er pos' y v hr hv
    refine Post.set hr hp hf hv fun A T hA hT hlt => ?_
    obtain ⟨m', h1, rfl⟩ := ass_strIt hA
    rw [g1] at h1
    cases h1
    exact ⟨_, by simp [CB.ass, g1], fpost_set hT (hlt _ hT.1) _⟩
  have hs : ∀ pos', (setObj mi (.stringIter b pos')).run c.P w = .ok () { w with heap := w.heap.setIfInBounds mi (.stringIter b pos') } := fun pos' => setObj_run (P := c.P) g3 (by intro _ _ _ e; cases e)
  have hsz : b.data.toList.length = b.size := by rw [Array.length_toList]; rfl
  split at h
  · rename_i c0 rest hd
    obtain ⟨h1, h2⟩ := dropN_spec hd
    have hlt : pos < b.size := by
      have : (b.data.toList.drop pos).length = rest.length + 1 := by rw [← h2]; rfl
      rw [List.length_drop] at this
      omega
    split at h
    · rename_i hc0
      rw [nblt, decide_eq_true_eq] at hc0
      obtain ⟨L', hpost⟩ := hset h (v := .tuple #[.bool true, goInt pos, .int .i32 c0.toNat]) (by simp [val, valL, iC, goInt])
      refine ⟨ρ, _, L', _, ?_, hpost⟩
      have hget : b.data.toList[pos]? = some c0 := by
        have : (b.data.toList.drop pos)[0]? = some c0 := by rw [← h2]; rfl
        rwa [List.getElem?_drop, Nat.add_zero] at this
      have hg0 : b.get! pos = c0 := by
        show b.data[pos]! = c0
        rw [getElem!_def, ← Array.getElem?_toList, hget]
      have hdec : Utf8.decode b pos = (c0.toNat, 1) := by
        simp [Utf8.decode, hg0, hc0]
      simp [execOp, ho, g2, Instr.next, hg, hlt, hs, hdec]
    · cases hdec : Utf8.decode b pos with
      | mk cc ww =>
        rw [hdec] at h
        simp only at h
        obtain ⟨L', hpost⟩ := hset h (v := .tuple #[.bool true, goInt pos, .int .i32 cc]) (by simp [val, valL, iC, goInt])
        exact ⟨ρ, _, L', _, by simp [execOp, ho, g2, Instr.next, hg, hlt, hs, hdec], hpost⟩
  · rename_i hno
    rw [pureR_eq] at h
    cases h
    refine ⟨ρ, .tuple #[.bool false], L, w, ?_, .refl ρ, hp.free, Nat.le_refl _, by simp [val, valL], hp.rw, hp.k⟩
    have hnl : ¬ pos < b.size := by
      intro hlt
      have hd := dropN_some (n := pos) (l := b.data.toList) (by omega)
      cases hdd : b.data.toList.drop pos with
      | nil =>
        have : (b.data.toList.drop pos).length = 0 := by rw [hdd]; rfl
        rw [List.length_drop] at this
        omega
      | cons c0 rest => exact hno c0 rest (by rw [hd, hdd])
    simp [execOp, ho, g2, Instr.next, hg, hnl]
theorem opTypeAssert_s (hcT : c.T = pg.T) {x : Operand} {xt t : Nat} {ok : Bool} (ho : o.op = .typeAssert x xt t ok) (h : opTypeAssert pg e s x t ok = .ok r) : OpS c pg o e s r := by
  have hnd : ∀ cl, o.op ≠ .defer cl := by rw [ho]; intro cl e; cases e
  unfold opTypeAssert at h
  split at h
  rotate_left
  · cases h
  rename_i y ti hx hti
  have hto := getT_ok hcT hti
  have h1 := hto.1
  split at h
  · cases h
  · rename_i d t' z hy hd
    have hds : ∀ w, ti.desc ≠ .interface w := fun w e => hd w e
    split at h
    · rename_i htt
      have htt := Nat.eq_of_beq_eq_true htt
      subst htt
      refine OpS.pure h hnd fun ρ F L a w hp ht => ?_
      have e1 := opdC_spec hp.gl ht hx
      rw [← val_opn, hy] at e1
      simp only [val] at e1
      split at e1
      rotate_left
      · cases e1
      rename_i z' hz
      have e1 := (Option.some.inj e1).symm
      refine ⟨if ok then .tuple #[z', .bool true] else z', ?_, by cases ok <;> simp [val, valL, hz]⟩
      cases hdd : ti.desc with
      | interface w => exact absurd hdd (hds w)
      | _ => cases ok <;> simp [execOp, ho, e1, Instr.typeAssert, run_underlying h1, hdd]
    · rename_i htt
      rw [nbeq, decide_eq_false_iff_not] at htt
      split at h
      rotate_left
      · cases h
      refine OpS.pure h hnd fun ρ F L a w hp ht => ?_
      have e1 := opdC_spec hp.gl ht hx
      rw [← val_opn, hy] at e1
      simp only [val] at e1
      split at e1
      rotate_left
      · cases e1
      rename_i z' hz
      have e1 := (Option.some.inj e1).symm
      refine ⟨.tuple #[ti.zero, .bool false], ?_, by simp [zv, val, valL]⟩
      cases hdd : ti.desc with
      | interface w => exact absurd hdd (hds w)
      | _ => simp [execOp, ho, e1, Instr.typeAssert, run_underlying h1, hdd, htt, r_zeroValue hto w]
  · cases h
end
end Go.Y

namespace Go.Y
open Go Go.X
theorem memN_contains (t : Nat) (l : List Nat) : memN t l = l.contains t := by
  cases h : memN t l with
  | true => rw [List.contains_iff_mem.2 (memN_iff.1 h)]
  | false =>
    cases h' : l.contains t with
    | false => rfl
    | true => rw [memN_iff.2 (List.contains_iff_mem.1 h')] at h; cases h
section
variable {c : Cx} {pg : Pg} {o : Oper} {e : Look} {s : Sn} {r : O2}
theorem unseen_val {ρ : Asg} (seen : List Nat) : ∀ {es : List (CV × CV × Nat)} {l : List MapEntry} (_ : esV ρ es = some l), esV ρ (unseen seen es) = some (l.filter fun e => !seen.contains e.born)
  | [], l, h => by cases (show some [] = some l from h); rfl
  | (k0, v0, b0) :: es, l, h => by
    obtain ⟨k', v', l', h1, h2, h3, rfl⟩ := esV_cons h
    show esV ρ (match memK b0 seen with | true => unseen seen es | false => (k0, v0, b0) :: unseen seen es) = _
    have ih := unseen_val seen h3
    rw [memK_eq]
    have hm : memN b0 seen = seen.contains b0 := memN_contains b0 seen
    cases hc : seen.contains b0 <;> rw [hm, hc] <;> simp only [List.filter_cons, hc]
    · simp [esV, h1, h2, ih]
    · simpa using ih
theorem anyLt_val {ρ : Asg} {n : Nat} : ∀ {es : List (CV × CV × Nat)} {l : List MapEntry} (_ : esV ρ es = some l), anyLt n es = true → (l.all fun e => decide (n ≤ e.born)) = false
  | [], l, h, ha => by cases (show false = true from ha)
  | (k0, v0, b0) :: es, l, h, ha => by
    obtain ⟨k', v', l', h1, h2, h3, rfl⟩ := esV_cons h
    have ha : (match Nat.blt b0 n with | true => true | false => anyLt n es) = true := ha
    split at ha
    · rename_i hb
      rw [nblt, decide_eq_true_eq] at hb
      have : ¬ n ≤ b0 := by omega
      simp [this]
    · have := anyLt_val h3 ha
      simp only [List.all_cons, this, Bool.and_false]
theorem okIt_val {ρ : Asg} {seen : List Nat} {last : Nat} {es : List (CV × CV × Nat)} {l : List MapEntry} (h : esV ρ es = some l) (ho : okIt seen last es = true) : (!seen.isEmpty && !l.isEmpty && l.all fun e => decide (last ≤ e.born)) = false := by
  unfold okIt at ho
  split at ho
  · simp
  · cases (show some [] = some l from h); simp
  · rw [anyLt_val h ho, Bool.and_false]
theorem opNextF_s {x : Operand} (ho : o.op = .next x false) (h : opNextF e s x = .ok r) : OpS c pg o e s r := by
  have hnd : ∀ cl, o.op ≠ .defer cl := by rw [ho]; intro cl e; cases e
  unfold opNextF at h
  split at h
  rotate_left
  · cases h
  rename_i i hx
  split at h
  rotate_left
  · cases h
  rename_i m since seen last hf
  split at h
  rotate_left
  · cases h
  rename_i es clk hm
  refine OpS.run hnd fun ρ F L a w hp ht => ?_
  have e1 := opdC_spec hp.gl ht hx
  obtain ⟨mi, g1, g2⟩ := val_ob_inv e1
  obtain ⟨m', g3, g4⟩ := find_mapIt hp (find_of_rw hf) g1
  obtain ⟨l, g5, g6⟩ := find_map hp hm g3
  have hg := getObj_ran (P := c.P) g4 (by intro _ _ _ e; cases e)
  have hg' := getObj_ran (P := c.P) g6 (by intro _ _ _ e; cases e)
  have hun := unseen_val seen g5
  split at h
  · rename_i hu hok
    have hokv := okIt_val g5 hok
    rw [hu] at hun
    have hnil := (Option.some.inj hun).symm
    rw [pureR_eq] at h
    cases h
    refine ⟨ρ, .tuple #[.bool false], L, w, ?_, .refl ρ, hp.free, Nat.le_refl _, by simp [val, valL], hp.rw, hp.k⟩
    have hA : (!seen.toArray.isEmpty && !l.toArray.isEmpty && l.toArray.all fun e => decide (e.born ≥ last)) = false := by simpa using hokv
    have hleft : (l.toArray.filter fun e => !seen.toArray.contains e.born) = #[] := by simpa using hnil
    simp only [execOp, ho, g2, Instr.next, Sem.run_bind, hg, hg', Result.andThen_ok, hA, hleft]
    simp [Question.forced]
  · rename_i k v b hu hok
    have hokv := okIt_val g5 hok
    split at h
    rotate_left
    · cases h
    rename_i hb
    rw [nblt, decide_eq_true_eq] at hb
    rw [hu] at hun
    obtain ⟨k', v', l', h1, h2, h3, h4⟩ := esV_cons hun
    cases (show some [] = some l' from h3)
    have hs := setObj_run (P := c.P) (o' := .mapIter (some m') since (seen.toArray.push b) clk) g4 (by intro _ _ _ e; cases e)
    have hpost : ∃ L', Post c pg ρ F s r ρ (.tuple #[.bool true, k', v']) L' { w with heap := w.heap.setIfInBounds mi (.mapIter (some m') since (seen.toArray.push b) clk) } := by
      refine Post.set h hp hf (by simp [val, valL, h1, h2]) fun A T hA hT hlt => ?_
      obtain ⟨r', m'', q1, q2, rfl⟩ := ass_mapIt hA
      rw [g1] at q1
      cases q1
      exact ⟨_, by simp [CB.ass, g1, g3, appN_eq], fpost_set hT (hlt _ hT.1) _⟩
    obtain ⟨L', hpost⟩ := hpost
    refine ⟨ρ, _, L', _, ?_, hpost⟩
    have hnb : ¬ since ≤ b := by omega
    have hA : (!seen.toArray.isEmpty && !l.toArray.isEmpty && l.toArray.all fun e => decide (e.born ≥ last)) = false := by simpa using hokv
    have hleft : (l.toArray.filter fun e => !seen.toArray.contains e.born) = #[⟨k', v', b⟩] := by
      have : (l.toArray.filter fun e => !seen.toArray.contains e.born) = (l.filter fun e => !seen.contains e.born).toArray := by simp
      rw [this, h4]
    simp only [execOp, ho, g2, Instr.next, Sem.run_bind, hg, hg', Result.andThen_ok, hA, hleft]
    simp [Question.forced, hb, hnb] at hs ⊢
    rw [hs]
    rfl
  · cases h
end
end Go.Y

namespace Go.Y
open Go Go.X
/-- a function of the language itself -/
def BiS (c : Cx) (pg : Pg) (b : Builtin) (ats : Array Nat) (args : List CV) (s : Sn) (r : O2) : Prop :=
  ∀ ρ F L w vals ty consts, Pre c pg ρ s F L w → valL ρ args = some vals → ∃ ρ' v L' w', (Go.builtin b ats ty consts vals.toArray).run c.P w = .ok (.value v) w' ∧ Post c pg ρ F s r ρ' v L' w'
theorem BiS.pure {c : Cx} {pg : Pg} {b : Builtin} {ats : Array Nat} {args : List CV} {s : Sn} {r : O2} {y : CV} (hr : pureR s y = .ok r)
    (h : ∀ ρ F L w vals ty consts, Pre c pg ρ s F L w → valL ρ args = some vals → ∃ v, (Go.builtin b ats ty consts vals.toArray).run c.P w = .ok (.value v) w ∧ val ρ y = some v) : BiS c pg b ats args s r := by
  rw [pureR_eq] at hr
  cases hr
  intro ρ F L w vals ty consts hp hv
  obtain ⟨v, h1, h2⟩ := h ρ F L w vals ty consts hp hv
  exact ⟨ρ, v, L, w, h1, .refl ρ, hp.free, Nat.le_refl _, h2, hp.rw, hp.k⟩
theorem valL_cons {ρ : Asg} {x : CV} {l : List CV} {vs : List Value} (h : valL ρ (x :: l) = some vs) : ∃ v vs', val ρ x = some v ∧ valL ρ l = some vs' ∧ vs = v :: vs' := by
  simp only [valL] at h
  split at h
  · rename_i v hv
    split at h
    · rename_i vs' hvs
      cases h
      exact ⟨v, vs', hv, hvs, rfl⟩
    · cases h
  · cases h
theorem valL_one {ρ : Asg} {x : CV} {vs : List Value} (h : valL ρ [x] = some vs) : ∃ v, val ρ x = some v ∧ vs = [v] := by
  obtain ⟨v, vs', h1, h2, rfl⟩ := valL_cons h
  cases (show some [] = some vs' from h2)
  exact ⟨v, h1, rfl⟩
theorem valL_two {ρ : Asg} {x y : CV} {vs : List Value} (h : valL ρ [x, y] = some vs) : ∃ v u, val ρ x = some v ∧ val ρ y = some u ∧ vs = [v, u] := by
  obtain ⟨v, vs', h1, h2, rfl⟩ := valL_cons h
  obtain ⟨u, h3, rfl⟩ := valL_one h2
  exact ⟨v, u, h1, h3, rfl⟩
section
variable {c : Cx} {pg : Pg} (hcT : c.T = pg.T) {s : Sn} {r : O2} {ats : List Nat} {args : List CV}
include hcT
theorem biLen_s (h : biLen pg ats args s = .ok r) : BiS c pg .len ats.toArray args s r := by
  unfold biLen at h
  split at h
  rotate_left
  · cases h
  rename_i x t
  split at h
  rotate_left
  · cases h
  rename_i ti hti
  have h1 := (getT_ok hcT hti).1
  split at h
  rotate_left
  · cases h
  rename_i n hk hl
  refine BiS.pure h fun ρ F L w vals ty consts hp hv => ?_
  obtain ⟨v, hv1, rfl⟩ := valL_one hv
  refine ⟨goInt n, ?_, rfl⟩
  have fin : (∃ e a c', ti.desc = .slice e ∧ v = .slice a n c') ∨ (∃ b : ByteArray, ti.desc = .string ∧ v = .string b ∧ n = b.size) ∨ (∃ k e, ti.desc = .map k e ∧ ((v = .map none ∧ n = 0) ∨ ∃ m l clk, v = .map (some m) ∧ w.heap[m]? = some (.map l clk) ∧ n = l.size)) → (Go.builtin .len [t].toArray ty consts [v].toArray).run c.P w = .ok (.value (goInt n)) w := by
    rintro (⟨e, a, c', hd, rfl⟩ | ⟨b, hd, rfl, rfl⟩ | ⟨k, e, hd, ⟨rfl, rfl⟩ | ⟨m, l, clk, rfl, hm, rfl⟩⟩)
    all_goals rw [hd] at h1
    · simp [Go.builtin, Builtin.len_, run_underlying h1]
    · simp [Go.builtin, Builtin.len_, run_underlying h1]
    · simp [Go.builtin, Builtin.len_, run_underlying h1]
    · have hg := getObj_ran (P := c.P) hm (by intro _ _ _ e; cases e)
      simp [Go.builtin, Builtin.len_, run_underlying h1, hg]
  apply fin
  unfold lenK at hk
  split at hk
  · rename_i b hd
    cases hl
    cases hv1
    exact .inr (.inl ⟨b, hd, rfl, lenN_bytes b⟩)
  · rename_i l hd
    cases hl
    cases hv1
    obtain ⟨b, h2, _, h3⟩ := strR_str l
    exact .inr (.inl ⟨b, hd, h2, by rw [lenR_eq, h3]⟩)
  · rename_i e a m c' hd
    cases hl
    cases hv1
    exact .inl ⟨e, _, _, hd, rfl⟩
  · rename_i e i cap hd
    cases hl
    obtain ⟨q, _, rfl⟩ := val_se_inv hv1
    exact .inl ⟨e, _, _, hd, rfl⟩
  · rename_i e i k off len cap hd
    cases hl
    obtain ⟨q, b, o', _, _, rfl⟩ := val_sl_inv hv1
    exact .inl ⟨e, _, _, hd, rfl⟩
  · rename_i k e hd
    cases hl
    cases hv1
    exact .inr (.inr ⟨k, e, hd, .inl ⟨rfl, rfl⟩⟩)
  · rename_i k e i hd
    obtain ⟨m, g1, rfl⟩ := val_mp_inv hv1
    simp only [lenC] at hl
    split at hl
    rotate_left
    · cases hl
    rename_i es clk hf
    cases hl
    obtain ⟨l, g3, g4⟩ := find_map hp hf g1
    refine .inr (.inr ⟨k, e, hd, .inr ⟨m, _, _, rfl, g4, ?_⟩⟩)
    rw [lenN_eq, ← esV_length g3]
    simp
  · cases hk
theorem biCap_s (h : biCap pg ats args s = .ok r) : BiS c pg .cap ats.toArray args s r := by
  unfold biCap at h
  split at h
  rotate_left
  · cases h
  rename_i x t
  split at h
  rotate_left
  · cases h
  rename_i ti hti
  have h1 := (getT_ok hcT hti).1
  split at h
  rotate_left
  · cases h
  rename_i n hk hl
  unfold isSlD at hk
  split at hk
  rotate_left
  · cases hk
  rename_i e hd
  rw [hd] at h1
  refine BiS.pure h fun ρ F L w vals ty consts hp hv => ?_
  obtain ⟨v, hv1, rfl⟩ := valL_one hv
  refine ⟨goInt n, ?_, rfl⟩
  have fin : (∃ a m, v = .slice a m n) → (Go.builtin .cap [t].toArray ty consts [v].toArray).run c.P w = .ok (.value (goInt n)) w := by
    rintro ⟨a, m, rfl⟩
    simp [Go.builtin, Builtin.cap_, run_underlying h1]
  apply fin
  unfold capC at hl
  split at hl
  · cases hl
    cases hv1
    exact ⟨_, _, rfl⟩
  · cases hl
    obtain ⟨q, b, o', _, _, rfl⟩ := val_sl_inv hv1
    exact ⟨_, _, rfl⟩
  · cases hl
    obtain ⟨q, _, rfl⟩ := val_se_inv hv1
    exact ⟨_, _, rfl⟩
  · rename_i i k off len
    split at hl
    rotate_left
    · cases hl
    rename_i t' k' n' c' cs hf
    cases hl
    obtain ⟨q, b, o', h2, _, rfl⟩ := val_sl_inv hv1
    obtain ⟨B, T, h3, h4, _⟩ := find_holds hf hp.ro hp.rw hp.k
    obtain ⟨q', vs, h5, h6, rfl, h7⟩ := ass_cells h3
    rw [h2] at h5
    cases h5
    have := Nat.eq_of_beq_eq_true h7
    subst this
    exact ⟨_, _, rfl⟩
  · cases hl
omit hcT in
theorem biMin_s (h : biMin pg ats args s = .ok r) : BiS c pg .min ats.toArray args s r := by
  unfold biMin at h
  split at h
  rotate_left
  · cases h
  rename_i k a k' b
  split at h
  rotate_left
  · cases h
  rename_i hk
  have := ikEq_eq hk
  subst this
  refine BiS.pure h fun ρ F L w vals ty consts hp hv => ?_
  obtain ⟨v, u, hv1, hv2, rfl⟩ := valL_two hv
  cases hv1
  cases hv2
  refine ⟨.int k (minI a b), ?_, rfl⟩
  have : minI a b = if b < a then b else a := by
    unfold minI
    split
    · rename_i h
      rw [decide_eq_true_eq] at h
      rw [if_neg (by omega)]
    · rename_i h
      rw [decide_eq_false_iff_not] at h
      rw [if_pos (by omega)]
  simp [Go.builtin, Builtin.min_, Builtin.min2, this]
omit hcT in
theorem biMax_s (h : biMax pg ats args s = .ok r) : BiS c pg .max ats.toArray args s r := by
  unfold biMax at h
  split at h
  · rename_i k a k' b
    split at h
    rotate_left
    · cases h
    rename_i hk
    have := ikEq_eq hk
    subst this
    refine BiS.pure h fun ρ F L w vals ty consts hp hv => ?_
    obtain ⟨v, u, hv1, hv2, rfl⟩ := valL_two hv
    cases hv1
    cases hv2
    refine ⟨.int k (maxI a b), ?_, rfl⟩
    have : maxI a b = if a < b then b else a := by
      unfold maxI
      split
      · rename_i h
        rw [decide_eq_true_eq] at h
        by_cases hab : a = b
        · subst hab; simp
        · rw [if_pos (by omega)]
      · rename_i h
        rw [decide_eq_false_iff_not] at h
        rw [if_neg (by omega)]
    simp [Go.builtin, Builtin.max_, Builtin.max2, this]
  · rename_i a b
    have e2 : ∀ a b : ByteArray, Op.bytesLess a.toList b.toList = ltBytes a.data.toList b.data.toList := fun a b => by rw [ltBytes_eq, ByteArray.toList_eq, ByteArray.toList_eq]
    have key : ∀ w ty consts, (Go.builtin .max ats.toArray ty consts #[.string a, .string b]).run c.P w = .ok (.value (.string (match ltBytes a.data.toList b.data.toList with | true => b | false => a))) w := by
      intro w ty consts
      have e3 := e2 a b
      cases hlt : ltBytes a.data.toList b.data.toList <;> rw [hlt] at e3 <;> simp [Go.builtin, Builtin.max_, Builtin.max2, Op.stringOp, e3, asBool]
    split at h
    · rename_i hlt
      refine BiS.pure h fun ρ F L w vals ty consts hp hv => ?_
      obtain ⟨v, u, hv1, hv2, rfl⟩ := valL_two hv
      cases hv1
      cases hv2
      have := key w ty consts
      rw [hlt] at this
      exact ⟨_, this, rfl⟩
    · rename_i hlt
      refine BiS.pure h fun ρ F L w vals ty consts hp hv => ?_
      obtain ⟨v, u, hv1, hv2, rfl⟩ := valL_two hv
      cases hv1
      cases hv2
      have := key w ty consts
      rw [hlt] at this
      exact ⟨_, this, rfl⟩
  · cases h
omit hcT in
theorem esV_del {ρ : Asg} : ∀ {es : List (CV × CV × Nat)} {l : List MapEntry} (_ : esV ρ es = some l) (n : Nat), esV ρ (delNth n es) = some (l.eraseIdx n)
  | [], l, h, n => by
    cases (show some [] = some l from h)
    rw [delNth_eq]
    rfl
  | (k0, v0, b0) :: es, l, h, n => by
    obtain ⟨k', v', l', h1, h2, h3, rfl⟩ := esV_cons h
    cases n with
    | zero => exact h3
    | succ n =>
      show esV ρ ((k0, v0, b0) :: delNth n es) = _
      simp only [esV, h1, h2, esV_del h3 n]
      rfl
theorem biDelete_s (h : biDelete pg ats args s = .ok r) : BiS c pg .delete ats.toArray args s r := by
  unfold biDelete at h
  split at h
  rotate_left
  · cases h
  rename_i i k t tl
  split at h
  rotate_left
  · cases h
  rename_i kd ed es clk hmt hf
  obtain ⟨kt, et, h1, h2, h3, h4⟩ := mapTy_spec hcT hmt
  intro ρ F L w vals ty consts hp hv
  obtain ⟨v, kv, hv1, e2, rfl⟩ := valL_two hv
  obtain ⟨mi, g1, rfl⟩ := val_mp_inv hv1
  obtain ⟨l, g3, g4⟩ := find_map hp (find_of_rw hf) g1
  have hg := getObj_ran (P := c.P) g4 (by intro _ _ _ e; cases e)
  have hck := keyD_run (P := c.P) h4 h2 w l.isEmpty kv
  split at h
  · rename_i n v hkey
    rcases keyC_spec e2 g3 hkey with ⟨q1, q2⟩ | ⟨n', v', k', v'', b, x', q1, q2, q3, q4, q5, q6, q7⟩
    · cases q1
    simp only [Nat.zero_add, Option.some.injEq, Prod.mk.injEq] at q1 q7
    obtain ⟨rfl, rfl⟩ := q1
    obtain ⟨L', hpost⟩ := map_post hp hf h (v := .tuple #[]) rfl (esV_del g3 n) g1
    refine ⟨ρ, _, L', _, ?_, hpost⟩
    have hfk := findKey_run (P := c.P) h2 q7 w
    have hs := setObj_run (P := c.P) (o' := .map (l.eraseIdx n).toArray clk) g4 (by intro _ _ _ e; cases e)
    have hlt : n < l.length := (List.getElem?_eq_some_iff.1 q3).1
    simp [Go.builtin, Builtin.delete_, run_underlying h1, hg, hck, hfk, hs, Array.eraseIdxIfInBounds, hlt]
  · rename_i hkey
    rcases keyC_spec e2 g3 hkey with ⟨q1, q2⟩ | ⟨n', v', k', v'', b, x', q1, q2, q3, q4, q5, q6, q7⟩
    rotate_left
    · cases q1
    obtain ⟨L', hpost⟩ := map_post hp hf h (v := .tuple #[]) rfl g3 g1
    refine ⟨ρ, _, L', _, ?_, hpost⟩
    have hfk := findKey_run (P := c.P) h2 q2 w
    have hs := setObj_run (P := c.P) (o' := .map l.toArray clk) g4 (by intro _ _ _ e; cases e)
    simp [Go.builtin, Builtin.delete_, run_underlying h1, hg, hck, hfk, hs]
  · cases h
theorem biClear_s (h : biClear pg ats args s = .ok r) : BiS c pg .clear ats.toArray args s r := by
  unfold biClear at h
  split at h
  rotate_left
  · cases h
  rename_i i t
  split at h
  rotate_left
  · cases h
  rename_i ti es clk hti hf
  have h1 := (getT_ok hcT hti).1
  intro ρ F L w vals ty consts hp hv
  obtain ⟨v, hv1, rfl⟩ := valL_one hv
  obtain ⟨mi, g1, rfl⟩ := val_mp_inv hv1
  obtain ⟨l, g3, g4⟩ := find_map hp (find_of_rw hf) g1
  have hg := getObj_ran (P := c.P) g4 (by intro _ _ _ e; cases e)
  obtain ⟨L', hpost⟩ := map_post hp hf h (v := .tuple #[]) (es' := []) (l' := []) rfl rfl g1
  refine ⟨ρ, _, L', _, ?_, hpost⟩
  have hs := setObj_run (P := c.P) (o' := .map #[] clk) g4 (by intro _ _ _ e; cases e)
  simp [Go.builtin, Builtin.clear_, run_underlying h1, hg, hs]
omit hcT in
theorem cells_take {w : World} {a : Addr} {vs : List Value} (h : ∀ j u, vs[j]? = some u → w.cell? (a.add j) = some u) (n : Nat) : ∀ j u, (vs.take n)[j]? = some u → w.cell? (a.add j) = some u := by
  intro j u hj
  rw [List.getElem?_take] at hj
  split at hj
  · exact h j u hj
  · cases hj
omit hcT in
/-- what is copied or appended -/
theorem src_cells {ρ : Asg} {F L : List Blk} {w : World} (hp : Pre c pg ρ s F L w) {y : CV} {m k : Nat} {cs : List CV} (h : sliceC s.st y = some (m, cs)) {v : Value} (hv : val ρ y = some v) (hl : lenN cs = m * k) :
    ∃ vs, valL ρ cs = some vs ∧ vs.length = m * k ∧ (∀ w', (Builtin.lenOf v).run c.P w' = .ok m w') ∧ ∀ n, n ≤ m → ∀ w', (∀ a, w'.cell? a = w.cell? a) → (Builtin.firstCells k n v).run c.P w' = .ok (vs.take (n * k)).toArray w' := by
  obtain ⟨vs, g1, g2⟩ := sliceC_spec hp h hv
  have hlen := valL_length g1
  rw [lenN_eq] at hl
  have hll : vs.length = m * k := by omega
  refine ⟨vs, g1, hll, ?_, ?_⟩
  · intro w'
    rcases g2 with ⟨c', rfl, rfl, hvs⟩ | ⟨a, c', rfl, rfl, hvs⟩ | ⟨b, o', c', rfl, hc⟩ | ⟨b, rfl, rfl, hvs⟩ <;> simp [Builtin.lenOf]
  · intro n hn w' hw'
    rcases g2 with ⟨c', rfl, rfl, rfl⟩ | ⟨a, c', rfl, rfl, rfl⟩ | ⟨b, o', c', rfl, hc⟩ | ⟨b, rfl, rfl, rfl⟩
    · rw [run_firstCells_none]
      simp
    · obtain rfl : n = 0 := by omega
      cases a with
      | none => rw [run_firstCells_none]; simp
      | some ad => exact run_firstCells_some w' k 0 ad 0 c' _ (by simp) (fun j v hj => by simp at hj)
    · refine run_firstCells_some w' k n _ m c' _ ?_ (fun j v hj => ?_)
      · rw [List.length_take, hll]
        exact Nat.min_eq_left (Nat.mul_le_mul_right _ hn)
      · rw [List.getElem?_take] at hj
        split at hj
        · rw [hw']
          have := hc j v hj
          rwa [add_none]
        · cases hj
    · rw [bcells_length] at hll
      have hsz : b.data.toList.length = b.size := by rw [Array.length_toList]; rfl
      by_cases h0 : b.size = 0
      · obtain rfl : n = 0 := by omega
        simp [Builtin.firstCells]
      · have hk1 : k = 1 := by
          rw [hsz] at hll
          exact Nat.eq_of_mul_eq_mul_left (Nat.pos_of_ne_zero h0) (by omega)
        subst hk1
        simp [Builtin.firstCells]
        apply Array.ext'
        simp [bcells, List.map_take]
        congr 1
theorem biCopy_s (h : biCopy pg ats args s = .ok r) : BiS c pg .copy ats.toArray args s r := by
  unfold biCopy at h
  split at h
  rotate_left
  · cases h
  · cases h
  rename_i i k off len cap y t tl
  split at h
  rotate_left
  · cases h
  rename_i ti hti
  have h1 := (getT_ok hcT hti).1
  split at h
  rotate_left
  · cases h
  rename_i el hd
  rw [hd] at h1
  split at h
  rotate_left
  · cases h
  rename_i j m news t' k' n c' cs hj hs hf
  have hjo := getT_ok hcT hj
  split at h
  rotate_left
  · cases h
  rename_i hk hl hone
  have hk := Nat.eq_of_beq_eq_true hk
  subst hk
  have hl := Nat.eq_of_beq_eq_true hl
  split at h
  rotate_left
  · cases h
  rename_i nw hnw
  split at h
  rotate_left
  · cases h
  rename_i cs' hcs'
  intro ρ F L w vals ty consts hp hv
  obtain ⟨v, u, hv1, hv2, rfl⟩ := valL_two hv
  obtain ⟨q, b, o', g1, g2, rfl⟩ := val_sl_inv hv1
  obtain ⟨vs, g3, g4, g5, g6⟩ := src_cells hp hs hv2 hl
  obtain ⟨hn1, rfl⟩ := takeN_spec hnw
  obtain ⟨hn2, rfl⟩ := storeN_spec hcs'
  have hmin : Nat.min m len ≤ m := Nat.min_le_left _ _
  have hfc := g6 (Nat.min m len) hmin w (fun _ => rfl)
  have hnwv := valL_take g3 (Nat.min m len * j.size)
  have honev : ∀ u ∈ vs.take (Nat.min m len * j.size), u.oneCell' = true := fun u hu => allOneC_val hone g3 u (List.mem_of_mem_take hu)
  obtain ⟨A, L1, L2, hA, rfl, hset, _⟩ := hb_find hf hp.rw
  obtain ⟨T, hT, hlt, hopen⟩ := Kn0.openX hp.k
  obtain ⟨q', vs0, p1, p2, rfl, p4⟩ := ass_cells hA
  rw [g1] at p1
  cases p1
  rw [RV.a_of g2] at hT
  have hlen0 := valL_length p2
  have hlen1 := valL_length hnwv
  obtain ⟨w', hst, hfp⟩ := SlA.putCells (P := c.P) hT hlt (off := off * j.size) (news := vs.take (Nat.min m len * j.size)) (by rw [hlen0, hlen1]; exact hn2) honev
  have hval := valL_append (valL_append (valL_take p2 (off * j.size)) hnwv) (valL_drop p2 (off * j.size + (List.take (Nat.min m len * j.size) news).length))
  rw [← hlen1] at hval
  have hA' : (CB.cells t' k' n c' (cs.take (off * j.size) ++ news.take (Nat.min m len * j.size) ++ cs.drop (off * j.size + (news.take (Nat.min m len * j.size)).length))).ass pg ρ i = some (SlA t' k' q.a n q.cap (vs0.take (off * j.size) ++ vs.take (Nat.min m len * j.size) ++ vs0.drop (off * j.size + (vs.take (Nat.min m len * j.size)).length))) := by
    refine ass_mk g1 ?_ p4
    rw [← hlen1]
    exact hval
  obtain ⟨h', q1, q2, q3, q4⟩ := setR_ok h
  obtain ⟨h'', q5, q6⟩ := hset _ _ hA'
  rw [q1] at q5
  cases q5
  rw [RV.a_of g2] at q6
  refine ⟨ρ, goInt (Nat.min m len : Nat), _, w', ?_, .refl ρ, by rw [q4]; exact hp.free, by rw [q4]; exact Nat.le_refl _, by rw [q2]; rfl, by rw [q3]; exact q6, hopen _ _ hfp⟩
  simp only [Go.builtin, Builtin.copy_]
  have hsz := r_sizeOf hjo w
  simp [run_underlying h1, g5, hsz, hfc, hst]
end
end Go.Y

namespace Go.Y
open Go Go.X
theorem app_new {P : Program} {t tx ty e : Nat} {j : TI} (ht : P.underlying t = some (.slice e)) (hj : TIok P e j) (hz : j.zero.cells.size = j.size)
    {a : Option Addr} {n cap : Nat} {cs : List Value} {w : World} (hcs : cs.length = n * j.size) (hold : (Builtin.firstCells j.size n (.slice a n cap)).run P w.drew = .ok cs.toArray w.drew)
    {x : Value} {m : Nat} {news : List Value} (hx : Src P j.size tx x m news w) (hg : cap < n + m) (hbig : (n + m) * (j.bytes + 1) ≤ 140737488355328) :
    ∃ cap' w', (Builtin.append_ #[t, tx] ty #[.slice a n cap, x]).run P w = .ok (.slice (some ⟨w.heap.size, 0, none⟩) (n + m) cap') w' ∧ FPost (fun _ => False) w (SlA e j.size (some ⟨w.heap.size, 0, none⟩) (n + m) cap' (cs ++ news)) w' := by
  obtain ⟨i, hi, hi1, hi2, hi3⟩ := info_of hj
  have hbig1 : (n + m) * j.bytes ≤ 140737488355328 := Nat.le_trans (Nat.mul_le_mul_left _ (Nat.le_succ _)) hbig
  have hbig2 : n + m ≤ 140737488355328 := Nat.le_trans (Nat.le_mul_of_pos_right _ (Nat.succ_pos _)) hbig
  rw [← hi1] at hx hz hcs hold
  have hr := run_append_grow_src (P := P) w t tx ty e i j.zero ht hi hi3 a n cap cs hold x m news hx hg (by omega) (growslice_fits hg (by rw [hi2]; omega))
  have hge := grownCap_ge w (n + m) cap e
  have hsz : (w.drew.alloc (.cells ((cs ++ news).toArray ++ Builtin.zeroCells j.zero.cells (grownCap w (n + m) cap e - (n + m))) e)).heap.size = w.heap.size + 1 := by
    rw [heap_alloc, Array.size_push]; rfl
  refine ⟨_, _, hr, ⟨rfl, rfl, rfl, by rw [hsz]; omega, fun k hk _ => ?_⟩, fun k => k = w.heap.size, .inr ⟨w.heap.size, rfl, [], (Builtin.zeroCells j.zero.cells (grownCap w (n + m) cap e - (n + m))).toList, (0, 0), rfl, ?_, ?_, hge, ?_, ?_⟩, ?_⟩
  · rw [heap_alloc, Array.getElem?_push]
    rw [if_neg (by show ¬ k = w.heap.size; omega)]
    rfl
  · rw [heap_alloc]
    have : w.drew.heap.size = w.heap.size := rfl
    rw [← this, Array.getElem?_push_size]
    congr 2
    apply Array.ext'
    simp
  · rw [List.length_append, hcs, hx.newsLen, Nat.add_mul, hi1]
  · rw [Array.length_toList, size_zeroCells, hz, ← hi1]
    exact Nat.le_refl _
  · simp
  · rintro k rfl
    exact ⟨by rw [hsz]; omega, .inr (Nat.le_refl _)⟩
section
variable {c : Cx} {pg : Pg} (hcT : c.T = pg.T) {s : Sn} {r : O2}
/-- what is appended -/
theorem src_of {ρ : Asg} {F L : List Blk} {w : World} (hp : Pre c pg ρ s F L w) {y : CV} {m k tx : Nat} {cs : List CV} {d : TypeDesc} (h : sliceC s.st y = some (m, cs)) {v : Value} (hv : val ρ y = some v) (hl : lenN cs = m * k) (h1 : allOneC cs = true) (hd : slTy d = true) (hu : c.P.underlying tx = some d) :
    ∃ vs, valL ρ cs = some vs ∧ Src c.P k tx v m vs w := by
  obtain ⟨vs, g1, g2, g3, g4⟩ := src_cells hp h hv hl
  refine ⟨vs, g1, ?_, g3, ?_, ?_, g2, allOneC_val h1 g1⟩
  · unfold slTy at hd
    split at hd
    · exact .inl ⟨_, hu⟩
    · exact .inr hu
    · cases hd
  · have := g4 m (Nat.le_refl _) w (fun _ => rfl)
    rwa [List.take_of_length_le (by omega)] at this
  · have := g4 m (Nat.le_refl _) w.drew (fun _ => rfl)
    rwa [List.take_of_length_le (by omega)] at this
theorem appNew_s {el len m : Nat} {j : TI} {olds news : List CV} (h : appNew s el j len m olds news = .ok r) {t tx ty : Nat} (ht : c.P.underlying t = some (.slice el)) (hj : TIok c.P el j) (hz : j.zero.cells.size = j.size)
    {ρ : Asg} {F L : List Blk} {w : World} (hp : Pre c pg ρ s F L w) {a : Option Addr} {cap : Nat} {os ns : List Value} (ho : valL ρ olds = some os) (hol : os.length = len * j.size) (hold : (Builtin.firstCells j.size len (.slice a len cap)).run c.P w.drew = .ok os.toArray w.drew)
    {x : Value} (hn : valL ρ news = some ns) (hx : Src c.P j.size tx x m ns w) (hg : cap < len + m) :
    ∃ ρ' v L' w', (Builtin.append_ #[t, tx] ty #[.slice a len cap, x]).run c.P w = .ok v w' ∧ Post c pg ρ F s r ρ' v L' w' := by
  unfold appNew at h
  split at h
  rotate_left
  · cases h
  rename_i hb
  obtain ⟨cap', w', h1, h2⟩ := app_new (ty := ty) ht hj hz hol hold hx hg (Nat.le_of_ble_eq_true hb)
  have hle := Asg.ins_le (r := ⟨some (w.heap.size, 0), cap'⟩) hp.free
  obtain ⟨ρ', L', h3⟩ := Post.new (v := .slice (some ⟨w.heap.size, 0, none⟩) (len + m) cap') h hp ⟨some (w.heap.size, 0), cap'⟩ (A := SlA el j.size (some ⟨w.heap.size, 0, none⟩) (len + m) cap' (os ++ ns))
    (ass_mk (Asg.ins_get _ _ _) (by rw [appN_eq]; exact valL_append (valL_mono hle ho) (valL_mono hle hn)) rfl) (by simp [val, Asg.ins_get]) (fun H hk => Kn0.fresh hk _ h2)
  exact ⟨ρ', _, L', w', h1, h3⟩
/-- nothing is appended -/
theorem app_zero {P : Program} {t tx ty e : Nat} {j : TI} {w : World} (ht : P.underlying t = some (.slice e)) (hj : TIok P e j) {a : Option Addr} {n cap : Nat} (hnc : n ≤ cap) {x : Value} (hx : Src P j.size tx x 0 [] w) :
    (Builtin.append_ #[t, tx] ty #[.slice a n cap, x]).run P w = .ok (.slice a n cap) w := by
  obtain ⟨i, hi, hi1, hi2, hi3⟩ := info_of hj
  rw [← hi1] at hx
  rcases hx.kind with ⟨e', hk⟩ | hk <;> cases a <;> simp [Builtin.append_, run_underlying ht, run_underlying hk, sizeOf, typeInfo, hi, hx.len, hnc, hx.cells, storeCells]
theorem first_old {ρ : Asg} {F L : List Blk} {w : World} (hp : Pre c pg ρ s F L w) {i k off len : Nat} {cap : Option Nat} {m : Nat} {olds : List CV} (h : sliceC s.st (.sl i k off len cap) = some (m, olds)) {a : Option Addr} {n' cap' : Nat} (hv : val ρ (.sl i k off len cap) = some (.slice a n' cap')) (hl : lenN olds = len * k) :
    ∃ os, valL ρ olds = some os ∧ os.length = len * k ∧ (Builtin.firstCells k len (.slice a n' cap')).run c.P w.drew = .ok os.toArray w.drew := by
  have hm : m = len := by
    unfold sliceC at h
    simp only at h
    repeat' split at h
    all_goals first | (cases h; done) | (cases h; rfl)
  subst hm
  obtain ⟨vs, g1, g2, g3, g4⟩ := src_cells hp h hv hl
  have := g4 m (Nat.le_refl _) w.drew (fun _ => rfl)
  rw [List.take_of_length_le (by omega)] at this
  exact ⟨vs, g1, g2, this⟩
theorem SlA.suffix {el k : Nat} {b o' n cap off len : Nat} {vs : List Value} {w : World} {T : Nat → Prop} (h : (SlA el k (some ⟨b, o', none⟩) n cap vs).holds w T) (hn : off + len = n) : (SlA el k (some ⟨b, o' + off * k, none⟩) len (cap - off) (vs.drop (off * k))).holds w T := by
  subst hn
  rcases h with ⟨e1, _⟩ | ⟨b', hb, pre, post, fr, ha, hh, hl, hnc, hp, hf⟩
  · cases e1
  obtain ⟨rfl, rfl⟩ : b = b' ∧ o' = pre.length := by simpa using ha
  have hmul : (off + len) * k = off * k + len * k := Nat.add_mul _ _ _
  have htk : (vs.take (off * k)).length = off * k := by rw [List.length_take]; omega
  refine .inr ⟨b, hb, pre ++ vs.take (off * k), post, fr, by simp [htk], ?_, ?_, by omega, ?_, ?_⟩
  · rw [hh]
    congr 2
    apply Array.ext'
    simp only [List.append_assoc]
    rw [← List.append_assoc (List.take _ _) (List.drop _ _), List.take_append_drop]
  · rw [List.length_drop]; omega
  · rw [show cap - off - len = cap - (off + len) by omega]; exact hp
  · intro h
    have := hf h
    rw [List.length_append, htk, List.length_drop]
    exact ⟨this.1, by omega⟩
theorem appW_s {el len m i k off : Nat} {j : TI} {news : List CV} (hkj : j.size = k) (h : appW s el j (.sl i k off len none) i k off len (Nat.succ m) news = .ok r) {t tx ty : Nat} (ht : c.P.underlying t = some (.slice el)) (hj : TIok c.P el j) (hzj : j.zero.cells.size = j.size)
    {ρ : Asg} {F L : List Blk} {w : World} (hp : Pre c pg ρ s F L w) {v : Value} (hv : val ρ (.sl i k off len none) = some v) {x : Value} {ns : List Value} (hn : valL ρ news = some ns) (hx : Src c.P j.size tx x (Nat.succ m) ns w) :
    ∃ ρ' v' L' w', (Builtin.append_ #[t, tx] ty #[v, x]).run c.P w = .ok v' w' ∧ Post c pg ρ F s r ρ' v' L' w' := by
  subst hkj
  unfold appW at h
  obtain ⟨q, b, o', g1, g2, rfl⟩ := val_sl_inv hv
  split at h
  · rename_i t' k' n cs hf
    split at h
    rotate_left
    · cases h
    rename_i e1 e2 e3 e4 e5
    have e1 := Nat.eq_of_beq_eq_true e1
    have e2 := Nat.eq_of_beq_eq_true e2
    have e3 := Nat.eq_of_beq_eq_true e3
    have e4 := Nat.le_of_ble_eq_true e4
    rw [nblt, decide_eq_true_eq] at e5
    subst e1 e2
    split at h
    rotate_left
    · cases h
    rename_i olds hd
    obtain ⟨hd1, rfl⟩ := dropN_spec hd
    obtain ⟨A, L1, L2, hA, hL, _, hdel⟩ := hb_find hf hp.rw
    obtain ⟨q', vs, h5, h6, rfl, h7⟩ := ass_cells hA
    rw [g1] at h5
    cases h5
    rw [RV.a_of g2] at hL
    have hk := hp.k
    rw [hL, List.append_assoc, List.cons_append] at hk
    obtain ⟨T, hT, hlt, hopen⟩ := Kn.openA (ms := []) (x := .ext i (SlA t' j.size (some ⟨b, o', none⟩) n q.cap vs)) hk
    obtain ⟨a', cap', w', hr, hfp⟩ := app_core (ty := ty) ht hj hzj (SlA.suffix hT e3) hlt hx e4
    have ha' : ∃ b' o'', a' = some ⟨b', o'', none⟩ := by
      obtain ⟨_, T', hh, _⟩ := hfp
      rcases hh with ⟨_, h0, _⟩ | ⟨b', _, pre, _, _, ha, _⟩
      · omega
      · exact ⟨b', _, ha⟩
    obtain ⟨b', o'', rfl⟩ := ha'
    rw [newR_eq] at h
    cases h
    have hle := Asg.ins_le (r := ⟨some (b', o''), cap'⟩) hp.free
    obtain ⟨L', h8, h9⟩ := hb_mono hle hdel
    have hval : valL (ρ.ins s.nx ⟨some (b', o''), cap'⟩) (appN (cs.drop (off * j.size)) news) = some (vs.drop (off * j.size) ++ ns) := by
      rw [appN_eq]
      exact valL_append (valL_mono hle (valL_drop h6 _)) (valL_mono hle hn)
    have hk2 := hopen (.ext s.nx (SlA t' j.size (some ⟨b', o'', none⟩) (len + Nat.succ m) cap' (vs.drop (off * j.size) ++ ns))) w' hfp
    refine ⟨ρ.ins s.nx ⟨some (b', o''), cap'⟩, _, .ext s.nx (SlA t' j.size (some ⟨b', o'', none⟩) (len + Nat.succ m) cap' (vs.drop (off * j.size) ++ ns)) :: L', w', hr, Asg.ins_leN hp.free, Asg.ins_free hp.free, Nat.le_succ _, ?_, ?_, ?_⟩
    · simp [val, Asg.ins_get]
    · exact hb_mk (ass_mk (Asg.ins_get _ _ _) hval rfl) h8
    · generalize (Blk.ext s.nx (SlA t' j.size (some ⟨b', o'', none⟩) (len + Nat.succ m) cap' (vs.drop (off * j.size) ++ ns))) = x at hk2 ⊢
      have hX : HSub ([x] ++ (L' ++ F)) ([x] ++ (L1 ++ (L2 ++ F))) := HSub.app2 (HSub.refl [x]) (by rw [← List.append_assoc]; exact h9.app2 (HSub.refl F))
      exact Kn0.hsub hk2 (HSub.trans hX (HSub.middle' x L1 (L2 ++ F)))
  · split at h
    rotate_left
    · cases h
    rename_i t' k' n cp cs m' olds hf hs
    split at h
    rotate_left
    · cases h
    rename_i hlt hl
    have hl := Nat.eq_of_beq_eq_true hl
    rw [nblt, decide_eq_true_eq] at hlt
    obtain ⟨B, T, h3, h4, _⟩ := find_holds hf hp.ro hp.rw hp.k
    obtain ⟨q', vs, h5, h6, rfl, h7⟩ := ass_cells h3
    rw [g1] at h5
    cases h5
    have := Nat.eq_of_beq_eq_true h7
    subst this
    obtain ⟨os, p1, p2, p3⟩ := first_old hp hs hv hl
    exact appNew_s h ht hj hzj hp p1 p2 p3 hn hx (by show q.cap - off < _; omega)
/-- there is room -/
theorem appIn_s {el len m i k off : Nat} {j : TI} {news : List CV} (hkj : j.size = k) (h : appIn s el i k off len m news = .ok r) {t tx ty : Nat} (ht : c.P.underlying t = some (.slice el)) (hj : TIok c.P el j)
    {ρ : Asg} {F L : List Blk} {w : World} (hp : Pre c pg ρ s F L w) {v : Value} (hv : val ρ (.sl i k off len none) = some v) {x : Value} {ns : List Value} (hn : valL ρ news = some ns) (hx : Src c.P j.size tx x m ns w) :
    ∃ ρ' v' L' w', (Builtin.append_ #[t, tx] ty #[v, x]).run c.P w = .ok v' w' ∧ Post c pg ρ F s r ρ' v' L' w' := by
  subst hkj
  unfold appIn at h
  obtain ⟨q, b, o', g1, g2, rfl⟩ := val_sl_inv hv
  split at h
  rotate_left
  · cases h
  rename_i t' k' n cap cs hf
  split at h
  rotate_left
  · cases h
  rename_i e1 e2 e3 e4
  have e1 := Nat.eq_of_beq_eq_true e1
  have e2 := Nat.eq_of_beq_eq_true e2
  have e3 := Nat.eq_of_beq_eq_true e3
  have e4 := Nat.le_of_ble_eq_true e4
  subst e1 e2
  split at h
  rotate_left
  · cases h
  rename_i cs' hcs'
  obtain ⟨hn2, rfl⟩ := storeN_spec hcs'
  obtain ⟨A, L1, L2, hA, rfl, hset, _⟩ := hb_find hf hp.rw
  obtain ⟨T, hT, hlt, hopen⟩ := Kn0.openX hp.k
  obtain ⟨q', vs0, p1, p2, rfl, p4⟩ := ass_cells hA
  rw [g1] at p1
  cases p1
  rw [RV.a_of g2] at hT
  have hlen0 := valL_length p2
  have hlen1 := valL_length hn
  obtain ⟨w', hst, hfp⟩ := SlA.putCells (P := c.P) hT hlt (off := (off + len) * j.size) (news := ns) (by rw [hlen0, hlen1]; exact hn2) hx.one
  have hval := valL_append (valL_append (valL_take p2 ((off + len) * j.size)) hn) (valL_drop p2 ((off + len) * j.size + news.length))
  rw [← hlen1] at hval
  have hA' : (CB.cells t' j.size n cap (cs.take ((off + len) * j.size) ++ news ++ cs.drop ((off + len) * j.size + news.length))).ass pg ρ i = some (SlA t' j.size q.a n q.cap (vs0.take ((off + len) * j.size) ++ ns ++ vs0.drop ((off + len) * j.size + ns.length))) := by
    refine ass_mk g1 ?_ p4
    rw [← hlen1]
    exact hval
  have hcap : n ≤ q.cap := by
    rcases hT with ⟨e0, _⟩ | ⟨b', _, pre, post, fr, _, _, _, hnc, _⟩
    · cases e0
    · exact hnc
  obtain ⟨h', q1, q2, q3, q4⟩ := setR_ok h
  obtain ⟨h'', q5, q6⟩ := hset _ _ hA'
  rw [q1] at q5
  cases q5
  rw [RV.a_of g2] at q6
  obtain ⟨inf, hi, hi1, hi2, hi3⟩ := info_of hj
  have hroom : len + m ≤ q.cap - off := by omega
  have hfc := hx.cells
  have haddr : (⟨b, o' + off * j.size, none⟩ : Addr).add (len * j.size) = ⟨b, o' + (off + len) * j.size, none⟩ := by
    rw [add_none]
    congr 1
    rw [Nat.add_mul]; omega
  refine ⟨ρ, .slice (some ⟨b, o' + off * j.size, none⟩) (len + m) (q.cap - off), _, w', ?_, .refl ρ, by rw [q4]; exact hp.free, by rw [q4]; exact Nat.le_refl _, ?_, by rw [q3]; exact q6, hopen _ _ hfp⟩
  · rcases hx.kind with ⟨e', hk⟩ | hk <;> simp [Builtin.append_, run_underlying ht, run_underlying hk, sizeOf, typeInfo, hi, hx.len, capO, hroom, hfc, hi1, haddr, hst]
  · rw [q2]
    simp [val, g1, g2, capO]
theorem appS_s (hz : ∀ t i, getT pg.T t = some i → i.zero.cells.size = i.size) {el len m i k off : Nat} {cap : Option Nat} {j : TI} {news : List CV} (h : appS s el j (.sl i k off len cap) i k off len cap m news = .ok r) {t tx ty : Nat} (ht : c.P.underlying t = some (.slice el)) (hj : TIok c.P el j) (hzj : j.zero.cells.size = j.size)
    {ρ : Asg} {F L : List Blk} {w : World} (hp : Pre c pg ρ s F L w) {v : Value} (hv : val ρ (.sl i k off len cap) = some v) {x : Value} {ns : List Value} (hn : valL ρ news = some ns) (hx : Src c.P j.size tx x m ns w) :
    ∃ ρ' v' L' w', (Builtin.append_ #[t, tx] ty #[v, x]).run c.P w = .ok v' w' ∧ Post c pg ρ F s r ρ' v' L' w' := by
  unfold appS at h
  obtain ⟨q, b, o', g1, g2, rfl⟩ := val_sl_inv hv
  split at h
  · rename_i hk
    have hk := Nat.eq_of_beq_eq_true hk
    subst hk
    split at h
    rotate_left
    · cases h
    rename_i hc
    have hns : ns = [] := by have := hx.newsLen; simpa using this
    subst hns
    rw [pureR_eq] at h
    cases h
    refine ⟨ρ, _, L, w, app_zero ht hj ?_ hx, .refl ρ, hp.free, Nat.le_refl _, hv, hp.rw, hp.k⟩
    unfold capOk at hc
    split at hc
    · exact Nat.le_of_ble_eq_true hc
    · split at hc
      · rename_i t' k' n c' cs hf
        obtain ⟨B, T, h3, h4, _⟩ := find_holds hf hp.ro hp.rw hp.k
        obtain ⟨q', vs, h5, h6, rfl, h7⟩ := ass_cells h3
        rw [g1] at h5
        cases h5
        have hle := Nat.le_of_ble_eq_true hc
        rcases h4 with ⟨e1, _⟩ | ⟨b', _, pre, post, fr, ha, hh, hl1, hnc, _, _⟩
        · rw [RV.a_of g2] at e1; cases e1
        · show len ≤ q.cap - off
          omega
      · cases hc
  · rename_i m hk
    have hk := Nat.eq_of_beq_eq_true hk
    subst hk
    split at h
    · rename_i cp
      split at h
      rotate_left
      · cases h
      rename_i m' olds hlt hs
      split at h
      rotate_left
      · cases h
      rename_i hl
      have hl := Nat.eq_of_beq_eq_true hl
      rw [nblt, decide_eq_true_eq] at hlt
      obtain ⟨os, p1, p2, p3⟩ := first_old hp hs hv hl
      exact appNew_s h ht hj hzj hp p1 p2 p3 hn hx hlt
    · split at h
      · exact appIn_s rfl h ht hj hp hv hn hx
      · exact appW_s rfl h ht hj hzj hp hv hn hx
  · cases h
theorem zeroL_eq {α : Type} (l : List α) : ([] : List α).toArray ++ l.toArray = l.toArray := by simp
/-- append(nil, make(..)...) -/
theorem biAppendZ_s (hcT : c.T = pg.T) (hz : ∀ t i, getT pg.T t = some i → i.zero.cells.size = i.size) {el : Nat} {txi : TI} {x y : CV} (h : biAppendZ pg el txi x y s = .ok r) {t tx ty : Nat} (ht : c.P.underlying t = some (.slice el)) (hx : c.P.underlying tx = some txi.desc)
    {ρ : Asg} {F L : List Blk} {w : World} (hp : Pre c pg ρ s F L w) {v u : Value} (hv : val ρ x = some v) (hu : val ρ y = some u) :
    ∃ ρ' v' L' w', (Builtin.append_ #[t, tx] ty #[v, u]).run c.P w = .ok v' w' ∧ Post c pg ρ F s r ρ' v' L' w' := by
  unfold biAppendZ at h
  split at h
  rotate_left
  · cases h
  rename_i kn j m hd hj hm
  split at h
  rotate_left
  · cases h
  rename_i m' hs hb
  rw [nblt, decide_eq_true_eq] at hs
  have hb := Nat.le_of_ble_eq_true hb
  rw [hd] at hx
  have hjo := getT_ok hcT hj
  obtain ⟨inf, hi, hi1, hi2, hi3⟩ := info_of hjo
  obtain ⟨kq, rfl⟩ := natC_ok hm
  cases hv
  cases hu
  have hb1 : Nat.succ m' * j.bytes ≤ 140737488355328 := Nat.le_trans (Nat.mul_le_mul_left _ (Nat.le_succ _)) hb
  have hb2 : Nat.succ m' ≤ 140737488355328 := Nat.le_trans (Nat.le_mul_of_pos_right _ (Nat.succ_pos _)) hb
  have hr := Go.Lib.run_append_grow_zeros (P := c.P) w t tx ty el inf j.zero kq kn ht hx hi hi3 none 0 0 [] (run_firstCells_none _ _ _ _ _) (Nat.succ m') (by omega) (by rw [hi1]; exact hs) (by omega) (by omega) (by rw [hi2]; omega) (growslice_fits (by omega) (by rw [hi2, Nat.zero_add]; omega))
  rw [Nat.zero_add] at hr
  have hge := grownCap_ge w (Nat.succ m') 0 el
  have hzz := hz _ _ hj
  have hzc : Builtin.zeroCells j.zero.cells (Nat.succ m') = (Array.range (Nat.succ m' * j.size)).map (fun x => j.zero.cells[x % j.zero.cells.size]!) := by
    unfold Builtin.zeroCells
    rw [show Nat.succ m' * j.zero.cells.size = Nat.succ m' * j.size by rw [hzz]]
  have hzl : (Builtin.zeroCells j.zero.cells (Nat.succ m')).toList.length = Nat.succ m' * j.size := by
    rw [Array.length_toList, size_zeroCells, hzz]
  have hfp : FPost (fun _ => False) w (SlA el j.size (some ⟨w.heap.size, 0, none⟩) (Nat.succ m') (grownCap w (Nat.succ m') 0 el) (Builtin.zeroCells j.zero.cells (Nat.succ m')).toList) (w.drew.alloc (.cells (([] : List Value).toArray ++ Builtin.zeroCells j.zero.cells (Nat.succ m') ++ Builtin.zeroCells j.zero.cells (grownCap w (Nat.succ m') 0 el - Nat.succ m')) el)) := by
    have hsz : (w.drew.alloc (.cells (([] : List Value).toArray ++ Builtin.zeroCells j.zero.cells (Nat.succ m') ++ Builtin.zeroCells j.zero.cells (grownCap w (Nat.succ m') 0 el - Nat.succ m')) el)).heap.size = w.heap.size + 1 := by
      rw [heap_alloc, Array.size_push]; rfl
    refine ⟨⟨rfl, rfl, rfl, by rw [hsz]; omega, fun k hk _ => ?_⟩, fun k => k = w.heap.size, .inr ⟨w.heap.size, rfl, [], (Builtin.zeroCells j.zero.cells (grownCap w (Nat.succ m') 0 el - Nat.succ m')).toList, (0, 0), rfl, ?_, hzl, hge, ?_, ?_⟩, ?_⟩
    · rw [heap_alloc, Array.getElem?_push]
      rw [if_neg (by show ¬ k = w.heap.size; omega)]
      rfl
    · rw [heap_alloc]
      have : w.drew.heap.size = w.heap.size := rfl
      rw [← this, Array.getElem?_push_size]
      congr 2
      apply Array.ext'
      simp
    · rw [Array.length_toList, size_zeroCells, hzz]
      exact Nat.le_refl _
    · simp
    · rintro k rfl
      exact ⟨by rw [hsz]; omega, .inr (Nat.le_refl _)⟩
  obtain ⟨ρ', L', h3⟩ := Post.new (v := .slice (some ⟨w.heap.size, 0, none⟩) (Nat.succ m') (grownCap w (Nat.succ m') 0 el)) h hp ⟨some (w.heap.size, 0), grownCap w (Nat.succ m') 0 el⟩
    (A := SlA el j.size (some ⟨w.heap.size, 0, none⟩) (Nat.succ m') (grownCap w (Nat.succ m') 0 el) (Builtin.zeroCells j.zero.cells (Nat.succ m')).toList)
    (ass_mk (Asg.ins_get _ _ _) (by rw [hzc]; exact rep_cells hzz _) rfl) (by simp [val, Asg.ins_get]) (fun H hk => Kn0.fresh hk _ hfp)
  exact ⟨ρ', _, L', _, hr, h3⟩
theorem src_big {ρ : Asg} {F L : List Blk} {w : World} (hp : Pre c pg ρ s F L w) {y : CV} {m tx : Nat} {l : List (Nat × Nat)} {d : TypeDesc} (h : bytR s y = some (m, l)) {v : Value} (hv : val ρ y = some v) (hd : slTy d = true) (hu : c.P.underlying tx = some d) :
    m = (expR l).length ∧ Src c.P 1 tx v m (bcells (expR l)) w := by
  obtain ⟨hm, g2⟩ := bytR_spec hp h hv
  have hfc : ∀ w', (∀ a, w'.cell? a = w.cell? a) → (Builtin.firstCells 1 m v).run c.P w' = .ok (bcells (expR l)).toArray w' := by
    intro w' hw'
    rcases g2 with ⟨c', rfl, h0⟩ | ⟨a, c', rfl, h0⟩ | ⟨b, o', c', rfl, hc⟩ | ⟨b, rfl, h0, hb⟩
    · have : expR l = [] := List.length_eq_zero_iff.1 (by omega)
      subst h0
      rw [run_firstCells_none, this]
      simp [bcells]
    · have : expR l = [] := List.length_eq_zero_iff.1 (by omega)
      subst h0
      rw [this]
      cases a with
      | none => rw [run_firstCells_none]; simp [bcells]
      | some ad => exact run_firstCells_some w' 1 0 ad 0 c' _ (by simp [bcells]) (fun j v hj => by simp [bcells] at hj)
    · refine run_firstCells_some w' 1 m _ m c' _ (by rw [bcells_length]; omega) (fun j v hj => ?_)
      rw [hw']
      have := hc j v hj
      rwa [add_none]
    · have hsz : b.data.toList.length = b.size := by rw [Array.length_toList]; rfl
      rw [← hb]
      have ht : b.data.toList.take m = b.data.toList := List.take_of_length_le (by omega)
      simp [Builtin.firstCells, bcells, h0]
      apply Array.ext'
      simp
      exact fun _ _ => rfl
  refine ⟨hm, ?_, ?_, hfc w (fun _ => rfl), hfc w.drew (fun _ => rfl), by rw [bcells_length]; omega, ?_⟩
  · unfold slTy at hd
    split at hd
    · exact .inl ⟨_, hu⟩
    · exact .inr hu
    · cases hd
  · intro w'
    rcases g2 with ⟨c', rfl, h0⟩ | ⟨a, c', rfl, h0⟩ | ⟨b, o', c', rfl, hc⟩ | ⟨b, rfl, h0, hb⟩
    · rw [h0]; simp [Builtin.lenOf]
    · rw [h0]; simp [Builtin.lenOf]
    · simp [Builtin.lenOf]
    · rw [h0]; simp [Builtin.lenOf]
  · intro u hu
    simp only [bcells, List.mem_map] at hu
    obtain ⟨x, _, rfl⟩ := hu
    rfl
theorem rbNew_new {el : Nat} {j : TI} {l : List (Nat × Nat)} (h : rbNew s el j l = .ok r) {ρ : Asg} {F L : List Blk} {w w' : World} (hp : Pre c pg ρ s F L w) {b o cap' : Nat}
    (hfp : FPost (fun _ => False) w (SlA el 1 (some ⟨b, o, none⟩) (expR l).length cap' (bcells (expR l))) w') : ∃ ρ' L', Post c pg ρ F s r ρ' (.slice (some ⟨b, o, none⟩) (expR l).length cap') L' w' := by
  unfold rbNew at h
  split at h
  rotate_left
  · cases h
  exact Post.new h hp ⟨some (b, o), cap'⟩ (A := SlA el 1 (some ⟨b, o, none⟩) (expR l).length cap' (bcells (expR l))) (ass_rb_mk (Asg.ins_get _ _ _) rfl) (by simp [val, Asg.ins_get, lenR_eq]) (fun H hk => Kn0.fresh hk _ hfp)
theorem rbNew_use {el i : Nat} {j : TI} {l : List (Nat × Nat)} (h : rbNew ⟨delB i s.rw, s.ro, s.nx, s.md⟩ el j l = .ok r) {ρ : Asg} {F L1 L2 : List Blk} {A0 : Ass} {w w' : World} (hp : Pre c pg ρ s F (L1 ++ .ext i A0 :: L2) w) (hdel : hb pg ρ (delB i s.rw) = some (L1 ++ L2)) {b o cap' : Nat}
    (hk : Kn0 c.W c.S (L1 ++ .ext s.nx (SlA el 1 (some ⟨b, o, none⟩) (expR l).length cap' (bcells (expR l))) :: (L2 ++ F)) w') : ∃ ρ' L', Post c pg ρ F s r ρ' (.slice (some ⟨b, o, none⟩) (expR l).length cap') L' w' := by
  unfold rbNew at h
  split at h
  rotate_left
  · cases h
  rw [newR_eq] at h
  cases h
  have hle := Asg.ins_le (r := ⟨some (b, o), cap'⟩) hp.free
  obtain ⟨L', h8, h9⟩ := hb_mono hle hdel
  refine ⟨ρ.ins s.nx ⟨some (b, o), cap'⟩, .ext s.nx (SlA el 1 (some ⟨b, o, none⟩) (expR l).length cap' (bcells (expR l))) :: L', Asg.ins_leN hp.free, Asg.ins_free hp.free, Nat.le_succ _, ?_, ?_, ?_⟩
  · simp [val, Asg.ins_get, lenR_eq]
  · exact hb_mk (ass_rb_mk (Asg.ins_get _ _ _) rfl) h8
  · generalize (Blk.ext s.nx (SlA el 1 (some ⟨b, o, none⟩) (expR l).length cap' (bcells (expR l)))) = x at hk ⊢
    have hX : HSub ([x] ++ (L' ++ F)) ([x] ++ (L1 ++ (L2 ++ F))) := HSub.app2 (HSub.refl [x]) (by rw [← List.append_assoc]; exact h9.app2 (HSub.refl F))
    exact Kn0.hsub hk (HSub.trans hX (HSub.middle' x L1 (L2 ++ F)))
theorem appBig_use {el i k off len m n : Nat} {j : TI} {l0 news : List (Nat × Nat)} (hju : j.size = 1) (hzj : j.zero.cells.size = j.size) (hk1 : k = 1) (hr0 : rbNew ⟨delB i s.rw, s.ro, s.nx, s.md⟩ el j (appR (drpR off l0) news) = .ok r)
    {t tx ty : Nat} (ht : c.P.underlying t = some (.slice el)) (hj : TIok c.P el j) {ρ : Asg} {F L1 L2 : List Blk} {w : World} {q : RV} {b o' : Nat} (g2 : q.p = some (b, o'))
    (hp : Pre c pg ρ s F (L1 ++ .ext i (SlA el 1 q.a n q.cap (bcells (expR l0))) :: L2) w) (hdel : hb pg ρ (delB i s.rw) = some (L1 ++ L2)) (hn : off + len = n) (hl0 : (expR l0).length = n)
    {x : Value} (hm : m = (expR news).length) (hm0 : 0 < m) (hx : Src c.P 1 tx x m (bcells (expR news)) w) :
    ∃ ρ' v' L' w', (Builtin.append_ #[t, tx] ty #[.slice (some ⟨b, o' + off * k, none⟩) len (q.cap - off), x]).run c.P w = .ok v' w' ∧ Post c pg ρ F s r ρ' v' L' w' := by
  subst hk1
  have hk := hp.k
  rw [RV.a_of g2, List.append_assoc, List.cons_append] at hk
  obtain ⟨T, hT, hlt, hopen⟩ := Kn.openA (ms := []) (x := .ext i (SlA el 1 (some ⟨b, o', none⟩) n q.cap (bcells (expR l0)))) hk
  have hex : expR (appR (drpR off l0) news) = (expR l0).drop off ++ expR news := by rw [appR_exp, drpR_exp]
  have hlen : (expR (appR (drpR off l0) news)).length = len + m := by rw [hex, List.length_append, List.length_drop]; omega
  have hbig : (len + m) * (j.bytes + 1) ≤ 140737488355328 := by
    unfold rbNew at hr0
    split at hr0
    rotate_left
    · cases hr0
    rename_i e1 _
    have e1 := Nat.le_of_ble_eq_true e1
    rwa [lenR_eq, hlen] at e1
  have hsuf := SlA.suffix hT hn
  rw [← hju] at hsuf hx
  obtain ⟨a', cap', w', hr, hfp⟩ := app_core (ty := ty) ht hj hzj hsuf hlt hx hbig
  have ha' : ∃ b' o'', a' = some ⟨b', o'', none⟩ := by
    obtain ⟨_, T', hh, _⟩ := hfp
    rcases hh with ⟨_, h0, _⟩ | ⟨b', _, pre, _, _, ha, _⟩
    · omega
    · exact ⟨b', _, ha⟩
  obtain ⟨b', o'', rfl⟩ := ha'
  have hcs : (bcells (expR l0)).drop (off * j.size) ++ bcells (expR news) = bcells (expR (appR (drpR off l0) news)) := by
    rw [hex, hju, Nat.mul_one, bcells_append]
    simp [bcells, List.map_drop]
  rw [hcs, ← hlen, hju] at hfp
  have hk2 := hopen (.ext s.nx (SlA el 1 (some ⟨b', o'', none⟩) (expR (appR (drpR off l0) news)).length cap' (bcells (expR (appR (drpR off l0) news))))) w' hfp
  obtain ⟨ρ', L', hpost⟩ := rbNew_use hr0 hp hdel hk2
  rw [hju] at hr
  refine ⟨ρ', _, L', w', hr, ?_⟩
  rw [hlen] at hpost
  exact hpost
theorem biAppBig_s (hcT : c.T = pg.T) (hz : ∀ t i, getT pg.T t = some i → i.zero.cells.size = i.size) {el : Nat} {x y : CV} (h : biAppBig pg el x y s = .ok r) {t tx ty : Nat} {d : TypeDesc} (ht : c.P.underlying t = some (.slice el)) (hd : slTy d = true) (hu : c.P.underlying tx = some d)
    {ρ : Asg} {F L : List Blk} {w : World} (hp : Pre c pg ρ s F L w) {v u : Value} (hv : val ρ x = some v) (hv2 : val ρ y = some u) :
    ∃ ρ' v' L' w', (Builtin.append_ #[t, tx] ty #[v, u]).run c.P w = .ok v' w' ∧ Post c pg ρ F s r ρ' v' L' w' := by
  unfold biAppBig at h
  split at h
  rotate_left
  · cases h
  rename_i j m news hj hy
  split at h
  rotate_left
  · cases h
  rename_i hu8 hj1 hm0
  have hj1 := Nat.eq_of_beq_eq_true hj1
  rw [nblt, decide_eq_true_eq] at hm0
  have hjo := getT_ok hcT hj
  obtain ⟨hm, hx⟩ := src_big hp hy hv2 hd hu
  have hzj := hz _ _ hj
  have fresh : ∀ {a : Option Addr} {cap : Nat}, rbNew s el j news = .ok r → (Builtin.firstCells j.size 0 (.slice a 0 cap)).run c.P w.drew = .ok ([] : List Value).toArray w.drew → cap < 0 + m →
      ∃ ρ' v' L' w', (Builtin.append_ #[t, tx] ty #[.slice a 0 cap, u]).run c.P w = .ok v' w' ∧ Post c pg ρ F s r ρ' v' L' w' := by
    intro a cap h hold hg
    have hbig : (0 + m) * (j.bytes + 1) ≤ 140737488355328 := by
      have h0 := h
      unfold rbNew at h0
      split at h0
      rotate_left
      · cases h0
      rename_i e1 _
      have e1 := Nat.le_of_ble_eq_true e1
      rw [lenR_eq, ← hm] at e1
      rwa [Nat.zero_add]
    have hx' := hx
    rw [← hj1] at hx'
    obtain ⟨cap', w', h1, h2⟩ := app_new (ty := ty) ht hjo hzj (n := 0) (cs := []) (by simp) hold hx' hg hbig
    rw [Nat.zero_add, List.nil_append, hj1, hm] at h2
    obtain ⟨ρ', L', hpost⟩ := rbNew_new h hp h2
    refine ⟨ρ', _, L', w', h1, ?_⟩
    rw [Nat.zero_add, hm]
    exact hpost
  unfold appBig at h
  split at h
  · cases hv
    exact fresh h (run_firstCells_none _ _ _ _ _) (by omega)
  · obtain ⟨q, _, rfl⟩ := val_se_inv hv
    refine fresh h ?_ (by simp [capO]; omega)
    cases q.a with
    | none => exact run_firstCells_none _ _ _ _ _
    | some ad => exact run_firstCells_some w.drew j.size 0 ad 0 _ [] (by simp) (fun j v hj => by simp at hj)
  · rename_i i k off len
    obtain ⟨q, b, o', g1, g2, rfl⟩ := val_sl_inv hv
    split at h
    · rename_i t' l0 hf
      split at h
      rotate_left
      · cases h
      rename_i e1 e2 e3 e4
      obtain rfl := Nat.eq_of_beq_eq_true e1
      have e2 := Nat.eq_of_beq_eq_true e2
      have e3 := Nat.eq_of_beq_eq_true e3
      rw [lenR_eq] at e3
      obtain ⟨A, L1, L2, hA, hL, _, hdel⟩ := hb_find hf hp.rw
      obtain ⟨q', h5, rfl, _⟩ := ass_rb hA
      rw [g1] at h5
      cases h5
      subst hL
      exact appBig_use (n := (expR l0).length) hj1 hzj e2 h ht hjo g2 hp hdel e3 rfl hm hm0 hx
    · rename_i t' k' n cs hf
      split at h
      rotate_left
      · cases h
      rename_i bs e1 e2 e2' e3 e4 hbs
      obtain rfl := Nat.eq_of_beq_eq_true e1
      have e2 := Nat.eq_of_beq_eq_true e2
      have e2' := Nat.eq_of_beq_eq_true e2'
      have e3 := Nat.eq_of_beq_eq_true e3
      subst e2'
      obtain ⟨A, L1, L2, hA, hL, _, hdel⟩ := hb_find hf hp.rw
      obtain ⟨q', vs, h5, h6, rfl, _⟩ := ass_cells hA
      rw [g1] at h5
      cases h5
      rw [ofU8s_val hbs] at h6
      cases h6
      have hk0 := hp.k
      rw [hL, List.append_assoc, List.cons_append] at hk0
      obtain ⟨T, hT, _, _⟩ := Kn.openA (ms := []) (x := .ext i (SlA t' 1 q.a n q.cap (bcells bs))) hk0
      have hT : (SlA t' 1 q.a n q.cap (bcells bs)).holds w T := hT
      have hlen := SlA.len hT
      rw [bcells_length, Nat.mul_one] at hlen
      subst hL
      have hp' : Pre c pg ρ s F (L1 ++ .ext i (SlA t' 1 q.a n q.cap (bcells (expR (ofB bs)))) :: L2) w := by rw [ofB_exp]; exact hp
      exact appBig_use (n := n) hj1 hzj e2 h ht hjo g2 hp' hdel e3 (by rw [ofB_exp]; exact hlen) hm hm0 hx
    · cases h
  · cases h
theorem biAppend_s (hcT : c.T = pg.T) (hz : ∀ t i, getT pg.T t = some i → i.zero.cells.size = i.size) {ats : List Nat} {args : List CV} (h : biAppend pg ats args s = .ok r) : BiS c pg .append ats.toArray args s r := by
  unfold biAppend at h
  split at h
  rotate_left
  · cases h
  rename_i x y t tx
  split at h
  rotate_left
  · cases h
  rename_i ti txi hti htxi
  have fin : ∀ {ρ : Asg} {F : List Blk} {w : World} {v u : Value} (ty : Nat) (consts : Array Bool), (∃ ρ' v' L' w', (Builtin.append_ #[t, tx] ty #[v, u]).run c.P w = .ok v' w' ∧ Post c pg ρ F s r ρ' v' L' w') → ∃ ρ' v' L' w', (Go.builtin .append [t, tx].toArray ty consts [v, u].toArray).run c.P w = .ok (.value v') w' ∧ Post c pg ρ F s r ρ' v' L' w' := by
    rintro ρ F w v u ty consts ⟨ρ', v', L', w', q1, q2⟩
    exact ⟨ρ', v', L', w', by simp [Go.builtin, q1], q2⟩
  split at h
  rotate_left
  · rename_i el hd hsl
    have h1 := (getT_ok hcT hti).1
    rw [hd] at h1
    have h2 := (getT_ok hcT htxi).1
    intro ρ F L w vals ty consts hp hv
    obtain ⟨v, u, hv1, hv2, rfl⟩ := valL_two hv
    exact fin ty consts (biAppendZ_s hcT hz h h1 h2 hp hv1 hv2)
  · cases h
  rename_i el hd hsl
  split at h
  · have h1 := (getT_ok hcT hti).1
    rw [hd] at h1
    have h2 := (getT_ok hcT htxi).1
    intro ρ F L w vals ty consts hp hv
    obtain ⟨v, u, hv1, hv2, rfl⟩ := valL_two hv
    exact fin ty consts (biAppBig_s hcT hz h h1 hsl h2 hp hv1 hv2)
  split at h
  rotate_left
  · cases h
  rename_i j m news hj hs
  split at h
  rotate_left
  · cases h
  rename_i hl hone
  have hl := Nat.eq_of_beq_eq_true hl
  have h1 := (getT_ok hcT hti).1
  rw [hd] at h1
  have h2 := (getT_ok hcT htxi).1
  have hjo := getT_ok hcT hj
  intro ρ F L w vals ty consts hp hv
  obtain ⟨v, u, hv1, hv2, rfl⟩ := valL_two hv
  obtain ⟨ns, g1, g2⟩ := src_of hp hs hv2 hl hone hsl h2
  apply fin ty consts
  unfold appX at h
  split at h
  · cases hv1
    split at h
    · have hns : ns = [] := by have := g2.newsLen; simpa using this
      subst hns
      rw [pureR_eq] at h
      cases h
      exact ⟨ρ, _, L, w, app_zero h1 hjo (Nat.le_refl _) g2, .refl ρ, hp.free, Nat.le_refl _, rfl, hp.rw, hp.k⟩
    · exact appNew_s h h1 hjo (hz _ _ hj) hp (olds := []) (os := []) rfl (by simp) (run_firstCells_none _ _ _ _ _) g1 g2 (by omega)
  · obtain ⟨q, _, rfl⟩ := val_se_inv hv1
    split at h
    · cases h
    · refine appNew_s h h1 hjo (hz _ _ hj) hp (olds := []) (os := []) rfl (by simp) ?_ g1 g2 (by simp [capO])
      cases q.a with
      | none => exact run_firstCells_none _ _ _ _ _
      | some ad => exact run_firstCells_some w.drew j.size 0 ad 0 _ [] (by simp) (fun j v hj => by simp at hj)
  · exact appS_s hz h h1 hjo (hz _ _ hj) hp hv1 g1 g2
  · cases h
end
end Go.Y

namespace Go.Y
open Go Go.X
/-! functions whose contract is known -/
theorem Kn0.openA2 {W : World} {S : Nat → Prop} {x y : Blk} {H : List Blk} {w : World} (h0 : Kn0 W S (x :: y :: H) w) :
    ∃ T T2, x.ass.holds w T ∧ y.ass.holds w T2 ∧ (∀ k, T k → k < w.heap.size) ∧ (∀ k, T k → T2 k → False) ∧ ∀ (z : Blk) w', FPost T w z.ass w' → Kn0 W S (z :: y :: H) w' := by
  obtain ⟨T0, hT0, hb⟩ := h0.foot
  cases hT0 with
  | @cons _ _ T T' hx hbx hH hd =>
    have : ∃ T2, y.holds w T2 ∧ ∀ k, T2 k → T' k := by
      cases hH with
      | cons hy _ _ _ => exact ⟨_, hy, fun k hk => .inl hk⟩
    obtain ⟨T2, hy, hsub⟩ := this
    refine ⟨T, T2, (Blk.ass_holds _ _ _).2 hx, (Blk.ass_holds _ _ _).2 hy, hbx, fun k h1 h2 => hd k h1 (hsub k h2), fun z w' ⟨he, S', h1, h2'⟩ => ?_⟩
    refine Kn0.eff h0 (T := T) (fun k hk => hb k (.inl hk)) he (H' := z :: y :: H)
      (.cons ((Blk.ass_holds _ _ _).1 h1) (fun k hk => (h2' k hk).1) (hH.mono he.size fun k hk => he.old k (hH.lt k hk) fun h => hd k h hk) fun k hk hk' => ?_) fun k hk => ?_
    · rcases (h2' k hk).2 with h | h
      · exact hd k h hk'
      · have := hH.lt k hk'; omega
    · rcases hk with hk | hk
      · rcases (h2' k hk).2 with h | h
        · exact .inl h
        · have := h0.size; exact .inr (.inr (by omega))
      · exact .inr (hb k (.inr hk))
theorem findB_delB {i j : Nat} (hij : Nat.beq j i = false) : ∀ {h : CH} {b : CB}, findB j h = some b → findB j (delB i h) = some b
  | [], b, hx => by cases (show (none : Option CB) = some b from hx)
  | (k, c) :: h, b, hx => by
    have e : findB j ((k, c) :: h) = (match Nat.beq k j with | true => some c | false => findB j h) := rfl
    have e3 : delB i ((k, c) :: h) = (match Nat.beq k i with | true => h | false => (k, c) :: delB i h) := rfl
    rw [e] at hx
    rw [e3]
    cases hkj : Nat.beq k j with
    | true =>
      rw [hkj] at hx
      cases hx
      obtain rfl := Nat.eq_of_beq_eq_true hkj
      rw [hij]
      show (match Nat.beq k k with | true => some c | false => findB k (delB i h)) = some c
      rw [hkj]
    | false =>
      rw [hkj] at hx
      have hx : findB j h = some b := hx
      cases hki : Nat.beq k i with
      | true => exact hx
      | false =>
        show (match Nat.beq k j with | true => some c | false => findB j (delB i h)) = some b
        rw [hkj]
        exact findB_delB hij hx
theorem valL_three {ρ : Asg} {x y z : CV} {vs : List Value} (h : valL ρ [x, y, z] = some vs) : ∃ a b d, val ρ x = some a ∧ val ρ y = some b ∧ val ρ z = some d ∧ vs = [a, b, d] := by
  simp only [valL] at h
  cases h1 : val ρ x with
  | none => rw [h1] at h; cases h
  | some a =>
    cases h2 : val ρ y with
    | none => rw [h1, h2] at h; cases h
    | some b =>
      cases h3 : val ρ z with
      | none => rw [h1, h2, h3] at h; cases h
      | some d =>
        rw [h1, h2, h3] at h
        cases h
        exact ⟨a, b, d, rfl, rfl, rfl, rfl⟩
section
variable {c : Cx} {pg : Pg} {s : Sn} {r : O2}
/-- the call of a function whose contract is known -/
def ConS (c : Cx) (pg : Pg) (f : Nat) (args : List CV) (s : Sn) (r : O2) : Prop :=
  ∀ ρ F L w vals, Pre c pg ρ s F L w → valL ρ args = some vals → (∀ as w, (callFunc f as).run c.P w = .ok (.enter f as) w) ∧
    Calls c.P f vals.toArray w (fun e w' => ∃ v, e = .returned v ∧ ∃ ρ' L', Post c pg ρ F s r ρ' v L' w')
theorem conI_s (hok : PgOk c.P pg) {f t : Nat} (hf : extK f pg.X = some (2 + 16 * t)) {args : List CV} (h : conI pg t args s = some (.ok r)) : ConS c pg f args s r := by
  unfold conI at h
  split at h
  rotate_left
  · cases h
  rename_i i q off len p i2 q2 off2 m cap2
  split at h
  rotate_left
  · cases h
  rename_i hpl
  have hpl : p < len := by simpa [nblt] using hpl
  replace h := Option.some.inj h
  unfold insR at h
  split at h
  rotate_left
  · cases h
  rename_i j t' k' n cs t2 k2 n2 c2 cs2 hj hb hb2
  split at h
  rotate_left
  · cases h
  rename_i e1 e2 e3 e4 e5 e6
  obtain rfl := Nat.eq_of_beq_eq_true e1
  obtain rfl := Nat.eq_of_beq_eq_true e2
  obtain rfl := Nat.eq_of_beq_eq_true e3
  obtain rfl := Nat.eq_of_beq_eq_true e4
  obtain rfl := Nat.eq_of_beq_eq_true e5
  obtain rfl := Nat.eq_of_beq_eq_true e6
  split at h
  rotate_left
  · cases h
  rename_i d1 d2 d3 d4 d5
  have d1 : 0 < m := by simpa [nblt] using d1
  have d3 := Nat.le_of_ble_eq_true d3
  have d4 := Nat.eq_of_beq_eq_true d4
  split at h
  rotate_left
  · cases h
  rename_i l hl
  split at h
  rotate_left
  · cases h
  rename_i news a b hnews ha hbb
  split at h
  rotate_left
  · cases h
  rename_i o1 o2
  obtain ⟨hl1, rfl⟩ := dropN_spec hl
  obtain ⟨hn1, rfl⟩ := takeN_spec hnews
  obtain ⟨ha1, rfl⟩ := takeN_spec ha
  obtain ⟨hb1, rfl⟩ := dropN_spec hbb
  have hins := hok.ins f t' j hf hj
  rw [d4] at hins
  intro ρ F L w vals hp hv
  refine ⟨hins.enters, ?_⟩
  obtain ⟨v1, v2, v3, g1, g2, g3, rfl⟩ := valL_three hv
  cases g2
  obtain ⟨qv, bk, o', x1, x2, rfl⟩ := val_sl_inv g1
  obtain ⟨qv2, bk2, o2', y1, y2, rfl⟩ := val_sl_inv g3
  obtain ⟨A, L1, L2, hA, rfl, _, hdel⟩ := hb_find hb hp.rw
  obtain ⟨A2, M1, M2, hA2, hM, _, _⟩ := hb_find (findB_delB d2 hb2) hdel
  obtain ⟨q', vs, h5, h6, rfl, _⟩ := ass_cells hA
  rw [x1] at h5
  cases h5
  obtain ⟨q2', vs2, h5', h6', rfl, _⟩ := ass_cells hA2
  rw [y1] at h5'
  cases h5'
  have hperm : ((L1 ++ .ext i (SlA t' k2 qv.a len qv.cap vs) :: L2) ++ F).Perm (.ext i (SlA t' k2 qv.a len qv.cap vs) :: .ext i2 (SlA t2 k2 qv2.a n2 qv2.cap vs2) :: (M1 ++ M2 ++ F)) := by
    have p1 : ((L1 ++ .ext i (SlA t' k2 qv.a len qv.cap vs) :: L2) ++ F).Perm (.ext i (SlA t' k2 qv.a len qv.cap vs) :: ((L1 ++ L2) ++ F)) := by
      rw [List.append_assoc, List.append_assoc]
      exact List.perm_middle
    refine p1.trans (List.Perm.cons _ ?_)
    rw [hM, List.append_assoc, List.append_assoc]
    exact List.perm_middle
  obtain ⟨T, T2, hT, hT2, hlt, hdis, hclose⟩ := Kn0.openA2 (hp.k.perm hperm)
  have hT : (SlA t' k2 qv.a len qv.cap vs).holds w T := hT
  rw [RV.a_of x2] at hT
  have hT2 : (SlA t2 k2 qv2.a n2 qv2.cap vs2).holds w T2 := hT2
  rw [RV.a_of y2] at hT2
  rcases hT2 with ⟨e0, _⟩ | ⟨b2, hb2T, pre, post, fr, hae, hh, hlc, _, _, _⟩
  · cases e0
  obtain ⟨rfl, rfl⟩ : bk2 = b2 ∧ o2' = pre.length := by simpa using hae
  have hvlen := valL_length h6
  have hvlen2 := valL_length h6'
  have hns : valL ρ ((cs2.drop (off2 * k2)).take (m * k2)) = some ((vs2.drop (off2 * k2)).take (m * k2)) := valL_take (valL_drop h6' _) _
  have hn2 : ((vs2.drop (off2 * k2)).take (m * k2)).length = m * k2 := by
    rw [valL_length hns, List.length_take]; omega
  have hcall := hins.calls w T bk o' len qv.cap p bk2 (pre.length + off2 * k2) m (capO cap2 (qv2.cap - off2)) vs ((vs2.drop (off2 * k2)).take (m * k2)) _ t2 fr hT hlt hh (fun h => hdis _ h hb2T)
    (fun z hz => by
      simp only [List.getElem?_toArray, List.append_assoc]
      rw [List.getElem?_append_right (by omega), show pre.length + off2 * k2 + z - pre.length = off2 * k2 + z by omega, List.getElem?_take, if_pos hz, List.getElem?_drop, List.getElem?_append_left]
      have := valL_length (valL_drop h6' (off2 * k2))
      rw [List.length_take, List.length_drop] at hn2
      omega) hn2 hpl d1 d3 (allOneC_val o2 h6) (allOneC_val o1 hns)
  have e0 : (#[Value.slice (some ⟨bk, o', none⟩) len qv.cap, .int .i64 p, .slice (some ⟨bk2, pre.length + off2 * k2, none⟩) m (capO cap2 (qv2.cap - off2))] : Array Value) =
      ([Value.slice (some ⟨bk, o' + 0 * k2, none⟩) len (capO none (qv.cap - 0)), .int .i64 (.ofNat p), .slice (some ⟨bk2, pre.length + off2 * k2, none⟩) m (capO cap2 (qv2.cap - off2))] : List Value).toArray := by
    simp [capO]
  rw [e0] at hcall
  refine hcall.mono ?_
  rintro e w' ⟨a', cap', rfl, hfp⟩
  refine ⟨_, rfl, ?_⟩
  have ha' : ∃ b' o'', a' = ⟨b', o'', none⟩ := by
    obtain ⟨_, T', hh, _⟩ := hfp
    rcases hh with ⟨h0, _⟩ | ⟨b', _, pre, _, _, ha, _⟩
    · cases h0
    · exact ⟨b', _, by simpa using ha⟩
  obtain ⟨b', o'', rfl⟩ := ha'
  rw [newR_eq] at h
  cases h
  have hle := Asg.ins_le (r := ⟨some (b', o''), cap'⟩) hp.free
  obtain ⟨L', h8, h9⟩ := hb_mono hle hdel
  have hval : valL (ρ.ins s.nx ⟨some (b', o''), cap'⟩) (appN (cs.take (p * k2)) (appN ((cs2.drop (off2 * k2)).take (m * k2)) (cs.drop (p * k2)))) = some (vs.take (p * k2) ++ ((vs2.drop (off2 * k2)).take (m * k2) ++ vs.drop (p * k2))) := by
    rw [appN_eq, appN_eq]
    exact valL_append (valL_mono hle (valL_take h6 _)) (valL_append (valL_mono hle hns) (valL_mono hle (valL_drop h6 _)))
  have hk2 := hclose (.ext s.nx (SlA t' k2 (some ⟨b', o'', none⟩) (len + m) cap' (vs.take (p * k2) ++ ((vs2.drop (off2 * k2)).take (m * k2) ++ vs.drop (p * k2))))) w' hfp
  refine ⟨ρ.ins s.nx ⟨some (b', o''), cap'⟩, .ext s.nx (SlA t' k2 (some ⟨b', o'', none⟩) (len + m) cap' (vs.take (p * k2) ++ ((vs2.drop (off2 * k2)).take (m * k2) ++ vs.drop (p * k2)))) :: L', Asg.ins_leN hp.free, Asg.ins_free hp.free, Nat.le_succ _, ?_, ?_, ?_⟩
  · simp [val, Asg.ins_get]
  · exact hb_mk (ass_mk (Asg.ins_get _ _ _) hval rfl) h8
  · generalize (Blk.ext s.nx (SlA t' k2 (some ⟨b', o'', none⟩) (len + m) cap' (vs.take (p * k2) ++ ((vs2.drop (off2 * k2)).take (m * k2) ++ vs.drop (p * k2))))) = x at hk2 ⊢
    have hk3 : Kn0 c.W c.S ([x] ++ ((L1 ++ L2) ++ F)) w' := by
      refine hk2.perm (List.Perm.cons _ ?_)
      rw [hM, List.append_assoc, List.append_assoc]
      exact List.perm_middle.symm
    have hX : HSub ([x] ++ (L' ++ F)) ([x] ++ ((L1 ++ L2) ++ F)) := HSub.app2 (HSub.refl [x]) (h9.app2 (HSub.refl F))
    exact Kn0.hsub hk3 hX
theorem bornA_spec {ρ : Asg} {clk : Nat} : ∀ {es : List (CV × CV × Nat)} {lo : Nat} {l : List MapEntry}, bornA clk es lo = true → esV ρ es = some l → (∀ x ∈ l, lo ≤ x.born ∧ x.born < clk) ∧ (l.map (·.born)).Nodup
  | [], lo, l, _, hv => by cases hv; simp
  | (k, v, b) :: es, lo, l, h, hv => by
    replace h : (match Nat.ble lo b with | true => bornA clk es (b + 1) | false => false) = true := h
    cases hb : Nat.ble lo b with
    | false => rw [hb] at h; cases h
    | true =>
      rw [hb] at h
      replace h : bornA clk es (b + 1) = true := h
      have hb := Nat.le_of_ble_eq_true hb
      simp only [esV] at hv
      split at hv
      rotate_left
      · cases hv
      rename_i k' v' l' h1 h2 h3
      cases hv
      obtain ⟨g1, g2⟩ := bornA_spec h h3
      have hclk : b + 1 ≤ clk := by
        clear g1 g2 h1 h2 h3
        revert h
        generalize b + 1 = m
        induction es generalizing m with
        | nil => exact fun h => Nat.le_of_ble_eq_true h
        | cons p es ih =>
          intro h
          have h : (match Nat.ble m p.2.2 with | true => bornA clk es (p.2.2 + 1) | false => false) = true := h
          cases hm : Nat.ble m p.2.2 with
          | false => rw [hm] at h; cases h
          | true =>
            rw [hm] at h
            have := ih _ h
            have := Nat.le_of_ble_eq_true hm
            omega
      refine ⟨fun x hx => ?_, ?_⟩
      · rcases List.mem_cons.1 hx with rfl | hx
        · exact ⟨hb, by show b < clk; omega⟩
        · have := g1 x hx; exact ⟨by omega, this.2⟩
      · rw [List.map_cons, List.nodup_cons]
        refine ⟨fun hm => ?_, g2⟩
        obtain ⟨x, hx, he⟩ := List.mem_map.1 hm
        have := (g1 x hx).1
        have he : x.born = b := he
        omega
theorem insL_perm {α : Type} {lt : α → α → Bool} {x : α} : ∀ (l : List α), (insL lt x l).Perm (x :: l)
  | [] => List.Perm.refl _
  | y :: l => by
    have e : insL lt x (y :: l) = (match lt y x with | true => y :: insL lt x l | false => x :: y :: l) := rfl
    rw [e]
    cases lt y x with
    | true => exact ((insL_perm l).cons y).trans (List.Perm.swap x y l)
    | false => exact List.Perm.refl _
theorem sortL_perm {α : Type} {lt : α → α → Bool} : ∀ (l : List α), (sortL lt l).Perm l
  | [] => List.Perm.refl _
  | x :: l => (insL_perm (sortL lt l)).trans ((sortL_perm l).cons x)
theorem ascL_pw {α : Type} {lt : α → α → Bool} (tr : ∀ a b d, lt a b = true → lt b d = true → lt a d = true) : ∀ {l : List α}, ascL lt l = true → l.Pairwise (fun a b => lt a b = true)
  | [], _ => List.Pairwise.nil
  | [x], _ => List.pairwise_singleton _ _
  | x :: y :: l, h => by
    have h : (match lt x y with | true => ascL lt (y :: l) | false => false) = true := h
    cases hxy : lt x y with
    | false => rw [hxy] at h; cases h
    | true =>
      rw [hxy] at h
      have ih := ascL_pw tr (l := y :: l) h
      refine List.pairwise_cons.2 ⟨fun z hz => ?_, ih⟩
      rcases List.mem_cons.1 hz with rfl | hz
      · exact hxy
      · exact tr _ _ _ hxy ((List.pairwise_cons.1 ih).1 z hz)
theorem mapL_eq {α β : Type} (f : α → β) : ∀ (l : List α), mapL f l = l.map f
  | [] => rfl
  | x :: l => by show f x :: mapL f l = _; rw [mapL_eq f l]; rfl
/-- what ascends is what mergeSort gives -/
theorem sort_uniq {α : Type} {lt le : α → α → Bool} (tr : ∀ a b d, lt a b = true → lt b d = true → lt a d = true) (trl : ∀ a b d, le a b = true → le b d = true → le a d = true) (tot : ∀ a b, (le a b || le b a) = true)
    (anti : ∀ a b, le a b = true → le b a = true → a = b) (hle : ∀ a b, lt a b = true → le a b = true) (irr : ∀ a, lt a a = false) {l : List α} (h : ascL lt (sortL lt l) = true) : sortL lt l = l.mergeSort le ∧ l.Nodup := by
  have hp := ascL_pw tr h
  constructor
  · exact List.Perm.eq_of_pairwise (le := fun a b => le a b = true) (fun a b _ _ h1 h2 => anti a b h1 h2) (hp.imp (fun h => hle _ _ h)) (List.pairwise_mergeSort trl tot l) ((sortL_perm l).trans (List.mergeSort_perm l le).symm)
  · refine ((sortL_perm l).nodup_iff).1 (hp.imp fun {a b} h e => ?_)
    rw [e, irr] at h
    cases h
theorem intsC_spec {ρ : Asg} : ∀ {es : List (CV × CV × Nat)} {l : List MapEntry} {zs : List Int}, intsC es = some zs → esV ρ es = some l → l.map (·.key) = zs.map encI ∧ ∀ z ∈ zs, 0 ≤ z ∧ z < 9223372036854775808
  | [], l, zs, h, hv => by
    cases hv
    cases (show some [] = some zs from h)
    simp
  | (k, v, b) :: es, l, zs, h, hv => by
    replace h : (match (generalizing := false) k with
      | .v (.int .i64 (.ofNat n)) => (match Nat.blt n 9223372036854775808, intsC es with | true, some r => some (.ofNat n :: r) | _, _ => none)
      | _ => none) = some zs := h
    split at h
    rotate_left
    · cases h
    rename_i n
    split at h
    rotate_left
    · cases h
    rename_i r hn hr
    cases h
    simp only [esV] at hv
    split at hv
    rotate_left
    · cases hv
    rename_i k' v' l' h1 h2 h3
    cases hv
    cases h1
    obtain ⟨g1, g2⟩ := intsC_spec hr h3
    refine ⟨by simp [g1, encI], fun z hz => ?_⟩
    rcases List.mem_cons.1 hz with rfl | hz
    · have : n < 9223372036854775808 := by simpa [nblt] using hn
      simp only [Int.ofNat_eq_natCast]
      omega
    · exact g2 z hz
theorem strsC_spec {ρ : Asg} : ∀ {es : List (CV × CV × Nat)} {l : List MapEntry} {zs : List (List UInt8)}, strsC es = some zs → esV ρ es = some l → l.map (·.key) = zs.map encS ∧ ∀ z ∈ zs, z.length ≤ 1000000
  | [], l, zs, h, hv => by
    cases hv
    cases (show some [] = some zs from h)
    simp
  | (k, v, b) :: es, l, zs, h, hv => by
    replace h : (match (generalizing := false) k with
      | .v (.string b) => (match Nat.ble (lenN b.data.toList) 1000000, strsC es with | true, some r => some (b.data.toList :: r) | _, _ => none)
      | _ => none) = some zs := h
    split at h
    rotate_left
    · cases h
    rename_i n
    split at h
    rotate_left
    · cases h
    rename_i r hn hr
    cases h
    simp only [esV] at hv
    split at hv
    rotate_left
    · cases hv
    rename_i k' v' l' h1 h2 h3
    cases hv
    cases h1
    obtain ⟨g1, g2⟩ := strsC_spec hr h3
    refine ⟨by simp [g1, encS], fun z hz => ?_⟩
    rcases List.mem_cons.1 hz with rfl | hz
    · rw [lenN_eq] at hn
      exact Nat.le_of_ble_eq_true hn
    · exact g2 z hz
theorem valL_enc {ρ : Asg} {α : Type} (f : α → Value) : ∀ (l : List α), valL ρ (l.map fun z => CV.v (f z)) = some (l.map f)
  | [] => rfl
  | x :: l => by simp [valL, val, valL_enc f l]
/-- the row of the sorted keys, in a new block -/
theorem rowS_s {t : Nat} {cs : List CV} {vs : List Value} (hc : ∀ ρ, valL ρ cs = some vs) (h : rowS t s cs = .ok r) {ρ : Asg} {F L : List Blk} {w w' : World} (hp : Pre c pg ρ s F L w) {a' : Addr} {cap' n : Nat} (hn : n = cs.length) (hn0 : 0 < n)
    (hfp : FPost (fun _ => False) w (SlA t 1 (some a') n cap' vs) w') : ∃ ρ' L', Post c pg ρ F s r ρ' (.slice (some a') n cap') L' w' := by
  have ha' : ∃ b' o'', a' = ⟨b', o'', none⟩ := by
    obtain ⟨_, T', hh, _⟩ := hfp
    rcases hh with ⟨h0, _⟩ | ⟨b', _, pre, _, _, ha, _⟩
    · cases h0
    · exact ⟨b', _, by simpa using ha⟩
  obtain ⟨b', o'', rfl⟩ := ha'
  subst hn
  rw [← lenN_eq cs] at hfp ⊢
  exact Post.new h hp ⟨some (b', o''), cap'⟩ (A := SlA t 1 (some ⟨b', o'', none⟩) (lenN cs) cap' vs)
    (ass_mk (Asg.ins_get _ _ _) (hc _) rfl) (by simp [val, Asg.ins_get]) (fun H hk => Kn0.fresh hk s.nx hfp)
end
end Go.Y

namespace Go.Y
open Go Go.X
section
variable {c : Cx} {pg : Pg} {s : Sn} {r : O2}
theorem ltZ_eq (a b : Int) : ltZ a b = decide (a < b) := by
  simp only [ltZ, leI_eq]
  rw [Bool.eq_iff_iff]
  simp [Int.not_le]
theorem sortZ {l : List Int} (h : ascL ltZ (sortL ltZ l) = true) : sortL ltZ l = l.mergeSort (fun x y => decide (x ≤ y)) ∧ l.Nodup := by
  refine sort_uniq (fun a b d h1 h2 => ?_) (fun a b d h1 h2 => ?_) (fun a b => ?_) (fun a b h1 h2 => ?_) (fun a b h1 => ?_) (fun a => ?_) h
  all_goals simp only [ltZ_eq, decide_eq_true_eq, Bool.or_eq_true, decide_eq_false_iff_not] at *
  all_goals omega
theorem bl_eq : ∀ (x y : List UInt8), Op.bytesLess x y = decide (x < y)
  | [], [] => by simp [Op.bytesLess]
  | [], _ :: _ => by simp [Op.bytesLess]
  | _ :: _, [] => by simp [Op.bytesLess]
  | a :: x, b :: y => by
    have ih := bl_eq x y
    simp only [Op.bytesLess, ih, List.cons_lt_cons_iff]
    rw [Bool.eq_iff_iff]
    simp
theorem ltB_eq (a b : List UInt8) : ltBytes a b = decide (a < b) := by
  rw [ltBytes_eq]
  exact bl_eq a b
theorem sortB {l : List (List UInt8)} (h : ascL ltBytes (sortL ltBytes l) = true) : sortL ltBytes l = l.mergeSort (fun x y => decide (x ≤ y)) ∧ l.Nodup := by
  refine sort_uniq (fun a b d h1 h2 => ?_) (fun a b d h1 h2 => ?_) (fun a b => ?_) (fun a b h1 h2 => ?_) (fun a b h1 => ?_) (fun a => ?_) h
  all_goals simp only [ltB_eq, decide_eq_true_eq, Bool.or_eq_true, decide_eq_false_iff_not] at *
  · exact List.lt_trans h1 h2
  · exact List.le_trans h1 h2
  · exact List.le_total a b
  · exact List.le_antisymm h1 h2
  · exact List.le_of_lt h1
  · exact List.lt_irrefl a
theorem sortR_s {α : Type} {enc : α → Value} {le : α → α → Bool} {okp : α → Prop} {f g t : Nat} (hS : SrtOk enc le okp c.P f g t) {zs : List α} {cs : List CV} (h : rowS t s cs = .ok r) (hcs : ∀ ρ, valL ρ cs = some ((zs.mergeSort le).map enc)) (hlen : cs.length = zs.length)
    {es : List (CV × CV × Nat)} {clk : Nat} (hb : bornA clk es 0 = true) (hkeys : ∀ ρ l, esV ρ es = some l → l.map (·.key) = zs.map enc) (hok : ∀ z ∈ zs, okp z) (hnd : zs.Nodup) (hne : zs ≠ []) (hmax : zs.length ≤ 1000000)
    {ρ : Asg} {F L : List Blk} {w : World} (hp : Pre c pg ρ s F L w) {bb o m tb : Nat} {C : Array Value} {fr : Nat × Nat} {l : List MapEntry} (h1 : w.heap[bb]? = some (.cells C tb fr)) (h2 : C[o]? = some (.map (some m))) (h3 : w.heap[m]? = some (.map l.toArray clk)) (h4 : esV ρ es = some l) :
    Calls c.P f #[.func (.func g) #[] #[.pointer (some ⟨bb, o, none⟩)]] w (fun e w' => ∃ v, e = .returned v ∧ ∃ ρ' L', Post c pg ρ F s r ρ' v L' w') := by
  obtain ⟨b1, b2⟩ := bornA_spec hb h4
  refine (hS.calls w bb o m C tb fr l clk zs h1 h2 h3 (hkeys ρ l h4) hne (fun x hx => (b1 x hx).2) b2 hnd hmax hok).mono ?_
  rintro e w' ⟨a', cap', rfl, hfp⟩
  exact ⟨_, rfl, rowS_s hcs h hp hlen.symm (List.length_pos_iff.2 hne) hfp⟩
theorem conS_s (hok : PgOk c.P pg) {f kd e t : Nat} (hke : (kd = 5 ∧ e = 3) ∨ (kd = 7 ∧ e = 6)) (hf : extK f pg.X = some (e + 16 * t)) {args : List CV} (h : conS pg kd t args s = some (.ok r)) : ConS c pg f args s r := by
  unfold conS at h
  split at h
  rotate_left
  · cases h
  rename_i x
  split at h
  rotate_left
  · cases h
  rename_i g b hx
  split at h
  rotate_left
  · cases h
  rename_i k tb kb nb cb i hk hfb
  split at h
  rotate_left
  · cases h
  rename_i es clk hkk hfi
  have hkk := Nat.eq_of_beq_eq_true hkk
  subst hkk
  split at h
  · cases h
  · cases h
  rename_i hne1 hne2
  replace h := Option.some.inj h
  intro ρ F L w vals hp hv
  obtain ⟨v1, hv1, rfl⟩ := valL_one hv
  rw [← val_opn, hx] at hv1
  have hv2 : ∃ bb o, ρ b = some ⟨some (bb, o), (ρ b).elim 0 (·.cap)⟩ ∧ v1 = .func (.func g) #[] #[.pointer (some ⟨bb, o, none⟩)] := by
    simp only [val, valL] at hv1
    cases h1 : ρ b with
    | none => rw [h1] at hv1; cases hv1
    | some q =>
      rw [h1] at hv1
      obtain ⟨qp, qc⟩ := q
      cases qp with
      | none => cases hv1
      | some q =>
        obtain ⟨bb, o⟩ := q
        cases hv1
        exact ⟨bb, o, rfl, by simp⟩
  obtain ⟨bb, o, hρ, rfl⟩ := hv2
  obtain ⟨A, T, hA, hT, _⟩ := find_holds hfb hp.ro hp.rw hp.k
  obtain ⟨q, vs, a1, a2, rfl, _⟩ := ass_cells hA
  rw [hρ] at a1
  cases a1
  have hm : ∃ m, idO ρ i = some m ∧ vs = [.map (some m)] := by
    obtain ⟨v, hv, rfl⟩ := valL_one a2
    obtain ⟨m, h1, rfl⟩ := val_mp_inv hv
    exact ⟨m, h1, rfl⟩
  obtain ⟨m, hm, rfl⟩ := hm
  obtain ⟨l, hl, hhm⟩ := find_map hp hfi hm
  rcases hT with ⟨e0, _⟩ | ⟨b', _, pre, post, fr, ha, hh, _⟩
  · cases e0
  obtain ⟨rfl, rfl⟩ : bb = b' ∧ o = pre.length := by simpa [RV.a] using ha
  have hC : (pre ++ [Value.map (some m)] ++ post).toArray[pre.length]? = some (.map (some m)) := by simp
  unfold sortR at h
  split at h
  rotate_left
  · cases h
  rename_i hb hmx
  rw [lenN_eq] at hmx
  have hmx := Nat.le_of_ble_eq_true hmx
  have hll := esV_length hl
  have hes : es ≠ [] := hne1
  rcases hke with ⟨rfl, rfl⟩ | ⟨rfl, rfl⟩
  · have e5 : Nat.beq 5 5 = true := rfl
    rw [e5] at h
    simp only at h
    split at h
    rotate_left
    · cases h
    rename_i zs hzs
    split at h
    rotate_left
    · cases h
    rename_i hasc
    have hS := hok.srtI f g t hf hk
    have hz := sortZ hasc
    have hzl : zs.length = es.length := by
      have := congrArg List.length (intsC_spec hzs hl).1
      simpa [hll] using this.symm
    refine ⟨hS.enters, sortR_s hS h (fun ρ => ?_) ?_ hb (fun ρ l hl => (intsC_spec hzs hl).1) (intsC_spec hzs hl).2 hz.2 (fun e => hes (List.eq_nil_of_length_eq_zero (by rw [← hzl, e]; rfl))) (by omega) hp hh hC hhm hl⟩
    · rw [mapL_eq, hz.1]
      exact valL_enc encI _
    · rw [mapL_eq, List.length_map, (sortL_perm zs).length_eq]
  · have e7 : Nat.beq 7 5 = false := rfl
    rw [e7] at h
    simp only at h
    split at h
    rotate_left
    · cases h
    rename_i zs hzs
    split at h
    rotate_left
    · cases h
    rename_i hasc
    have hS := hok.srtS f g t hf hk
    have hz := sortB hasc
    have hzl : zs.length = es.length := by
      have := congrArg List.length (strsC_spec hzs hl).1
      simpa [hll] using this.symm
    refine ⟨hS.enters, sortR_s hS h (fun ρ => ?_) ?_ hb (fun ρ l hl => (strsC_spec hzs hl).1) (strsC_spec hzs hl).2 hz.2 (fun e => hes (List.eq_nil_of_length_eq_zero (by rw [← hzl, e]; rfl))) (by omega) hp hh hC hhm hl⟩
    · rw [mapL_eq, hz.1]
      exact valL_enc encS _
    · rw [mapL_eq, List.length_map, (sortL_perm zs).length_eq]
theorem isTab_val {ρ : Asg} : ∀ {cs : List CV} {t : List Nat}, isTab cs t = true → valL ρ cs = some (t.map fun n => Value.int .u32 (.ofNat n))
  | [], [], _ => rfl
  | [], _ :: _, h => by cases (show false = true from h)
  | _ :: _, [], h => by cases (show false = true from h)
  | x :: cs, n :: t, h => by
    replace h : (match (generalizing := false) x with | .v (.int .u32 (.ofNat m)) => (match Nat.beq m n with | true => isTab cs t | false => false) | _ => false) = true := h
    split at h
    rotate_left
    · cases h
    rename_i m
    split at h
    rotate_left
    · cases h
    rename_i hm
    obtain rfl := Nat.eq_of_beq_eq_true hm
    simp [valL, val, isTab_val h]
theorem pure_s {x : CV} (h : pureR s x = .ok r) {ρ : Asg} {F L : List Blk} {w w' : World} (hp : Pre c pg ρ s F L w) {v : Value} (hv : val ρ x = some v) (hfp : FPost (fun _ => False) w emp w') : ∃ ρ' L', Post c pg ρ F s r ρ' v L' w' := by
  rw [pureR_eq] at h
  cases h
  exact ⟨ρ, L, .refl ρ, hp.free, Nat.le_refl _, hv, hp.rw, (Kn0.fresh hp.k s.nx hfp).hsub (.drop (HSub.refl _))⟩
theorem conK_s (hok : PgOk c.P pg) {f t : Nat} (hf : extK f pg.X = some (8 + 16 * t)) {args : List CV} (h : conK pg t args s = some (.ok r)) : ConS c pg f args s r := by
  unfold conK at h
  split at h
  rotate_left
  · cases h
  rename_i i k off len cap
  split at h
  rotate_left
  · cases h
  rename_i m l cs _ hb hg
  split at h
  rotate_left
  · cases h
  rename_i z htab ht hlen hsum
  replace h := Option.some.inj h
  have ht : t < 1000 := by simpa [nblt] using ht
  have hlen := Nat.le_of_ble_eq_true hlen
  have hcon := hok.crc f t hf
  intro ρ F L w vals hp hv
  refine ⟨hcon.enters, ?_⟩
  obtain ⟨v1, hv1, rfl⟩ := valL_one hv
  obtain ⟨hm, halt⟩ := bytR_spec hp hb hv1
  obtain ⟨q, b, o', g1, g2, rfl⟩ := val_sl_inv hv1
  have hcell : ∀ j u, (bcells (expR l))[j]? = some u → w.cell? ⟨b, o' + off * k + j, none⟩ = some u := by
    intro j u hj
    rcases halt with ⟨c', e2, _⟩ | ⟨a, c', e2, h0⟩ | ⟨b2, o2, c', e2, hc⟩ | ⟨b2, e2, _⟩
    · cases e2
    · have : expR l = [] := List.length_eq_zero_iff.1 (by omega)
      rw [this] at hj
      simp [bcells] at hj
    · cases e2
      exact hc j u hj
    · cases e2
  have hml : (expR l).length = len := by
    rcases halt with ⟨c', e2, _⟩ | ⟨a, c', e2, h0⟩ | ⟨b2, o2, c', e2, hc⟩ | ⟨b2, e2, _⟩
    · cases e2
    · cases e2; omega
    · cases e2; omega
    · cases e2
  obtain ⟨A, T, hA, hT, _⟩ := find_holds hg hp.ro hp.rw hp.k
  obtain ⟨q', vs, a1, a2, rfl⟩ := ass_glob hA
  rw [hp.gl t ht] at a1
  cases a1
  rw [isTab_val htab] at a2
  cases a2
  obtain ⟨b', _, ha, tg, fg, hh⟩ := hT
  obtain rfl : t = b' := by simpa [RV.a] using ha
  refine (hcon.calls w tg fg b (o' + off * k) len (capO cap (q.cap - off)) (expR l) hh hcell hml hlen).mono ?_
  rintro e w' ⟨rfl, hfp⟩
  refine ⟨_, rfl, ?_⟩
  have hz : crcV (expR l) = z := by
    have := hok.sums (appR l []) z hsum
    rwa [appR_exp, show expR [] = [] from rfl, List.append_nil] at this
  rw [hz]
  exact pure_s h hp rfl hfp
theorem conP_s (hok : PgOk c.P pg) {f t : Nat} (hf : extK f pg.X = some (9 + 16 * t)) {args : List CV} (h : conP args s = some (.ok r)) : ConS c pg f args s r := by
  unfold conP at h
  split at h
  rotate_left
  · cases h
  rename_i b n
  split at h
  rotate_left
  · cases h
  rename_i ch hb
  split at h
  rotate_left
  · cases h
  rename_i h1 h2
  have h1 := Nat.le_of_ble_eq_true h1
  have h2 := Nat.le_of_ble_eq_true h2
  replace h := Option.some.inj h
  have hcon := hok.rep f t hf
  intro ρ F L w vals hp hv
  refine ⟨hcon.enters, ?_⟩
  have hvals : vals = [.string b, .int .i64 (.ofNat n)] := by
    simp only [valL, val] at hv
    exact (Option.some.inj hv).symm
  subst hvals
  have hb' : b = ⟨#[ch]⟩ := by
    apply congrArg ByteArray.mk
    apply Array.ext'
    exact hb
  subst hb'
  refine (hcon.calls w ch n h1 h2).mono ?_
  rintro e w' ⟨rfl, hfp⟩
  refine ⟨_, rfl, pure_s h hp ?_ hfp⟩
  simp [val, strR, expR]
theorem conC_s (hok : PgOk c.P pg) {f k : Nat} (hf : extK f pg.X = some k) {args : List CV} (h : conC pg (Nat.mod k 16) (Nat.div k 16) args s = some (.ok r)) : ConS c pg f args s r := by
  have hk : k = Nat.mod k 16 + 16 * Nat.div k 16 := (Nat.mod_add_div k 16).symm
  rw [hk] at hf
  unfold conC at h
  split at h
  · rename_i e; rw [e] at hf; exact conI_s hok hf h
  · rename_i e; rw [e] at hf; exact conS_s hok (.inl ⟨rfl, rfl⟩) hf h
  · rename_i e; rw [e] at hf; exact conS_s hok (.inr ⟨rfl, rfl⟩) hf h
  · rename_i e; rw [e] at hf; exact conK_s hok hf h
  · rename_i e; rw [e] at hf; exact conP_s hok hf h
  · cases h
end
end Go.Y

namespace Go.Y
open Go Go.X
/-- a call of a function's value -/
def VCS (c : Cx) (pg : Pg) (D : List Nat) (rec : Rec) : Prop :=
  ∀ g args s r, callV pg D rec g args s = .ok r → ∀ ρ F L w gv vals, Pre c pg ρ s F L w → val ρ g = some gv → valL ρ args = some vals →
    VC c.P gv vals.toArray w (fun v w' => ∃ ρ' L', Post c pg ρ F s r ρ' v L' w')
section
variable {c : Cx} {pg : Pg} {D : List Nat} {rec : Rec} {o : Oper} {e : Look} {s : Sn} {r : O2}
theorem biC_s (hcT : c.T = pg.T) (hok : PgOk c.P pg) {b : Builtin} {ats : List Nat} {args : List CV} (h : biC pg b ats args s = .ok r) : BiS c pg b ats.toArray args s r := by
  unfold biC at h
  split at h
  · exact biLen_s hcT h
  · exact biCap_s hcT h
  · exact biMin_s h
  · exact biMax_s h
  · exact biAppend_s hcT hok.zero h
  · exact biCopy_s hcT h
  · exact biClear_s hcT h
  · exact biDelete_s hcT h
  · cases h
theorem run_mapsClone {P : Program} {w : World} {r : Nat} {es : Array MapEntry} {clock : Nat} (t : TypeId) (hb : w.heap[r]? = some (.map es clock)) :
    (Extern.MapsClone.clone #[.iface t (.map (some r))]).run P w = .ok (.iface t (.map (some w.heap.size))) (w.alloc (.map es clock)) := by
  have e : Extern.MapsClone.clone #[.iface t (.map (some r))] = (getObj r >>= fun o => match o with
      | .map entries clock => (newObj (.map entries clock) >>= fun n => pure (.iface t (.map (some n))))
      | _ => stuck "maps.clone: a map expected") := rfl
  have hg := getObj_ran (P := P) hb (by intro _ _ _ e; cases e)
  rw [e]
  simp [hg, Result.andThen, go_sem]
theorem run_addN {P : Program} (a b d : Nat) (hd : d ≤ 1) (w : World) : (extE 4 #[.int .u64 (.ofNat a), .int .u64 (.ofNat b), .int .u64 (.ofNat d)]).run P w = .ok (.tuple #[.int .u64 (.ofNat ((a + b + d) % 18446744073709551616)), .int .u64 (.ofNat ((a + b + d) / 18446744073709551616))]) w := by
  have h := run_add64 (P := P) (.ofNat a) (.ofNat b) (.ofNat d) (Int.natCast_nonneg _) (Int.natCast_nonneg _) (Int.natCast_nonneg _) (by simp; omega) w
  have e1 : (Int.ofNat a + Int.ofNat b + Int.ofNat d) % 18446744073709551616 = .ofNat ((a + b + d) % 18446744073709551616) := by simp
  have e2 : (Int.ofNat a + Int.ofNat b + Int.ofNat d) / 18446744073709551616 = .ofNat ((a + b + d) / 18446744073709551616) := by simp
  rw [e1, e2] at h
  exact h
theorem extC_s {k : Nat} {args : List CV} (h : extC k args s = .ok r) {ρ : Asg} {F L : List Blk} {w : World} {vals : List Value} (hp : Pre c pg ρ s F L w) (hv : valL ρ args = some vals) :
    ∃ ρ' v L' w', (extE k vals.toArray).run c.P w = .ok v w' ∧ Post c pg ρ F s r ρ' v L' w' := by
  unfold extC at h
  split at h
  · split at h
    rotate_left
    · cases h
    rename_i x
    obtain ⟨v, hv1, rfl⟩ := valL_one hv
    rw [← val_opn] at hv1
    split at h
    rotate_left
    · cases h
    rename_i t i hx
    rw [hx] at hv1
    split at h
    rotate_left
    · cases h
    rename_i es clk hf
    simp only [val] at hv1
    split at hv1
    rotate_left
    · cases hv1
    rename_i m0 hm0
    cases hv1
    obtain ⟨m, g1, rfl⟩ := val_mp_inv hm0
    obtain ⟨l, g3, g4⟩ := find_map hp hf g1
    have hle := Asg.ins_le (r := ⟨some (w.heap.size, 0), 0⟩) hp.free
    obtain ⟨ρ', L', hpost⟩ := Post.new h hp ⟨some (w.heap.size, 0), 0⟩ (A := ObjA w.heap.size (.map l.toArray clk)) (v := .iface t (.map (some w.heap.size)))
      (by simp [CB.ass, idO, Asg.ins_get, RV.id, esV_mono hle g3]) (by simp [val, Asg.ins_get, RV.id]) (fun H hk => Kn0.allocO' hk s.nx _)
    exact ⟨ρ', _, L', _, run_mapsClone t g4, hpost⟩
  · split at h
    rotate_left
    · cases h
    rename_i x
    obtain ⟨v, hv1, rfl⟩ := valL_one hv
    rw [pureR_eq] at h
    cases h
    exact ⟨ρ, v, L, w, rfl, .refl ρ, hp.free, Nat.le_refl _, hv1, hp.rw, hp.k⟩
  · split at h
    rotate_left
    · cases h
    rename_i a b d
    split at h
    rotate_left
    · cases h
    rename_i hd
    have hd := Nat.le_of_ble_eq_true hd
    obtain ⟨v1, v2, v3, g1, g2, g3, rfl⟩ := valL_three hv
    cases g1
    cases g2
    cases g3
    rw [pureR_eq] at h
    cases h
    exact ⟨ρ, .tuple #[.int .u64 (.ofNat ((a + b + d) % 18446744073709551616)), .int .u64 (.ofNat ((a + b + d) / 18446744073709551616))], L, w, run_addN a b d hd w, .refl ρ, hp.free, Nat.le_refl _, by simp only [val, valL]; rfl, hp.rw, hp.k⟩
  · cases h
theorem opCall_s (hcT : c.T = pg.T) (hok : PgOk c.P pg) (hv : VCS c pg D rec) {cl : Call} (ho : o.op = .call cl) (h : opCall pg D rec e s cl = .ok r) : OpS c pg o e s r := by
  have hnd : ∀ cl, o.op ≠ .defer cl := by rw [ho]; intro cl e; cases e
  unfold opCall at h
  split at h
  rotate_left
  · cases h
  rename_i args hargs
  split at h
  · rename_i f hf
    split at h
    rotate_left
    · cases h
    rename_i g hg
    have fin : ∀ {g : CV}, opdC e f = some g → callV pg D rec g args s = .ok r → OpS c pg o e s r := by
      intro g hg h
      intro ρ F L a w Q hp ht
      have e1 := opdC_spec hp.gl ht hg
      have e2 := opdsC_spec hp.gl ht hargs
      obtain ⟨w1, nxt, h3, h4⟩ := hv _ _ _ _ h ρ F L w _ _ hp e1 e2
      have hargs' : cl.args.map a.eval = (cl.args.toList.map a.eval).toArray := by cases cl.args; simp
      have hrun : (execOp a.eval o).run c.P w = .ok nxt w1 := by
        rw [← h3]
        simp only [execOp, ho]
        simp [resolve, hf, hargs']
      cases nxt with
      | enter f as =>
        refine wpIn_of_enter hnd hrun (h4.mono ?_)
        rintro e w' ⟨v, rfl, ρ', L', h5⟩
        exact ⟨_, rfl, ρ', v, L', rfl, h5⟩
      | round l f tmps as bd =>
        refine ⟨fun _ _ => trivial, ?_⟩
        rw [Oper.semAt_eq _ _ _ hnd, hrun]
        refine ⟨fun h => by simp [Cx.F, Fence.wide] at h, (show RoundIn c.F 0 c.P l f tmps as bd w1 _ from h4).mono ?_⟩
        rintro e w' ⟨v, rfl, ρ', L', h5⟩
        exact ⟨ρ', v, L', rfl, h5⟩
      | _ => exact h4.elim
    split at h
    · rename_i fid first caps
      split at h
      · rename_i k hk
        split at h
        · rename_i r' hr'
          subst h
          have hcon := conC_s hok hk hr'
          intro ρ F L a w Q hp ht
          have e1 := opdC_spec hp.gl ht hg
          have e2 := opdsC_spec hp.gl ht hargs
          obtain ⟨hen, hcall⟩ := hcon ρ F L w _ hp e2
          have hargs' : cl.args.map a.eval = (cl.args.toList.map a.eval).toArray := by cases cl.args; simp
          have hfv : a.eval f = .func (.func fid) #[] #[] := by
            simp only [val, valL] at e1
            exact (Option.some.inj e1).symm
          have hrun : (execOp a.eval o).run c.P w = .ok (.enter fid (cl.args.toList.map a.eval).toArray) w := by
            rw [← hen]
            simp only [execOp, ho]
            simp [resolve, hf, hargs', hfv, Deferred.ofValue, invoke]
          refine wpIn_of_enter hnd hrun (hcall.mono ?_)
          rintro e w' ⟨v, rfl, ρ', L', h5⟩
          exact ⟨_, rfl, ρ', v, L', rfl, h5⟩
        split at h
        rotate_left
        · exact fin hg h
        rename_i hk'
        obtain ⟨fn, hf1, hf2, hf3, hf4, hf5⟩ := hok.ext _ _ hk hk'
        refine OpS.run hnd fun ρ F L a w hp ht => ?_
        have e1 := opdC_spec hp.gl ht hg
        have e2 := opdsC_spec hp.gl ht hargs
        obtain ⟨ρ', v, L', w', h5, h6⟩ := extC_s h hp e2
        refine ⟨ρ', v, L', w', ?_, h6⟩
        have hargs' : cl.args.map a.eval = (cl.args.toList.map a.eval).toArray := by cases cl.args; simp
        have hfv : a.eval f = .func (.func fid) #[] #[] := by
          simp only [val, valL] at e1
          exact (Option.some.inj e1).symm
        have hcall := run_callFunc_extern hf1 hf2 hf3 hf4 hf5 (cl.args.toList.map a.eval).toArray w
        rw [h5] at hcall
        simp only [execOp, ho]
        simp [resolve, hf, hargs', hfv, Deferred.ofValue, invoke] at hcall ⊢
        rw [hcall]
      · exact fin hg h
    · exact fin hg h
  · rename_i b hb
    have h1 := biC_s hcT hok h
    refine OpS.run hnd fun ρ F L a w hp ht => ?_
    have e2 := opdsC_spec hp.gl ht hargs
    obtain ⟨ρ', v, L', w', h5, h6⟩ := h1 ρ F L w _ o.type (cl.args.map fun | .const _ => true | _ => false) hp e2
    refine ⟨ρ', v, L', w', ?_, h6⟩
    have hargs' : cl.args.map a.eval = (cl.args.toList.map a.eval).toArray := by cases cl.args; simp
    rw [← h5]
    simp only [execOp, ho]
    simp only [resolve, hb, Sem.run_bind, Sem.run_pure, Result.andThen_ok, invoke, hargs', Array.toArray_toList]
    rfl
  · rename_i x m hx
    split at h
    rotate_left
    · cases h
    rename_i y hy
    split at h
    rotate_left
    · cases h
    rename_i t z hz
    split at h
    rotate_left
    · cases h
    rename_i fid hinv
    have h' : callV pg D rec (.fn fid [] []) (z :: args) s = .ok r := by
      simp only [callV, opn, appN_eq, List.append_nil, List.nil_append]
      exact h
    intro ρ F L a w Q hp ht
    have e1 := opdC_spec hp.gl ht hy
    rw [← val_opn, hz] at e1
    have e2 := opdsC_spec hp.gl ht hargs
    simp only [val] at e1
    cases hzv : val ρ z with
    | none => rw [hzv] at e1; cases e1
    | some zv =>
      rw [hzv] at e1
      have e1 : a.eval x = .iface t zv := (Option.some.inj e1).symm
      obtain ⟨w1, nxt, h3, h4⟩ := hv _ _ _ _ h' ρ F L w (.func (.func fid) #[] #[]) (zv :: cl.args.toList.map a.eval) hp rfl (by simp only [valL, hzv, e2])
      have hrun : (execOp a.eval o).run c.P w = .ok nxt w1 := by
        rw [← h3]
        have hi := hok.inv t m fid hinv zv (cl.args.map a.eval) w
        have hargs' : (zv :: cl.args.toList.map a.eval).toArray = #[zv] ++ cl.args.map a.eval := by cases cl.args; simp
        have hex : (#[Value.iface t zv] ++ cl.args.map a.eval).extract 1 (#[Value.iface t zv] ++ cl.args.map a.eval).size = cl.args.map a.eval := by
          apply Array.ext'
          simp
          exact List.take_of_length_le (by simp)
        have h0 : (#[Value.iface t zv] ++ Array.map a.eval cl.args)[0]? = some (.iface t zv) := by
          rw [Array.getElem?_append_left (by simp)]
          rfl
        have h1 : (execOp a.eval o).run c.P w = (callMethod (.iface t zv) m ((#[Value.iface t zv] ++ cl.args.map a.eval).extract 1 (#[Value.iface t zv] ++ cl.args.map a.eval).size)).run c.P w := by
          simp only [execOp, ho]
          simp [resolve, hx, e1, invoke]
          rw [h0]
        have h2 : (Deferred.ofValue (.func (.func fid) #[] #[]) (#[zv] ++ cl.args.map a.eval) >>= fun d => invoke d.target d.args).run c.P w = (callFunc fid (#[zv] ++ cl.args.map a.eval)).run c.P w := by
          simp [Deferred.ofValue, invoke]
        rw [h1, hex, hi, hargs', h2]
      cases nxt with
      | enter f as =>
        refine wpIn_of_enter hnd hrun (h4.mono ?_)
        rintro e w' ⟨v, rfl, ρ', L', h5⟩
        exact ⟨_, rfl, ρ', v, L', rfl, h5⟩
      | round l f tmps as bd =>
        refine ⟨fun _ _ => trivial, ?_⟩
        rw [Oper.semAt_eq _ _ _ hnd, hrun]
        refine ⟨fun h => by simp [Cx.F, Fence.wide] at h, (show RoundIn c.F 0 c.P l f tmps as bd w1 _ from h4).mono ?_⟩
        rintro e w' ⟨v, rfl, ρ', L', h5⟩
        exact ⟨ρ', v, L', rfl, h5⟩
      | _ => exact h4.elim
/-- every operation -/
theorem opC_s (hcT : c.T = pg.T) (hok : PgOk c.P pg) (hv : VCS c pg D rec) (h : opC pg D rec o e s = .ok r) : OpS c pg o e s r := by
  unfold opC at h
  split at h
  · rename_i ho; exact opMove_s ho h
  · rename_i ho; exact opAssign_s ho h
  · rename_i ho; exact opPick_s ho h
  · rename_i ho; exact opAlloc_s hcT hok.zero ho h
  · rename_i ho; exact opBox_s ho h
  · rename_i ho; exact opLoad_s hcT ho h
  · rename_i ho; exact opStore_s hcT ho h
  · rename_i ho; exact opFieldAddr_s hcT ho h
  · rename_i ho; exact opNilCheck_s ho h
  · rename_i ho; exact opField_s hcT ho h
  · rename_i ho; exact opBuild_s hcT ho h
  · rename_i ho; exact opBuildSlice_s hcT hok.zero ho h
  · rename_i ho; exact opMakeSlice_s hcT hok.zero ho h
  · rename_i ho; exact opBinOp_s hcT hok.cmp ho h
  · rename_i ho; exact opUnOp_s ho h
  · rename_i ho; exact opConvert_s hcT ho h
  · rename_i ho; exact opMakeInterface_s hcT ho h
  · rename_i ho; exact opExtract_s ho h
  · rename_i ho; exact opMakeFunc_s ho h
  · rename_i ho; exact opMakeMap_s hcT ho h
  · rename_i ho; exact opSlice_s hcT ho h
  · rename_i ho; exact opIndexAddr_s hcT ho h
  · rename_i ho; exact opIndex_s hcT ho h
  · rename_i ho; exact opLookup_s hcT ho h
  · rename_i ho; exact mapUpd_s hcT (.inl ho) h
  · rename_i ho; exact mapUpd_s hcT (.inr ho) h
  · rename_i ho; exact opMapEntry_s hcT ho h
  · rename_i ho; exact opEntryStore_s ho h
  · rename_i ho; exact opRange_s hcT ho h
  · rename_i ho; exact opNextT_s ho h
  · rename_i ho; exact opNextF_s ho h
  · rename_i ho; exact opEntry_s ho h
  · rename_i ho; exact opTypeAssert_s hcT ho h
  · rename_i ho; exact opCall_s hcT hok hv ho h
  · cases h
end
end Go.Y

namespace Go.Y
open Go Go.X
/-! checksums -/
def tabN (n : Nat) : Nat := crcT.getD n 0
theorem crc4_eq (r : Nat) : crc4 r = Nat.xor (r / 16) (tabN (r % 16)) := by
  unfold crc4 tabN
  have h : Nat.mod r 16 < 16 := Nat.mod_lt _ (by decide)
  rw [nthN_eq]
  have hl : crcT.length = 16 := rfl
  rw [List.getElem?_eq_getElem (by omega)]
  have : crcT.getD (r % 16) 0 = crcT[Nat.mod r 16] := by
    rw [List.getD_eq_getElem?_getD, List.getElem?_eq_getElem (by show Nat.mod r 16 < _; omega)]
    rfl
  rw [this]
  rfl
theorem tabN_lt (n : Nat) : tabN n < 4294967296 := by
  unfold tabN
  by_cases h : n < 16
  · have : ∀ n : Fin 16, crcT.getD n.val 0 < 4294967296 := by decide +kernel
    exact this ⟨n, h⟩
  · rw [List.getD_eq_getElem?_getD, List.getElem?_eq_none (by show 16 ≤ n; omega)]
    decide
theorem crc4_lt {r : Nat} (h : r < 4294967296) : crc4 r < 4294967296 := by
  rw [crc4_eq]
  exact Nat.xor_lt_two_pow (n := 32) (by omega) (tabN_lt _)
theorem xor_lt32 {a b : Nat} (ha : a < 4294967296) (hb : b < 4294967296) : Nat.xor a b < 4294967296 := Nat.xor_lt_two_pow (n := 32) ha hb
theorem crc8_lt {c r : Nat} (hc : c < 4294967296) (h : r < 4294967296) : crc8 c r < 4294967296 := crc4_lt (crc4_lt (xor_lt32 h hc))
theorem crcN_zero (c r : Nat) : crcN c 0 r = r := rfl
theorem crcN_succ (c n r : Nat) : crcN c (n + 1) r = crcN c n (crc8 c r) := by
  show frcN (crc8 c r) (crcN c n) = _
  rw [frcN_eq']
theorem crcN_add (c : Nat) : ∀ (a b r : Nat), crcN c (a + b) r = crcN c b (crcN c a r)
  | 0, b, r => by rw [Nat.zero_add, crcN_zero]
  | a + 1, b, r => by rw [show a + 1 + b = (a + b) + 1 by omega, crcN_succ, crcN_add c a b, crcN_succ]
theorem crcN_exp {c : Nat} (hc : c < 256) : ∀ (n r : Nat), (List.replicate n (UInt8.ofNat c)).foldl (fun r c => crc8 c.toNat r) r = crcN c n r
  | 0, r => rfl
  | n + 1, r => by
    rw [List.replicate_succ, List.foldl_cons, crcN_exp hc n, crcN_succ]
    have : (UInt8.ofNat c).toNat = c := by simp [UInt8.toNat_ofNat']; omega
    rw [this]
theorem crcR_cons (c n : Nat) (l : List (Nat × Nat)) (r : Nat) : crcR ((c, n) :: l) r = crcR l (crcN c n r) := by
  show frcN (crcN c n r) (crcR l) = _
  rw [frcN_eq']
theorem crcR_exp : ∀ {l : List (Nat × Nat)}, (l.all fun p => Nat.blt p.1 256) = true → ∀ r, (expR l).foldl (fun r c => crc8 c.toNat r) r = crcR l r
  | [], _, r => rfl
  | (c, n) :: l, h, r => by
    rw [List.all_cons, Bool.and_eq_true] at h
    have hc : c < 256 := by have := h.1; simpa [nblt] using this
    rw [crcR_cons, ← crcR_exp h.2]
    simp only [expR, List.foldl_append]
    rw [crcN_exp hc]
theorem crcR_app : ∀ (a b : List (Nat × Nat)) (r : Nat), crcR (a ++ b) r = crcR b (crcR a r)
  | [], b, r => rfl
  | (c, n) :: a, b, r => by rw [List.cons_append, crcR_cons, crcR_cons, crcR_app a b]
/-- a checksum that is known -/
def SumOk (p : List (Nat × Nat) × Nat) : Prop := crcV (expR p.1) = p.2
theorem SumOk.mk' {l : List (Nat × Nat)} {c r : Nat} (hl : (l.all fun p => Nat.blt p.1 256) = true) (h : crcR l 4294967295 = r) (hc : Nat.xor r 4294967295 = c) : SumOk (l, c) := by
  show Nat.xor _ 4294967295 = c
  rw [crcR_exp hl, h]
  exact hc
inductive SumsOk : List (List (Nat × Nat) × Nat) → Prop
  | nil : SumsOk []
  | cons {p : List (Nat × Nat) × Nat} {l : List (List (Nat × Nat) × Nat)} (h : SumOk p) (hl : SumsOk l) : SumsOk (p :: l)
theorem SumsOk.find : ∀ {R : List (List (Nat × Nat) × Nat)}, SumsOk R → ∀ {l : List (Nat × Nat)} {c : Nat}, findS l R = some c → crcV (expR l) = c
  | [], _, l, c, h => by cases (show (none : Option Nat) = some c from h)
  | p :: R, hR, l, c, h => by
    cases hR with
    | cons h1 h2 =>
      replace h : (match beqR p.1 l with | true => some p.2 | false => findS l R) = some c := h
      cases hb : beqR p.1 l with
      | true =>
        rw [hb] at h
        cases h
        rw [← beqR_eq hb]
        exact h1
      | false =>
        rw [hb] at h
        exact SumsOk.find h2 h
/-! the bits of u32 -/
theorem bits_xor32 (a b : Nat) (ha : a < 4294967296) (hb : b < 4294967296) : IntKind.u32.wrap (bitN .xor .u32 (a : Int) (b : Int)) = ((Nat.xor a b : Nat) : Int) := by
  have h1 : bitN .xor .u32 (a : Int) (b : Int) = Nat.xor a b := by
    show (BitVec.ofInt 32 (a : Int) ^^^ BitVec.ofInt 32 (b : Int)).toNat = _
    rw [BitVec.toNat_xor, BitVec.ofInt_natCast, BitVec.ofInt_natCast, BitVec.toNat_ofNat, BitVec.toNat_ofNat, Nat.mod_eq_of_lt (by omega), Nat.mod_eq_of_lt (by omega)]
    rfl
  have h2 := xor_lt32 ha hb
  rw [h1]
  exact IntWalk.u32_in _ (by omega)
theorem bits_and15 (a : Nat) (ha : a < 4294967296) : IntKind.u32.wrap (bitN .and .u32 (a : Int) 15) = ((a % 16 : Nat) : Int) := by
  have h1 : bitN .and .u32 (a : Int) ((15 : Nat) : Int) = a % 16 := by
    show (BitVec.ofInt 32 (a : Int) &&& BitVec.ofInt 32 ((15 : Nat) : Int)).toNat = _
    rw [BitVec.toNat_and, BitVec.ofInt_natCast, BitVec.ofInt_natCast, BitVec.toNat_ofNat, BitVec.toNat_ofNat, Nat.mod_eq_of_lt (by omega), Nat.mod_eq_of_lt (by omega)]
    exact Nat.and_two_pow_sub_one_eq_mod a 4
  have h0 : bitN .and .u32 (a : Int) 15 = a % 16 := h1
  rw [h0]
  exact IntWalk.u32_in _ (by omega)
theorem shr4 (a : Nat) : ((a : Nat) : Int).fdiv (2 ^ min (4 : Int).toNat IntKind.u32.bits) = ((a / 16 : Nat) : Int) := by
  have : (2 : Int) ^ min (4 : Int).toNat IntKind.u32.bits = ((16 : Nat) : Int) := by decide
  rw [this, Int.fdiv_eq_ediv_of_nonneg _ (by omega)]
  rfl
end Go.Y

namespace Go.Y
open Go Go.X
/-! temporaries -/
theorem Tr.get_node (l : Tr) (x : Option CV) (r : Tr) (k : Nat) : (Tr.node l x r).get k = (match k with
    | 0 => x
    | k + 1 => match Nat.mod k 2 with
      | 0 => l.get (Nat.div k 2)
      | _ => r.get (Nat.div k 2)) := rfl
theorem Tr.put_nil (f : Nat) (k : Nat) (y : CV) : Tr.put (f + 1) .nil k y = (match k with
      | 0 => .node .nil (some y) .nil
      | k + 1 => match Nat.mod k 2 with
        | 0 => .node (Tr.put f .nil (Nat.div k 2) y) none .nil
        | _ => .node .nil none (Tr.put f .nil (Nat.div k 2) y)) := rfl
theorem Tr.put_node (f : Nat) (l : Tr) (x : Option CV) (r : Tr) (k : Nat) (y : CV) : Tr.put (f + 1) (.node l x r) k y = (match k with
      | 0 => .node l (some y) r
      | k + 1 => match Nat.mod k 2 with
        | 0 => .node (Tr.put f l (Nat.div k 2) y) x r
        | _ => .node l x (Tr.put f r (Nat.div k 2) y)) := rfl
theorem Tr.get_nil (k : Nat) : Tr.nil.get k = none := rfl
theorem half_eq {j k : Nat} (h1 : Nat.mod j 2 = Nat.mod k 2) (h2 : Nat.div j 2 = Nat.div k 2) : j = k := by
  have h1 : j % 2 = k % 2 := h1
  have h2 : j / 2 = k / 2 := h2
  omega
theorem mod2_ne {j : Nat} (h : Nat.mod j 2 = 0 → False) : Nat.mod j 2 = 1 := by
  have h : ¬ j % 2 = 0 := h
  have : j % 2 = 1 := by omega
  exact this
theorem Tr.get_put : ∀ (f : Nat) (t : Tr) (k : Nat) (y : CV) (j : Nat) (z : CV), (Tr.put f t k y).get j = some z → (j = k ∧ z = y) ∨ (j ≠ k ∧ t.get j = some z)
  | 0, t, k, y, j, z, h => by cases h
  | f + 1, .nil, k, y, j, z, h => by
    rw [Tr.put_nil] at h
    cases k with
    | zero =>
      simp only at h
      cases j with
      | zero => rw [Tr.get_node] at h; simp only [Option.some.injEq] at h; exact .inl ⟨rfl, h.symm⟩
      | succ j =>
        rw [Tr.get_node] at h
        simp only at h
        split at h <;> cases h
    | succ k =>
      simp only at h
      split at h
      · rename_i hk
        cases j with
        | zero => rw [Tr.get_node] at h; cases h
        | succ j =>
          rw [Tr.get_node] at h
          simp only at h
          split at h
          · rename_i hj
            rcases Tr.get_put f _ _ _ _ _ h with ⟨h1, h2⟩ | ⟨_, h2⟩
            · exact .inl ⟨by rw [half_eq (hj.trans hk.symm) h1], h2⟩
            · cases h2
          · cases h
      · rename_i hk
        cases j with
        | zero => rw [Tr.get_node] at h; cases h
        | succ j =>
          rw [Tr.get_node] at h
          simp only at h
          split at h
          · cases h
          · rename_i hj
            rcases Tr.get_put f _ _ _ _ _ h with ⟨h1, h2⟩ | ⟨_, h2⟩
            · exact .inl ⟨by rw [half_eq ((mod2_ne hj).trans (mod2_ne hk).symm) h1], h2⟩
            · cases h2
  | f + 1, .node l x r, k, y, j, z, h => by
    rw [Tr.put_node] at h
    rw [Tr.get_node]
    cases k with
    | zero =>
      simp only at h
      rw [Tr.get_node] at h
      cases j with
      | zero => simp only [Option.some.injEq] at h; exact .inl ⟨rfl, h.symm⟩
      | succ j => exact .inr ⟨by simp, h⟩
    | succ k =>
      simp only at h
      split at h
      · rename_i hk
        rw [Tr.get_node] at h
        cases j with
        | zero => exact .inr ⟨by simp, h⟩
        | succ j =>
          simp only at h ⊢
          split at h
          · rename_i hj
            rcases Tr.get_put f _ _ _ _ _ h with ⟨h1, h2⟩ | ⟨h1, h2⟩
            · exact .inl ⟨by rw [half_eq (hj.trans hk.symm) h1], h2⟩
            · refine .inr ⟨fun e => h1 (by cases e; rfl), h2⟩
          · rename_i hj
            exact .inr ⟨fun e => hj (by cases e; exact hk), h⟩
      · rename_i hk
        rw [Tr.get_node] at h
        cases j with
        | zero => exact .inr ⟨by simp, h⟩
        | succ j =>
          simp only at h ⊢
          split at h
          · rename_i hj
            exact .inr ⟨fun e => hk (by cases e; exact hj), h⟩
          · rename_i hj
            rcases Tr.get_put f _ _ _ _ _ h with ⟨h1, h2⟩ | ⟨h1, h2⟩
            · exact .inl ⟨by rw [half_eq ((mod2_ne hj).trans (mod2_ne hk).symm) h1], h2⟩
            · refine .inr ⟨fun e => h1 (by cases e; rfl), h2⟩
theorem Tr.putK_eq {β : Type} : ∀ (f : Nat) (t : Tr) (k : Nat) (y : CV) (K : Tr → β), Tr.putK f t k y K = K (Tr.put f t k y)
  | 0, t, k, y, K => rfl
  | f + 1, .nil, k, y, K => by
    have h : Tr.putK (f + 1) .nil k y K = (match k with
      | 0 => K (.node .nil (some y) .nil)
      | k + 1 => match Nat.mod k 2 with
        | 0 => Tr.putK f .nil (Nat.div k 2) y (fun l => K (.node l none .nil))
        | _ => Tr.putK f .nil (Nat.div k 2) y (fun r => K (.node .nil none r))) := rfl
    rw [h, Tr.put_nil]
    cases k with
    | zero => rfl
    | succ k =>
      simp only
      split <;> rw [Tr.putK_eq f]
  | f + 1, .node l x r, k, y, K => by
    have h : Tr.putK (f + 1) (.node l x r) k y K = (match k with
      | 0 => K (.node l (some y) r)
      | k + 1 => match Nat.mod k 2 with
        | 0 => Tr.putK f l (Nat.div k 2) y (fun l => K (.node l x r))
        | _ => Tr.putK f r (Nat.div k 2) y (fun r => K (.node l x r))) := rfl
    rw [h, Tr.put_node]
    cases k with
    | zero => rfl
    | succ k =>
      simp only
      split <;> rw [Tr.putK_eq f]
theorem putF_eq {β : Type} (d : Option Nat) (x : CV) (e : Tr) (k : Tr → β) : putF d x e k = k (putO d x e) := by
  cases d with
  | none => rfl
  | some d => exact Tr.putK_eq 12 e d x k
/-- a temporary is laid -/
theorem okT.put {ρ : Asg} {n : Nat} {e : Tr} {a : Act} (h : okT ρ n e.get a.tmps) {d : Option Nat} (hd : ∀ t, d = some t → t < n) {x : CV} {v : Value} (hx : val ρ x = some v) : okT ρ n (putO d x e).get (a.put d v).tmps := by
  cases d with
  | none => exact h
  | some d =>
    refine ⟨by simp [Act.put, h.1], fun t y hy => ?_⟩
    have hlt := hd d rfl
    rcases Tr.get_put 12 e d x t y hy with ⟨rfl, rfl⟩ | ⟨hne, h2⟩
    · have hs : t < a.tmps.size := by rw [h.1]; exact hlt
      simp [Act.put, Array.getD_eq_getD_getElem?, hs, hx]
    · have := h.2 t y h2
      rw [this]
      simp [Act.put, Array.getD_eq_getD_getElem?, Array.getElem?_setIfInBounds, Ne.symm hne]
/-- what is deferred -/
def dsR (ρ : Asg) : List CD → List Deferred → Prop
  | [], l => l = []
  | .mark i :: ds, l => ∃ m l', idO ρ i = some m ∧ l = mk m :: l' ∧ dsR ρ ds l'
  | .call g :: ds, l => ∃ caps args l', l = { target := .fn (.func g) caps, args } :: l' ∧ dsR ρ ds l'
theorem dsR.mono {ρ ρ' : Asg} (hle : ρ.le ρ') : ∀ {ds : List CD} {l : List Deferred}, dsR ρ ds l → dsR ρ' ds l
  | [], l, h => h
  | .mark i :: ds, l, ⟨m, l', h1, h2, h3⟩ => ⟨m, l', idO_mono hle h1, h2, dsR.mono hle h3⟩
  | .call g :: ds, l, ⟨caps, args, l', h2, h3⟩ => ⟨caps, args, l', h2, dsR.mono hle h3⟩
/-- the round in which code runs -/
def rdR (ρ : Asg) (lp r : Option Nat) : Prop := match lp with
  | none => r = none
  | some i => ∃ m, idO ρ i = some m ∧ r = some m
theorem rdR.mono {ρ ρ' : Asg} (hle : ρ.le ρ') {lp r : Option Nat} (h : rdR ρ lp r) : rdR ρ' lp r := by
  cases lp with
  | none => exact h
  | some i => exact h.imp fun _ h => ⟨idO_mono hle h.1, h.2⟩
/-- what is known behind code -/
structure PostC (c : Cx) (pg : Pg) (ρ : Asg) (F : List Blk) (nx0 : Nat) (e : Tr) (ds : List CD) (rw : CH) (nx : Nat) (ρ' : Asg) (L' : List Blk) (a' : Act) (w' : World) : Prop where
  lo : Asg.leN nx0 ρ ρ'
  free : ρ'.free nx
  nx : nx0 ≤ nx
  tm : okT ρ' c.n e.get a'.tmps
  rw : hb pg ρ' rw = some L'
  k : Kn0 c.W c.S (L' ++ F) w'
  ds : dsR ρ' ds a'.defers
theorem PostC.le {c : Cx} {pg : Pg} {ρ : Asg} {F : List Blk} {nx0 : Nat} {e : Tr} {ds : List CD} {rw : CH} {nx : Nat} {ρ' : Asg} {L' : List Blk} {a' : Act} {w' : World} (h : PostC c pg ρ F nx0 e ds rw nx ρ' L' a' w') : ρ.le ρ' := h.lo.1
/-- what code owes -/
def CodeS (c : Cx) (pg : Pg) (lp : Option Nat) (x : Code) (e : Tr) (ds : List CD) (s : Sn) (r : CR) : Prop :=
  ∀ ρ F L (a : Act) w, Pre c pg ρ s F L w → okT ρ c.n e.get a.tmps → rdR ρ lp c.r → dsR ρ ds a.defers →
    x.wpIn c.F 0 c.P (fun ex a' w' => Ex.of ex = some r.ex ∧ ∃ ρ' L', PostC c pg ρ F s.nx r.e r.ds r.rw r.nx ρ' L' a' w') a w
theorem Pre.next {c : Cx} {pg : Pg} {ρ ρ' : Asg} {s : Sn} {F L L' : List Blk} {w w' : World} {rw : CH} {nx : Nat} {md : List Nat} (hp : Pre c pg ρ s F L w) (hle : ρ.le ρ') (hf : ρ'.free nx) (hnx : s.nx ≤ nx) (hrw : hb pg ρ' rw = some L') (hk : Kn0 c.W c.S (L' ++ F) w') : Pre c pg ρ' ⟨rw, s.ro, nx, md⟩ F L' w' :=
  ⟨hp.gl.mono hle, hf, Nat.le_trans hp.nx hnx, hp.ro.mono hle, hrw, hk⟩
end Go.Y

namespace Go.Y
open Go Go.X
section
variable {c : Cx} {pg : Pg} {D : List Nat} {rec : Rec}
theorem getD_some {tmps : Array Value} {d : Nat} {v : Value} (h : tmps.getD d undef = v) (hv : v ≠ undef) : tmps[d]? = some v := by
  rw [Array.getD_eq_getD_getElem?] at h
  cases h1 : tmps[d]? with
  | none => rw [h1] at h; exact absurd h.symm hv
  | some u => rw [h1] at h; exact congrArg some h
theorem dstO_eq (all : List Oper) (j : Nat) : dstO all j = (all[j]?).bind (·.dst) := by
  unfold dstO
  rw [nthN_eq]
  cases all[j]? <;> rfl
theorem want_spec {ρ : Asg} {n : Nat} {all : List Oper} {e : Look} {o : Oper} {b : Bool} {tmps : Array Value} (h : wantC all e o = some b) (ht : okT ρ n e tmps) : Region.wanted o (yielded all.toArray tmps) = b := by
  unfold wantC at h
  unfold Region.wanted
  split at h
  · rename_i hg
    cases h
    simp [hg]
  · rename_i j w hg
    rw [hg]
    split at h
    · cases h
    · rename_i d hd
      rw [dstO_eq] at hd
      have h3 : ((all.toArray[j]?).bind (·.dst)).bind (tmps[·]?) = tmps[d]? := by simp [hd]
      simp only [yielded, h3]
      split at h
      · rename_i b' he
        cases h
        have h1 := ht.2 d _ he
        have h2 := getD_some (Option.some.inj h1).symm (by intro e; cases e)
        rw [h2, boolEq_eq]
        cases b' <;> cases w <;> rfl
      · rename_i u he
        cases h
        have h1 := (Option.some.inj (ht.2 d _ he)).symm
        rw [Array.getD_eq_getD_getElem?] at h1
        cases h4 : tmps[d]? with
        | none => rfl
        | some x => rw [h4] at h1; simp only [Option.getD_some] at h1; subst h1; rfl
      · cases h
theorem put_defers (a : Act) (d : Option Nat) (v : Value) : (a.put d v).defers = a.defers := by cases d <;> rfl
theorem okT.putU {ρ : Asg} {n : Nat} {e : Tr} {a : Act} (h : okT ρ n e.get a.tmps) (d : Option Nat) : okT ρ n (putO d undefC e).get (a.put d undef).tmps := by
  cases d with
  | none => exact h
  | some d =>
    by_cases hlt : d < n
    · exact okT.put h (fun t e => by cases e; exact hlt) rfl
    · refine ⟨by simp [Act.put, h.1], fun t y hy => ?_⟩
      rcases Tr.get_put 12 e d undefC t y hy with ⟨rfl, rfl⟩ | ⟨hne, h2⟩
      · have hs : ¬ t < a.tmps.size := by rw [h.1]; exact hlt
        simp [Act.put, Array.getD_eq_getD_getElem?, hs]
        rfl
      · have := h.2 t y h2
        rw [this]
        simp [Act.put, Array.getD_eq_getD_getElem?, Ne.symm hne]
theorem stepO_s (hcT : c.T = pg.T) (hok : PgOk c.P pg) (hv : VCS c pg D rec) {all : List Oper} {o : Oper} {e : Look} {s : Sn} {r : O2} (h : stepO pg D rec c.n all o e s = .ok r) :
    (∀ d, o.dst = some d → d < c.n) ∧ ∀ ρ F L (a : Act) w Q K, Pre c pg ρ s F L w → okT ρ c.n e a.tmps → (∀ ρ' v L' w', Post c pg ρ F s r ρ' v L' w' → K (a.put o.dst v) w') →
      (if Region.wanted o (yielded all.toArray a.tmps) then o.wpIn c.F 0 c.P a w K Q else (∀ f, o.about c.P w a.eval = some f → c.F.fn f) ∧ K (a.put o.dst undef) w) := by
  unfold stepO at h
  split at h
  rotate_left
  · cases h
  rename_i hd
  have hd' : ∀ d, o.dst = some d → d < c.n := by
    intro d hdd
    rw [hdd] at hd
    simp only at hd
    rw [nblt, decide_eq_true_eq] at hd
    exact hd
  refine ⟨hd', fun ρ F L a w Q K hp ht hK => ?_⟩
  split at h
  · rename_i hw
    rw [want_spec hw ht, if_pos rfl]
    have h1 := opC_s hcT hok hv h ρ F L a w Q hp ht
    refine Oper.wpIn_mono ?_ h1
    rintro a' w' ⟨ρ', v, L', rfl, h2⟩
    exact hK _ _ _ _ h2
  · rename_i hw
    rw [want_spec hw ht, if_neg (by simp)]
    rw [pureR_eq] at h
    cases h
    exact ⟨fun _ _ => trivial, hK ρ undef L w ⟨.refl ρ, hp.free, Nat.le_refl _, rfl, hp.rw, hp.k⟩⟩
  · cases h
theorem PostC.tran {ρ ρ1 ρ2 : Asg} {F L2 : List Blk} {n0 n1 n2 : Nat} {e2 : Tr} {ds2 : List CD} {rw2 : CH} {a2 : Act} {w2 : World} (h1 : Asg.leN n0 ρ ρ1) (hn : n0 ≤ n1) (h : PostC c pg ρ1 F n1 e2 ds2 rw2 n2 ρ2 L2 a2 w2) : PostC c pg ρ F n0 e2 ds2 rw2 n2 ρ2 L2 a2 w2 :=
  ⟨h1.trans h.lo hn, h.free, Nat.le_trans hn h.nx, h.tm, h.rw, h.k, h.ds⟩
theorem seqC_cons (rd : Bool) (n : Nat) (all : List Oper) (ro : List CH) (o : Oper) (l : List Oper) (e : Tr) (ds : List CD) (rw : CH) (nx : Nat) (md : List Nat) : seqC pg D rec rd n all ro (o :: l) e ds rw nx md = (match dfrC rd o e.get with
    | some (some g) => seqC pg D rec rd n all ro l (putO o.dst undefC e) (.call g :: ds) rw nx md
    | some none => .no [402]
    | none => match stepO pg D rec n all o e.get ⟨rw, ro, nx, md⟩ with
      | .ok ⟨v, rw, nx, md⟩ => putF o.dst v e (fun e => seqC pg D rec rd n all ro l e ds rw nx md)
      | .no er => .no er) := rfl
theorem dfrC_spec {rd : Bool} {o : Oper} {e : Look} {g : FuncId} (h : dfrC rd o e = some (some g)) : ∃ cl f caps, o.op = .defer cl ∧ cl.callee = .value f ∧ cl.args = #[] ∧ o.guard = none ∧ rd = false ∧ opdC e f = some (.fn g [] caps) := by
  unfold dfrC at h
  split at h
  · rename_i cl ho
    split at h
    · rename_i f hf ha hg
      split at h
      · rename_i g' caps hx
        cases h
        have ha' : cl.args = #[] := by apply Array.ext'; simpa using ha
        exact ⟨cl, f, caps, ho, hf, ha', hg, rfl, hx⟩
      · cases h
    · cases h
  · cases h
/-- operations one after the other -/
theorem seqC_s (hcT : c.T = pg.T) (hok : PgOk c.P pg) (hv : VCS c pg D rec) {rd : Bool} (hrd : rd = false → c.r = none) {all : List Oper} {ro : List CH} : ∀ (l : List Oper) {e : Tr} {ds : List CD} {rw : CH} {nx : Nat} {md : List Nat} {r : SR}, seqC pg D rec rd c.n all ro l e ds rw nx md = .ok r →
    ∀ ρ F L (a : Act) w Q, Pre c pg ρ ⟨rw, ro, nx, md⟩ F L w → okT ρ c.n e.get a.tmps → dsR ρ ds a.defers → (∀ ρ' L' a' w', PostC c pg ρ F nx r.e r.ds r.rw r.nx ρ' L' a' w' → Q .normal a' w') →
      wpListIn c.F 0 c.P all.toArray Q l a w
  | [], e, ds, rw, nx, md, r, h, ρ, F, L, a, w, Q, hp, ht, hds, hQ => by
    cases (show Rs.ok (⟨e, ds, rw, nx, md⟩ : SR) = .ok r from h)
    exact hQ ρ L a w ⟨.refl ρ, hp.free, Nat.le_refl _, ht, hp.rw, hp.k, hds⟩
  | o :: l, e, ds, rw, nx, md, r, h, ρ, F, L, a, w, Q, hp, ht, hds, hQ => by
    rw [seqC_cons] at h
    split at h
    · rename_i g hd
      obtain ⟨cl, f, caps, ho, hf, hargs, hg, hrf, hx⟩ := dfrC_spec hd
      have e1 := opdC_spec hp.gl ht hx
      simp only [val] at e1
      simp only [valL] at e1
      split at e1
      rotate_left
      · cases e1
      rename_i caps' hcaps
      have e1 := (Option.some.inj e1).symm
      have hround : c.F.round = none := hrd hrf
      simp only [wpListIn]
      rw [if_pos (by simp [Region.wanted, hg])]
      refine ⟨fun _ _ => trivial, ?_⟩
      rw [hround, Oper.semAt_none]
      have hrun : (execOp a.eval o).run c.P w = .ok (.defer { target := .fn (.func g) caps'.toArray, args := #[] }) w := by
        simp [execOp, ho, resolve, hf, hargs, e1, Deferred.ofValue]
      rw [hrun, Oper.uponIn_defer]
      refine seqC_s hcT hok hv hrd l h ρ F L _ w Q hp (okT.putU (a := { a with defers := { target := .fn (.func g) caps'.toArray, args := #[] } :: a.defers }) ht o.dst) ?_ hQ
      rw [put_defers]
      exact ⟨_, _, _, rfl, hds⟩
    · cases h
    · split at h
      rotate_left
      · cases h
      rename_i v rw1 nx1 md1 hst
      rw [putF_eq] at h
      obtain ⟨hd, hs⟩ := stepO_s hcT hok hv hst
      simp only [wpListIn]
      refine hs ρ F L a w Q _ hp ht ?_
      intro ρ' v' L' w' hpost
      refine seqC_s hcT hok hv hrd l h ρ' F L' _ w' Q (hp.next hpost.le hpost.free hpost.nx hpost.rw hpost.k) (okT.put (ht.mono hpost.le) hd hpost.v) ?_ ?_
      · rw [put_defers]; exact hds.mono hpost.le
      · exact fun ρ2 L2 a2 w2 h2 => hQ ρ2 L2 a2 w2 (h2.tran hpost.lo hpost.nx)
end
end Go.Y

namespace Go.Y
open Go Go.X
/-- the closures that may be deferred do nothing -/
def DOk (P : Program) (D : List Nat) : Prop := ∀ g, memK g D = true → Bodied P g ∧ ∀ args w, CallsDIn Fence.wide 0 P g args .returning w (fun e u' w' => (∃ v, e = .returned v) ∧ u' = .returning ∧ w' = w)
/-- what the run of code owes, at every context -/
def RecS (P : Program) (T : TR) (W : World) (S : Nat → Prop) (hT : TOk P T) (pg : Pg) (rec : Rec) : Prop :=
  ∀ fc x e ds s r, pg.F.get fc.fid = some fc.fi → rec fc x e ds s = .ok r → ∀ cr, CodeS ⟨P, T, fc.fi.n, W, S, cr, hT⟩ pg fc.lp x e ds s r
section
variable {P : Program} {T : TR} {W : World} {S : Nat → Prop} {hT : TOk P T} {pg : Pg} {D : List Nat} {rec : Rec}
theorem resC_cons (e : Tr) (s : Sn) (T : TR) (x : ResultVar) (l : List ResultVar) : resC e s T (x :: l) = (match resB e s T x with
    | some y => (match resC e s T l with | some r => some (y :: r) | none => none)
    | none => none) := rfl
theorem resB_spec {c : Cx} (hcT : c.T = pg.T) {ρ : Asg} {F L : List Blk} {w : World} {s : Sn} (hp : Pre c pg ρ s F L w) {e : Tr} {n : Nat} {tmps : Array Value} (ht : okT ρ n e.get tmps) {x : ResultVar} {y : CV} (h : resB e s pg.T x = some y) :
    ∃ v, (resStep tmps x).run c.P w = .ok v w ∧ val ρ y = some v := by
  cases x with
  | tmp t => exact ⟨_, rfl, ht.2 t y h⟩
  | cell p t =>
    simp only [resB] at h
    split at h
    rotate_left
    · cases h
    rename_i i off hp1
    split at h
    rotate_left
    · cases h
    rename_i t' k n' cap cs hf
    obtain ⟨q, b, o, h1, h2, h3⟩ := val_loc_inv (ht.2 p _ hp1)
    obtain ⟨B, S', h4, h5, _⟩ := find_holds hf hp.ro hp.rw hp.k
    obtain ⟨q', vs, h6, h7, rfl, _⟩ := ass_cells h4
    rw [h1] at h6
    cases h6
    obtain ⟨v, h8, h9⟩ := part_load hcT h h7 h5 (RV.a_of h2)
    refine ⟨v, ?_, h9⟩
    simp [resStep, h3, asAddr, h8]
theorem resC_spec {c : Cx} (hcT : c.T = pg.T) {ρ : Asg} {F L : List Blk} {w : World} {s : Sn} (hp : Pre c pg ρ s F L w) {e : Tr} {n : Nat} {tmps : Array Value} (ht : okT ρ n e.get tmps) : ∀ {rs : List ResultVar} {l : List CV}, resC e s pg.T rs = some l →
    ∃ vs, (rs.mapM (resStep tmps)).run c.P w = .ok vs w ∧ valL ρ l = some vs
  | [], l, h => by cases (show some [] = some l from h); exact ⟨[], rfl, rfl⟩
  | x :: rs, l, h => by
    rw [resC_cons] at h
    split at h
    rotate_left
    · cases h
    rename_i y hy
    split at h
    rotate_left
    · cases h
    rename_i l' hl'
    cases h
    obtain ⟨v, h1, h2⟩ := resB_spec hcT hp ht hy
    obtain ⟨vs, h3, h4⟩ := resC_spec hcT hp ht hl'
    exact ⟨v :: vs, by simp [List.mapM_cons, h1, h3], by simp [valL, h2, h4]⟩
theorem results_C {c : Cx} (hcT : c.T = pg.T) {ρ : Asg} {F L : List Blk} {w : World} {s : Sn} (hp : Pre c pg ρ s F L w) {e : Tr} {n : Nat} {tmps : Array Value} (ht : okT ρ n e.get tmps) {fn : Func} {l : List CV} (h : resC e s pg.T fn.results.toList = some l) :
    ∃ v, (results fn tmps).run c.P w = .ok v w ∧ val ρ (oneV l) = some v := by
  obtain ⟨vs, h1, h2⟩ := resC_spec hcT hp ht h
  have e : results fn tmps = (fn.results.mapM (resStep tmps) >>= fun vs => pure (if h : vs.size = 1 then vs[0] else .tuple vs)) := by
    unfold results
    show (Array.mapM _ _ >>= _) = _
    congr 1
  rw [e, Array.mapM_eq_mapM_toList]
  simp only [Sem.run_bind, Sem.run_map, h1, Result.andThen_ok]
  match l, vs, h2 with
  | [], vs, h2 => cases (show some [] = some vs from h2); exact ⟨_, rfl, rfl⟩
  | [x], vs, h2 =>
    obtain ⟨v, h3, rfl⟩ := valL_one h2
    exact ⟨v, by simp, h3⟩
  | x :: y :: l, vs, h2 =>
    obtain ⟨v, vs', h3, h4, rfl⟩ := valL_cons h2
    obtain ⟨u, vs'', h5, h6, rfl⟩ := valL_cons h4
    refine ⟨.tuple (v :: u :: vs'').toArray, by simp, ?_⟩
    exact val_tup h2
theorem dsC_mark (i : Nat) (l : List CD) (h : CH) : dsC D (.mark i :: l) h = (match findB i h with | some .defs => dsC D l (delB i h) | _ => none) := rfl
theorem dsC_call (g : FuncId) (l : List CD) (h : CH) : dsC D (.call g :: l) h = (match memK g D with | true => dsC D l h | false => none) := rfl
/-- a frame leaves -/
theorem leaveC (hD : DOk P D) {fn : Func} {tmps : Array Value} {R : Ending → World → Prop} {ρ : Asg} {F : List Blk} : ∀ {ds : List CD} {defers : List Deferred} {rw rw1 : CH} {L : List Blk} {w : World}, dsC D ds rw = some rw1 → dsR ρ ds defers → hb pg ρ rw = some L → Kn0 W S (L ++ F) w →
    (∀ L1 w1, hb pg ρ rw1 = some L1 → Kn0 W S (L1 ++ F) w1 → ∃ v, (results fn tmps).run P w1 = .ok v w1 ∧ R (.returned v) w1) → LeavesInM Fence.wide 0 P fn tmps R defers .returning w
  | [], defers, rw, rw1, L, w, h, hds, hL, hk, hr => by
    cases (show some rw = some rw1 from h)
    cases (show defers = [] from hds)
    exact hr L w hL hk
  | .mark i :: ds, defers, rw, rw1, L, w, h, hds, hL, hk, hr => by
    obtain ⟨m, l', h1, rfl, h2⟩ := hds
    rw [dsC_mark] at h
    split at h
    rotate_left
    · cases h
    rename_i hf
    obtain ⟨A, L1, L2, hA, rfl, _, hdel⟩ := hb_find hf hL
    simp only [CB.ass, h1, Option.some.injEq] at hA
    subst hA
    obtain ⟨T', hT', hlt, hopen⟩ := Kn0.openX hk
    have hk2 := hopen _ _ (fpost_set hT' (hlt _ hT'.1) (.deferred none))
    have hk3 : Kn0 W S ((L1 ++ L2) ++ F) { w with heap := w.heap.setIfInBounds m (.deferred none) } := by
      refine Kn0.hsub hk2 ?_
      rw [List.append_assoc, List.append_assoc, List.cons_append]
      exact HSub.app2 (HSub.refl L1) (.drop (HSub.refl (L2 ++ F)))
    exact ⟨by simp, .inl ⟨m, _, rfl, run_takeDeferred hT'.2, leaveC hD h h2 hdel hk3 hr⟩⟩
  | .call g :: ds, defers, rw, rw1, L, w, h, hds, hL, hk, hr => by
    obtain ⟨caps, args, l', rfl, h2⟩ := hds
    rw [dsC_call] at h
    split at h
    rotate_left
    · cases h
    rename_i hg
    obtain ⟨hb, hc⟩ := hD g hg
    refine ⟨by simp, .inr ⟨fun h => by simp [Fence.wide] at h, .func g, caps, g, args ++ caps, rfl, ?_, fun _ _ => trivial, ?_⟩⟩
    · simp only [invoke]
      exact run_callFunc hb _ _
    · refine CallsDIn.mono (hc (args ++ caps) w) ?_
      rintro e u' w' ⟨⟨v, rfl⟩, rfl, rfl⟩
      exact leaveC hD h h2 hL hk hr
end
end Go.Y

namespace Go.Y
open Go Go.X
section
variable {pg : Pg}
theorem hb_sub {ρ : Asg} {h' h : CH} (hs : h'.Sublist h) : ∀ {L : List Blk}, hb pg ρ h = some L → ∃ L', hb pg ρ h' = some L' ∧ HSub L' L := by
  induction hs with
  | slnil => intro L hL; exact ⟨L, hL, HSub.refl L⟩
  | @cons h1 h2 p hs ih =>
    intro L hL
    obtain ⟨A, L1, h3, h4, rfl⟩ := hb_cons (i := p.1) (b := p.2) hL
    obtain ⟨L', h5, h6⟩ := ih h4
    exact ⟨L', h5, .drop h6⟩
  | @cons_cons h1 h2 p hs ih =>
    intro L hL
    obtain ⟨A, L1, h3, h4, rfl⟩ := hb_cons (i := p.1) (b := p.2) hL
    obtain ⟨L', h5, h6⟩ := ih h4
    exact ⟨_, hb_mk h3 h5, HSub.app2 (A := [_]) (A' := [_]) (HSub.refl _) h6⟩
theorem frontH_cons (n : Nat) (p : Nat × CB) (h : CH) : frontH n (p :: h) = (match Nat.ble n p.1 with
    | true => match frontH n h with | (a, r) => (p :: a, r)
    | false => ([], p :: h)) := rfl
theorem frontH_app (n : Nat) : ∀ (h : CH), (frontH n h).1 ++ (frontH n h).2 = h
  | [] => rfl
  | p :: h => by
    rw [frontH_cons]
    split
    · show p :: ((frontH n h).1 ++ (frontH n h).2) = _
      rw [frontH_app n h]
    · rfl
theorem keepH_cons (seen : List Nat) (p : Nat × CB) (a r : CH) : keepH seen (p :: a) r = (match memK p.1 seen with | true => p :: keepH seen a r | false => keepH seen a r) := rfl
theorem keepH_sub (seen : List Nat) (r : CH) : ∀ (a : CH), (keepH seen a r).Sublist (a ++ r)
  | [] => List.Sublist.refl _
  | p :: a => by
    rw [keepH_cons]
    split
    · exact (keepH_sub seen r a).cons_cons p
    · exact (keepH_sub seen r a).cons p
theorem gcH_sub (n : Nat) (x : CV) (md : List Nat) (rw : CH) : (gcH n x md rw).Sublist rw := by
  have h := frontH_app n rw
  have e : gcH n x md rw = (match newOnes n (idxs 6 x (foldM (frontH n rw).2 md)) with
    | [] => (frontH n rw).2
    | l => keepH (reachH 100000 (frontH n rw).1 l []) (frontH n rw).1 (frontH n rw).2) := rfl
  rw [e]
  split
  · conv => rhs; rw [← h]
    exact List.sublist_append_right _ _
  · conv => rhs; rw [← h]
    exact keepH_sub _ _ _
theorem argsT_get : ∀ (l : List CV) (n : Nat) (e : Tr) (t : Nat) (y : CV), (argsT n l e).get t = some y → (n ≤ t ∧ l[t - n]? = some y) ∨ e.get t = some y
  | [], n, e, t, y, h => .inr h
  | x :: l, n, e, t, y, h => by
    have h : (argsT (n + 1) l (Tr.put 12 e n x)).get t = some y := h
    rcases argsT_get l (n + 1) _ t y h with ⟨h1, h2⟩ | h1
    · refine .inl ⟨by omega, ?_⟩
      rw [show t - n = (t - (n + 1)) + 1 by omega]
      simpa using h2
    · rcases Tr.get_put 12 e n x t y h1 with ⟨rfl, rfl⟩ | ⟨_, h2⟩
      · exact .inl ⟨Nat.le_refl _, by simp⟩
      · exact .inr h2
/-- the temporaries that a function begins with -/
theorem argsT_ok {ρ : Asg} {n : Nat} {args : List CV} {vals : List Value} (hv : valL ρ args = some vals) (hl : args.length ≤ n) : okT ρ n (argsT 0 args .nil).get (vals.toArray ++ Array.replicate (n - vals.toArray.size) undef) := by
  have hlen := valL_length hv
  refine ⟨by simp; omega, fun t y hy => ?_⟩
  rcases argsT_get args 0 .nil t y hy with ⟨_, h2⟩ | h2
  · obtain ⟨v, h3, h4⟩ := valL_get hv h2
    rw [h4]
    simp only [Nat.sub_zero] at h3
    have hlt : t < vals.length := (List.getElem?_eq_some_iff.1 h3).1
    rw [Array.getD_eq_getD_getElem?, Array.getElem?_append_left (by simpa using hlt)]
    simp [h3]
  · cases h2
end
section
variable {P : Program} {T : TR} {W : World} {S : Nat → Prop} {hT : TOk P T} {pg : Pg} {D : List Nat} {rec : Rec}
theorem knB_val {x y : CV} (h : knB x y = true) (ρ : Asg) : val ρ x = val ρ y := by
  unfold knB at h
  split at h
  · rename_i k a k' b
    split at h
    · rename_i hk
      rw [ikEq_eq hk, of_decide_eq_true h]
    · cases h
  · rename_i a b
    rw [eqBytes_eq] at h
    have h1 : a.data.toList = b.data.toList := by simpa using h
    have h2 : a = b := by
      cases a; cases b
      exact congrArg ByteArray.mk (Array.toList_inj.1 h1)
    rw [h2]
  · rename_i a b
    rw [boolEq_eq] at h
    rw [show a = b by simpa using h]
  · cases h
theorem knL_val : ∀ {a b : List CV} (_ : knL a b = true) (ρ : Asg), valL ρ a = valL ρ b
  | [], [], _, _ => rfl
  | [], _ :: _, h, _ => by cases (show false = true from h)
  | _ :: _, [], h, _ => by cases (show false = true from h)
  | x :: a, y :: b, h, ρ => by
    have h : (match knB x y with | true => knL a b | false => false) = true := h
    split at h
    · rename_i hk
      simp only [valL, knB_val hk ρ, knL_val h ρ]
    · cases h
theorem memoF_cons (f : Nat) (args : List CV) (g : Nat) (a : List CV) (y : CV) (l : List (Nat × List CV × CV)) : memoF f args ((g, a, y) :: l) = (match Nat.beq g f with
    | true => (match knL a args with | true => some y | false => memoF f args l)
    | false => memoF f args l) := rfl
theorem memoF_spec {P : Program} {f : Nat} {args : List CV} {y : CV} : ∀ {l : List (Nat × List CV × CV)} (_ : MOk P l), memoF f args l = some y → ∀ {ρ : Asg} {vals : List Value}, valL ρ args = some vals → ∃ v, val ρ y = some v ∧ ∀ w, Pu P f vals.toArray w v
  | _, .nil, h, _, _, _ => by cases (show (none : Option CV) = some y from h)
  | _, .cons (g := g) (a := a) (vals := vals0) h1 h2 h3 hl, h, ρ, vals, hv => by
    rw [memoF_cons] at h
    have hle : ∀ ρ : Asg, Asg.le (fun _ => none) ρ := fun ρ j r hj => by cases hj
    split at h
    · rename_i hg
      split at h
      · rename_i hk
        cases h
        have hgf := Nat.eq_of_beq_eq_true hg
        subst hgf
        have e1 := valL_mono (hle ρ) h1
        rw [knL_val hk ρ, hv] at e1
        cases e1
        exact ⟨_, val_mono (hle ρ) h2, h3⟩
      · exact memoF_spec hl h hv
    · exact memoF_spec hl h hv
theorem isExit_of {ex : Ex} (h : isExit ex = false) : ex = .nrm ∨ ex = .ret := by
  cases ex with
  | nrm => exact .inl rfl
  | ret => exact .inr rfl
  | exit id => cases h
/-- a call -/
theorem callC_s (hcT : T = pg.T) (hok : PgOk P pg) (hD : DOk P D) (hrec : RecS P T W S hT pg rec) {f : Nat} {args : List CV} {s : Sn} {r : O2} (h : callC pg D rec f args s = .ok r) {n : Nat} {cr : Option Nat}
    {ρ : Asg} {F L : List Blk} {w : World} {vals : List Value} (hp : Pre ⟨P, T, n, W, S, cr, hT⟩ pg ρ s F L w) (hv : valL ρ args = some vals) :
    CT P f vals.toArray w (fun e w' => ∃ v, e = .returned v ∧ ∃ ρ' L', Post ⟨P, T, n, W, S, cr, hT⟩ pg ρ F s r ρ' v L' w') := by
  obtain ⟨srw, sro, snx, smd⟩ := s
  unfold callC at h
  split at h
  · rename_i y hy
    rw [pureR_eq] at h
    cases h
    obtain ⟨v, h1, h2⟩ := memoF_spec hok.memo hy hv
    have h3 := h2 w
    unfold Pu X.CT at h3
    unfold X.CT
    refine ⟨h3.1, h3.2.mono ?_⟩
    rintro e w' ⟨rfl, hb⟩
    exact ⟨v, rfl, ρ, L, .refl ρ, hp.free, Nat.le_refl _, h1, hp.rw, Kn.below (ms := []) hp.k hb⟩
  split at h
  · cases h
  rename_i fi hfi
  obtain ⟨fn, hf, hb, hn, hrs, hnm⟩ := hok.funcs f fi hfi
  split at h
  · cases h
  rename_i hlen
  have hlen := Nat.le_of_ble_eq_true hlen
  rw [lenN_eq] at hlen
  split at h
  · cases h
  rename_i ex e' ds rw nx md hbody
  split at h
  · cases h
  · cases h
  rename_i rw1 hex hds
  split at h
  · cases h
  rename_i l hl
  simp only [frcV_eq, frcH_eq] at h
  have hcode := hrec ⟨f, fi, none⟩ _ _ _ _ _ hfi hbody none
  unfold X.CT
  refine ⟨⟨fn, hf, by rw [hb]; rfl, hnm⟩, (callsIn_wide (n := 0)).1 (callsIn_of_wp_marks (F := Fence.wide) hf hb trivial ?_)⟩
  have hp' : Pre ⟨P, T, fi.n, W, S, none, hT⟩ pg ρ ⟨srw, sro, snx, []⟩ F L w := ⟨hp.gl, hp.free, hp.nx, hp.ro, hp.rw, hp.k⟩
  have hw := hcode ρ F L { tmps := vals.toArray ++ Array.replicate (fi.n - vals.toArray.size) undef, defers := [] } w hp' (argsT_ok hv hlen) rfl rfl
  rw [hn]
  refine wpIn_mono hw ?_
  rintro e a' w' ⟨he, ρ', L', hpost⟩
  have fin : LeavesInM Fence.wide 0 P fn a'.tmps (fun e w' => ∃ v, e = .returned v ∧ ∃ ρ' L', Post ⟨P, T, n, W, S, cr, hT⟩ pg ρ F ⟨srw, sro, snx, smd⟩ r ρ' v L' w') a'.defers .returning w' := by
    refine leaveC hD hds hpost.ds hpost.rw hpost.k fun L1 w1 hL1 hk1 => ?_
    have hpre1 : Pre ⟨P, T, fi.n, W, S, none, hT⟩ pg ρ' ⟨rw1, sro, nx, []⟩ F L1 w1 := ⟨hp.gl.mono hpost.le, hpost.free, Nat.le_trans hp.nx hpost.nx, hp.ro.mono hpost.le, hL1, hk1⟩
    obtain ⟨v, h1, h2⟩ := results_C (c := ⟨P, T, fi.n, W, S, none, hT⟩) hcT hpre1 hpost.tm (fn := fn) (by rw [hrs]; exact hl)
    refine ⟨v, h1, v, rfl, ?_⟩
    have fin2 : ∀ (rw2 : CH) (md' : List Nat), rw2.Sublist rw1 → (.ok ⟨oneV l, rw2, nx, md'⟩ : Rs O2) = .ok r → ∃ ρ' L', Post ⟨P, T, n, W, S, cr, hT⟩ pg ρ F ⟨srw, sro, snx, smd⟩ r ρ' v L' w1 := by
      intro rw2 md' hsub hr
      cases hr
      obtain ⟨L2, h3, h4⟩ := hb_sub hsub hL1
      exact ⟨ρ', L2, hpost.lo, hpost.free, hpost.nx, h2, h3, hk1.hsub (h4.app2 (HSub.refl F))⟩
    split at h
    · exact fin2 _ _ (gcH_sub _ _ _ _) h
    · exact fin2 _ _ (gcH_sub _ _ _ _) h
  rcases isExit_of hex with rfl | rfl <;> cases e <;> first | (cases he; done) | exact fin
end
end Go.Y
