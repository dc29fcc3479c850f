/- Lemmas for the claim (part 4); no condition of its own. -/
import Derived.Test.YtcafebjoanjgoaaGreatDoorVLC03
import Derived.RangeFuncNested
import Derived.Lib.LaidU8
import Derived.OpenShut
import Derived.LaidHandle
set_option linter.all false
set_option linter.unusedVariables false
set_option linter.unusedSimpArgs false
set_option linter.unnecessarySimpa false
namespace Go.Y
open Go Go.X
section
variable {pg : Pg}
theorem ass_loop {ρ : Asg} {i : Nat} {st : LoopState} {pe : Option Code} {fid : FuncId} {e : Tr} {ps : List Nat} {asg body : Code} {d : Nat} {A : Ass} (h : (CB.loop st pe fid e ps asg body d).ass pg ρ i = some A) :
    ∃ m dm fi, idO ρ i = some m ∧ idO ρ d = some dm ∧ pg.F.get fid = some fi ∧ A = loopA ρ fi.n m st pe e ps asg body dm := by
  simp only [CB.ass] at h
  split at h
  · rename_i l d' fi h1 h2 h3
    cases h
    exact ⟨l, d', fi, h1, h2, h3, rfl⟩
  · cases h
theorem ass_loop_mk {ρ : Asg} {i : Nat} {st : LoopState} {pe : Option Code} {fid : FuncId} {e : Tr} {ps : List Nat} {asg body : Code} {d m dm : Nat} {fi : FI} (h1 : idO ρ i = some m) (h2 : idO ρ d = some dm) (h3 : pg.F.get fid = some fi) :
    (CB.loop st pe fid e ps asg body d).ass pg ρ i = some (loopA ρ fi.n m st pe e ps asg body dm) := by
  simp only [CB.ass, h1, h2, h3]
theorem FPost.imp {T : Nat → Prop} {w w' : World} {A B : Ass} (h : FPost T w A w') (hi : ∀ S, A.holds w' S → B.holds w' S) : FPost T w B w' := by
  obtain ⟨h1, T', h2, h3⟩ := h
  exact ⟨h1, T', hi _ h2, h3⟩
/-- a loop's record is changed -/
theorem loop_set {W : World} {S : Nat → Prop} {ρ : Asg} {F L : List Blk} {w : World} {rw rw' : CH} {l : Nat} {st st' : LoopState} {pe pe' : Option Code} {fid : FuncId} {e : Tr} {ps : List Nat} {asg body : Code} {d : Nat}
    (hL : hb pg ρ rw = some L) (hk : Kn0 W S (L ++ F) w) (hf : findB l rw = some (.loop st pe fid e ps asg body d)) (hs : setB l (.loop st' pe' fid e ps asg body d) rw = some rw') :
    ∃ m rc fi, idO ρ l = some m ∧ pg.F.get fid = some fi ∧ w.heap[m]? = some (.loop rc) ∧ rc.state = st ∧ rc.pending = pe ∧ rc.params = ps.toArray ∧ rc.assign = asg ∧ rc.body = body ∧ okT ρ fi.n e.get rc.tmps ∧
      ∃ L', hb pg ρ rw' = some L' ∧ Kn0 W S (L' ++ F) { w with heap := w.heap.setIfInBounds m (.loop { rc with state := st', pending := pe' }) } := by
  obtain ⟨A, L1, L2, hA, rfl, hset, _⟩ := hb_find hf hL
  obtain ⟨m, dm, fi, h1, h2, h3, rfl⟩ := ass_loop hA
  obtain ⟨T', hT', hlt, hopen⟩ := Kn0.openX hk
  obtain ⟨hm, fn, tmps, h4, h5⟩ := hT'
  obtain ⟨h'', h6, h7⟩ := hset _ _ (ass_loop_mk (st := st') (pe := pe') (e := e) (ps := ps) (asg := asg) (body := body) h1 h2 h3)
  rw [hs] at h6
  cases h6
  refine ⟨m, _, fi, h1, h3, h4, rfl, rfl, rfl, rfl, rfl, h5, _, h7, hopen _ _ ?_⟩
  have := fpost_set (T := T') (w := w) (r := m) (o := .loop { state := st, pending := pe, fn, tmps, params := ps.toArray, assign := asg, body, defers := dm }) ⟨hm, h4⟩ (hlt _ hm) (.loop { state := st', pending := pe', fn, tmps, params := ps.toArray, assign := asg, body, defers := dm })
  exact Go.Y.FPost.imp this fun S h => ⟨h.1, fn, tmps, h.2, h5⟩
theorem putsT_cons (n p : Nat) (ps : List Nat) (x : CV) (l : List CV) (e : Tr) : putsT n (p :: ps) (x :: l) e = (match Nat.blt p n with | true => putsT n ps l (Tr.put 12 e p x) | false => none) := rfl
theorem putsT_ok {ρ : Asg} {n : Nat} : ∀ {ps : List Nat} {args : List CV} {e e1 : Tr} {vals : List Value} {tmps : Array Value}, putsT n ps args e = some e1 → valL ρ args = some vals → okT ρ n e.get tmps →
    ps.length = vals.length ∧ okT ρ n e1.get ((ps.zip vals).foldl (fun t p => t.setIfInBounds p.1 p.2) tmps)
  | [], [], e, e1, vals, tmps, h, hv, ht => by
    cases (show some e = some e1 from h)
    cases (show some [] = some vals from hv)
    exact ⟨rfl, ht⟩
  | [], x :: l, e, e1, vals, tmps, h, hv, ht => by cases (show (none : Option Tr) = some e1 from h)
  | p :: ps, [], e, e1, vals, tmps, h, hv, ht => by cases (show (none : Option Tr) = some e1 from h)
  | p :: ps, x :: l, e, e1, vals, tmps, h, hv, ht => by
    obtain ⟨v, vs, h1, h2, rfl⟩ := valL_cons hv
    rw [putsT_cons] at h
    split at h
    · rename_i hlt
      rw [nblt, decide_eq_true_eq] at hlt
      have ht' := okT.put (a := ⟨tmps, []⟩) ht (d := some p) (fun t e => by cases e; exact hlt) h1
      obtain ⟨h3, h4⟩ := putsT_ok h h2 ht'
      exact ⟨by simp [h3], h4⟩
    · cases h
end
section
variable {P : Program} {T : TR} {W : World} {S : Nat → Prop} {hT : TOk P T} {pg : Pg} {D : List Nat} {rec : Rec}
theorem nrm_of {e : Exit} (h : Ex.of e = some .nrm) : e = .normal := by cases e <;> first | rfl | cases h
theorem isNrm_of {ex : Ex} (h : isNrm ex = true) : ex = .nrm := by cases ex <;> first | rfl | cases h
/-- a round -/
theorem roundC_s (hcT : T = pg.T) (hok : PgOk P pg) (hrec : RecS P T W S hT pg rec) {l : Nat} {args : List CV} {s : Sn} {r : O2} (h : roundC pg rec l args s = .ok r) {n : Nat} {cr : Option Nat}
    {ρ : Asg} {F L : List Blk} {w : World} {gv : Value} {vals : List Value} (hp : Pre ⟨P, T, n, W, S, cr, hT⟩ pg ρ s F L w) (hg : val ρ (.yl l) = some gv) (hv : valL ρ args = some vals) :
    VC P gv vals.toArray w (fun v w' => ∃ ρ' L', Post ⟨P, T, n, W, S, cr, hT⟩ pg ρ F s r ρ' v L' w') := by
  unfold roundC at h
  split at h
  rotate_left
  · cases h
  rename_i fid e ps asg body d hf
  split at h
  rotate_left
  · cases h
  rename_i fi hfi
  split at h
  rotate_left
  · cases h
  rename_i e1 he1
  split at h
  · cases h
  rename_i ex1 e2 ds1 rw1 nx1 md1 hasg
  split at h
  rotate_left
  · cases h
  rename_i rw1' hn1 hbeg
  have hn1 := isNrm_of hn1
  subst hn1
  split at h
  · cases h
  rename_i ex2 e3 ds2 rw2 nx2 md2 hbody
  split at h
  rotate_left
  · cases h
  rename_i b rw3 hend
  cases h
  -- the record
  obtain ⟨A, L1, L2, hA, hL, hset, _⟩ := hb_find hf hp.rw
  obtain ⟨m, dm, fi', h1, h2, h3, rfl⟩ := ass_loop hA
  rw [hfi] at h3
  cases h3
  have hk := hp.k
  rw [hL] at hk
  obtain ⟨T', hT', hlt, _⟩ := Kn0.openX hk
  obtain ⟨hm, fn, tmps, h4, h5⟩ := hT'
  have hgv : gv = .func (.yield m) #[] #[] := by
    simp only [val] at hg
    unfold idO at h1
    split at hg
    · rename_i q hq
      rw [hq] at h1
      split at hg
      · rename_i m' hm'
        simp only at h1
        rw [hm'] at h1
        cases h1
        exact (Option.some.inj hg).symm
      · cases hg
    · cases hg
  subst hgv
  obtain ⟨hlen, hput⟩ := putsT_ok he1 hv h5
  refine ⟨w, .round m fn ((ps.toArray.zip vals.toArray).foldl (fun t p => t.setIfInBounds p.1 p.2) tmps) asg body, ?_, ?_⟩
  · simp only [Deferred.ofValue, Sem.run_bind, Sem.run_pure, Result.andThen_ok, invoke, Instr.yield, getLoop_run h4]
    rw [if_neg (by simp [hlen])]
    simp
  · have htm : (ps.toArray.zip vals.toArray).foldl (fun t p => t.setIfInBounds p.1 p.2) tmps = (ps.zip vals).foldl (fun t p => t.setIfInBounds p.1 p.2) tmps := by
      rw [← Array.foldl_toList]; simp
    simp only [htm]
    refine roundIn_of_wpIn trivial ?_
    have hw := hrec ⟨fid, fi, some l⟩ _ _ _ _ _ hfi hasg (some m) ρ F L { tmps := (ps.zip vals).foldl (fun t p => t.setIfInBounds p.1 p.2) tmps, defers := [] } w ⟨hp.gl, hp.free, hp.nx, hp.ro, hp.rw, hp.k⟩ hput ⟨m, h1, rfl⟩ rfl
    refine wpIn_mono hw ?_
    rintro e a1 w1 ⟨he, ρ1, L1, hpost1⟩
    have he := nrm_of he
    subst he
    unfold beginC at hbeg
    split at hbeg
    rotate_left
    · cases hbeg
    rename_i fid' e' ps' asg' body' d' hf1
    obtain ⟨m1, rc, fi1, q1, q2, q3, q4, q5, q6, q7, q8, q9, L1', q10, q11⟩ := loop_set hpost1.rw hpost1.k hf1 hbeg
    have hmm := idO_mono hpost1.le h1
    rw [hmm] at q1
    cases q1
    refine ⟨{ w1 with heap := w1.heap.setIfInBounds m (.loop { rc with state := .busy, pending := none }) }, ?_, ?_⟩
    · simp only [Instr.beginRound, Sem.run_bind, getLoop_run q3, Result.andThen_ok, setObj_run q3 (by intro c t f; simp), q4]
      rw [← q5]
      rfl
    · have hw2 := hrec ⟨fid, fi, some l⟩ _ _ _ _ _ hfi hbody (some m) ρ1 F L1' a1 _ ⟨hp.gl.mono hpost1.le, hpost1.free, Nat.le_trans hp.nx hpost1.nx, hp.ro.mono hpost1.le, q10, q11⟩ hpost1.tm ⟨m, hmm, rfl⟩ hpost1.ds
      refine wpIn_mono hw2 ?_
      rintro e a2 w2 ⟨he2, ρ2, L2, hpost2⟩
      have hmm2 := idO_mono hpost2.le hmm
      have fin : ∀ (st : LoopState) (jump : Option Code) (b : Bool), endC l st jump rw2 = some rw3 → (st = if jump.isNone then .ready else .done) → b = jump.isNone →
          ∃ v w', (Instr.endRound m jump).run P w2 = .ok v w' ∧ ∃ v', Ending.returned v = .returned v' ∧ ∃ ρ' L', Post ⟨P, T, n, W, S, cr, hT⟩ pg ρ F s ⟨.v (.bool b), rw3, nx2, undM [l] md2⟩ ρ' v' L' w' := by
        intro st jump b hec hst hb
        unfold endC at hec
        split at hec
        rotate_left
        · cases hec
        rename_i st0 pe0 fid3 e3' ps3 asg3 body3 d3 hf3
        obtain ⟨m3, rc3, fi3, r1, r2, r3, r4, r5, r6, r7, r8, r9, L3, r10, r11⟩ := loop_set hpost2.rw hpost2.k hf3 hec
        rw [hmm2] at r1
        cases r1
        refine ⟨.bool jump.isNone, { w2 with heap := w2.heap.setIfInBounds m (.loop { rc3 with state := st, pending := jump }) }, ?_, _, rfl, ρ2, L3, ?_⟩
        · simp only [Instr.endRound, Sem.run_bind, getLoop_run r3, Result.andThen_ok]
          rw [setObj_run r3 (by intro c t f; simp), hst]
          rfl
        · subst hb
          exact ⟨hpost1.lo.trans hpost2.lo hpost1.nx, hpost2.free, Nat.le_trans hpost1.nx hpost2.nx, rfl, r10, r11⟩
      unfold endR at hend
      cases ex2 with
      | nrm =>
        have := nrm_of he2
        subst this
        simp only at hend
        split at hend
        · rename_i h0 hh
          cases hend
          exact fin .ready none true hh rfl rfl
        · cases hend
      | ret =>
        have : e = .ret := by cases e <;> first | rfl | cases he2
        subst this
        simp only at hend
        split at hend
        · rename_i h0 hh
          cases hend
          exact fin .done (some .ret) false hh rfl rfl
        · cases hend
      | exit id =>
        have : e = .exit id := by cases e <;> first | (cases he2; rfl) | cases he2
        subst this
        simp only at hend
        split at hend
        · rename_i h0 hh
          cases hend
          exact fin .done (some (.exit id)) false hh rfl rfl
        · cases hend
end
end Go.Y

namespace Go.Y
open Go Go.X
section
variable {P : Program} {T : TR} {W : World} {S : Nat → Prop} {hT : TOk P T} {pg : Pg} {D : List Nat} {rec : Rec}
theorem val_fn_inv {ρ : Asg} {g : FuncId} {a b : List CV} {v : Value} (h : val ρ (.fn g a b) = some v) : ∃ a' b', valL ρ a = some a' ∧ valL ρ b = some b' ∧ v = .func (.func g) a'.toArray b'.toArray := by
  simp only [val] at h
  split at h
  · rename_i a' ha
    split at h
    · rename_i b' hb
      cases h
      exact ⟨a', b', ha, hb, rfl⟩
    · cases h
  · cases h
theorem vcs (hcT : T = pg.T) (hok : PgOk P pg) (hD : DOk P D) (hrec : RecS P T W S hT pg rec) (n : Nat) (cr : Option Nat) : VCS ⟨P, T, n, W, S, cr, hT⟩ pg D rec := by
  intro g args s r h ρ F L w gv vals hp hg hv
  unfold callV at h
  rw [← val_opn] at hg
  split at h
  · rename_i f first caps he
    rw [he] at hg
    obtain ⟨a', b', h1, h2, rfl⟩ := val_fn_inv hg
    rw [appN_eq, appN_eq] at h
    have hv' := valL_append h1 (valL_append hv h2)
    have hct := callC_s hcT hok hD hrec h hp hv'
    unfold X.CT at hct
    obtain ⟨hb, hc⟩ := hct
    refine ⟨w, .enter f (a' ++ (vals ++ b')).toArray, ?_, hc.mono ?_⟩
    · simp only [Deferred.ofValue, Sem.run_bind, Sem.run_pure, Result.andThen_ok, invoke]
      have e : a'.toArray ++ vals.toArray ++ b'.toArray = (a' ++ (vals ++ b')).toArray := by simp
      rw [e]
      exact run_callFunc hb _ _
    · rintro e w' ⟨v, rfl, ρ', L', h5⟩
      exact ⟨v, rfl, ρ', L', h5⟩
  · rename_i l he
    rw [he] at hg
    exact roundC_s hcT hok hrec h hp hg hv
  · cases h
/-- drawn regions -/
def DrawS (c : Cx) (pg : Pg) (D : List Nat) (rec : Rec) : Prop :=
  ∀ rd fl bl all e ds s r, drawC pg D rec rd c.n fl bl all e ds s = .ok r → (rd = false → c.r = none) →
    ∀ ρ F L (a : Act) w Q id, Pre c pg ρ s F L w → okT ρ c.n e.get a.tmps → dsR ρ ds a.defers → (∀ ρ' L' a' w', PostC c pg ρ F s.nx r.e r.ds r.rw r.nx ρ' L' a' w' → Q .normal a' w') →
      (Code.region id all.toArray true).wpIn c.F 0 c.P Q a w
def exE : Ex → Exit
  | .nrm => .normal
  | .ret => .ret
  | .exit id => .exit id
theorem of_ex {e : Exit} {ex : Ex} (h : Ex.of e = some ex) : e = exE ex := by
  cases e <;> cases ex <;> first | rfl | (cases h; done) | (cases h; rfl)
theorem natC_beq {a b : Nat} : Nat.beq a b = (a == b) := by
  rw [nbeq]
  rfl
end
end Go.Y

namespace Go.Y
open Go Go.X
section
variable {P : Program} {T : TR} {W : World} {S : Nat → Prop} {hT : TOk P T} {pg : Pg} {D : List Nat} {rec : Rec}
theorem PostC.conv {c : Cx} {pg : Pg} {ρ : Asg} {F : List Blk} {n0 : Nat} {e : Tr} {ds : List CD} {rw : CH} {nx : Nat} {ρ' : Asg} {L' : List Blk} {a' : Act} {w' : World} (h : PostC c pg ρ F n0 e ds rw nx ρ' L' a' w') : PostC c pg ρ F n0 e ds rw nx ρ' L' a' w' := h
theorem loopC_succ (fc : FC) (b : Code) (f : Nat) (e : Tr) (ds : List CD) (s : Sn) : loopC rec fc b (f + 1) e ds s = (match rec fc b e ds s with
    | .no er => .no er
    | .ok ⟨ex, e, ds, rw, nx, md⟩ => match ex with
      | .nrm => loopC rec fc b f e ds ⟨rw, s.ro, nx, md⟩
      | ex => .ok ⟨ex, e, ds, rw, nx, md⟩) := rfl
theorem Ex.nrm_or {ex : Ex} {e : Exit} (h : Ex.of e = some ex) : (ex = .nrm ∧ e = .normal) ∨ (ex ≠ .nrm ∧ ∀ (N : Act → World → Prop) (Q : Exit → Act → World → Prop) a w, Exit.then N Q e a w = Q e a w) := by
  cases e <;> cases ex <;> first | (cases h; done) | exact .inl ⟨rfl, rfl⟩ | exact .inr ⟨(by intro h; cases h), fun _ _ _ _ => rfl⟩
theorem loopC_s (hrec : RecS P T W S hT pg rec) {fc : FC} (hfc : pg.F.get fc.fid = some fc.fi) {b : Code} {cr : Option Nat} : ∀ (f : Nat) {e : Tr} {ds : List CD} {s : Sn} {r : CR}, loopC rec fc b f e ds s = .ok r →
    ∀ ρ F L (a : Act) w (Q : Exit → Act → World → Prop), Pre ⟨P, T, fc.fi.n, W, S, cr, hT⟩ pg ρ s F L w → okT ρ fc.fi.n e.get a.tmps → rdR ρ fc.lp cr → dsR ρ ds a.defers →
      (∀ ex a' w', Ex.of ex = some r.ex → (∃ ρ' L', PostC ⟨P, T, fc.fi.n, W, S, cr, hT⟩ pg ρ F s.nx r.e r.ds r.rw r.nx ρ' L' a' w') → Q ex a' w') →
      Code.roundsIn (Cx.F ⟨P, T, fc.fi.n, W, S, cr, hT⟩) 0 P b Q f a w
  | 0, e, ds, s, r, h, _, _, _, _, _, _, _, _, _, _, _ => by cases (show (Rs.no [2] : Rs CR) = .ok r from h)
  | f + 1, e, ds, s, r, h, ρ, F, L, a, w, Q, hp, ht, hrd, hds, hQ => by
    rw [loopC_succ] at h
    split at h
    · cases h
    rename_i ex e1 ds1 rw1 nx1 md1 hb
    rw [roundsIn_succ]
    have hw := hrec fc _ _ _ _ _ hfc hb cr ρ F L a w hp ht hrd hds
    refine wpIn_mono hw ?_
    rintro e' a' w' ⟨he, ρ1, L1, hpost⟩
    rcases Ex.nrm_or he with ⟨hex, rfl⟩ | ⟨hex, hthen⟩
    · simp only at hex
      subst hex
      simp only at h
      exact loopC_s hrec hfc f h ρ1 F L1 a' w' Q (hp.next hpost.le hpost.free hpost.nx hpost.rw hpost.k) hpost.tm (hrd.mono hpost.le) hpost.ds
        fun ex a2 w2 h1 ⟨ρ2, L2, h2⟩ => hQ ex a2 w2 h1 ⟨ρ2, L2, h2.tran hpost.lo hpost.nx⟩
    · rw [hthen]
      simp only at hex
      cases ex with
      | nrm => exact absurd rfl hex
      | ret => cases h; exact hQ _ _ _ he ⟨ρ1, L1, hpost⟩
      | exit id => cases h; exact hQ _ _ _ he ⟨ρ1, L1, hpost⟩
end
end Go.Y

namespace Go.Y
open Go Go.X
section
variable {P : Program} {T : TR} {W : World} {S : Nat → Prop} {hT : TOk P T} {pg : Pg} {D : List Nat} {rec : Rec}
theorem idO_ins (ρ : Asg) (n m c : Nat) : idO (ρ.ins n ⟨some (m, 0), c⟩) n = some m := by simp [idO, Asg.ins_get, RV.id]
theorem loop_imp {i : Nat} {ρ : Asg} {n m : Nat} {rc : Loop} {e : Tr} (ht : okT ρ n e.get rc.tmps) {H : List Blk} : HSub (.ext i (loopA ρ n m rc.state rc.pending e rc.params.toList rc.assign rc.body rc.defers) :: H) (.ext i (ObjA m (.loop rc)) :: H) :=
  HSub.ext (fun w S h => ⟨h.1, rc.fn, rc.tmps, by simpa using h.2, ht⟩) (HSub.refl H)
/-- what the loop's statement has laid -/
theorem rangeC_s {fc : FC} (hfc : pg.F.get fc.fid = some fc.fi) {cr : Option Nat} {e : Tr} {ps : List Nat} {asg bd : Code} {ds ds1 : List CD} {s : Sn} {rw1 : CH} {nx1 : Nat} (h : rangeC fc e ps asg bd ds s = some (rw1, ds1, nx1))
    {ρ : Asg} {F L : List Blk} {a : Act} {w : World} (hp : Pre ⟨P, T, fc.fi.n, W, S, cr, hT⟩ pg ρ s F L w) (ht : okT ρ fc.fi.n e.get a.tmps) (hrd : rdR ρ fc.lp cr) (hds : dsR ρ ds a.defers) (fn : FuncId) :
    ∃ l mark w1 ρ1 L1, (Instr.enterLoop fn a.tmps ps.toArray asg bd cr).run P w = .ok (l, mark) w1 ∧ Asg.leN s.nx ρ ρ1 ∧ idO ρ1 s.nx = some l ∧ s.nx ≤ nx1 ∧ dsR ρ1 ds1 (mark ++ a.defers) ∧ Pre ⟨P, T, fc.fi.n, W, S, cr, hT⟩ pg ρ1 ⟨rw1, s.ro, nx1, s.md⟩ F L1 w1 := by
  unfold rangeC at h
  split at h
  · rename_i hlp
    cases h
    rw [hlp] at hrd
    have hrd : cr = none := hrd
    subst hrd
    have hle1 := Asg.ins_le (r := ⟨some (w.heap.size + 1, 0), 0⟩) hp.free
    have hfree1 := Asg.ins_free (r := ⟨some (w.heap.size + 1, 0), 0⟩) hp.free
    have hle2 := Asg.ins_le (r := ⟨some (w.heap.size, 0), 0⟩) hfree1
    have hfree2 := Asg.ins_free (r := ⟨some (w.heap.size, 0), 0⟩) hfree1
    have hle := hle1.trans hle2
    obtain ⟨L', h1, h2⟩ := hb_mono hle hp.rw
    let ρ2 := (ρ.ins s.nx ⟨some (w.heap.size + 1, 0), 0⟩).ins (s.nx + 1) ⟨some (w.heap.size, 0), 0⟩
    let rc : Loop := { state := .ready, pending := none, fn, tmps := a.tmps, params := ps.toArray, assign := asg, body := bd, defers := w.heap.size }
    have hi1 : idO ρ2 s.nx = some (w.heap.size + 1) := idO_mono hle2 (idO_ins _ _ _ _)
    have hi2 : idO ρ2 (s.nx + 1) = some w.heap.size := idO_ins _ _ _ _
    have ht2 : okT ρ2 fc.fi.n e.get rc.tmps := ht.mono hle
    have k1 := Kn0.allocO' hp.k (s.nx + 1) (.deferred (some []))
    have k2 := Kn0.allocO' k1 s.nx (.loop rc)
    rw [show (w.alloc (.deferred (some []))).heap.size = w.heap.size + 1 by simp] at k2
    have k3 := Kn0.hsub k2 (loop_imp (m := w.heap.size + 1) ht2)
    refine ⟨_, _, _, ρ2, .ext (s.nx + 1) (ObjA w.heap.size (.deferred (some []))) :: .ext s.nx (loopA ρ2 fc.fi.n (w.heap.size + 1) .ready none e ps asg bd w.heap.size) :: L', run_enterLoop_outer fn a.tmps ps.toArray asg bd, (Asg.ins_leN hp.free).trans (Asg.ins_leN hfree1) (Nat.le_succ _), hi1, by omega, ⟨w.heap.size, a.defers, hi2, rfl, hds.mono hle⟩, hp.gl.mono hle, hfree2, by have := hp.nx; show 1000 ≤ s.nx + 2; omega, hp.ro.mono hle, ?_, ?_⟩
    · refine hb_mk (by simp only [CB.ass, hi2]) (hb_mk ?_ h1)
      exact ass_loop_mk hi1 hi2 hfc
    · refine Kn0.hsub k3 ?_
      have hsw : HSub (.ext (s.nx + 1) (ObjA w.heap.size (.deferred (some []))) :: .ext s.nx (loopA ρ2 fc.fi.n (w.heap.size + 1) .ready none e ps asg bd w.heap.size) :: (L ++ F))
          (.ext s.nx (loopA ρ2 fc.fi.n (w.heap.size + 1) .ready none e ps asg bd w.heap.size) :: .ext (s.nx + 1) (ObjA w.heap.size (.deferred (some []))) :: (L ++ F)) := HSub.perm (List.Perm.swap _ _ _)
      have h0 : HSub (.ext s.nx (loopA ρ2 fc.fi.n (w.heap.size + 1) .ready none e ps asg bd w.heap.size) :: .ext (s.nx + 1) (ObjA w.heap.size (.deferred (some []))) :: (L ++ F)) (.ext s.nx (loopA ρ2 fc.fi.n (w.heap.size + 1) rc.state rc.pending e rc.params.toList rc.assign rc.body rc.defers) :: .ext (s.nx + 1) (ObjA w.heap.size (.deferred (some []))) :: (L ++ F)) := HSub.refl _
      refine HSub.trans ?_ (HSub.trans hsw h0)
      exact HSub.app2 (A := [_, _]) (A' := [_, _]) (HSub.refl _) (h2.app2 (HSub.refl F))
  · rename_i l0 hlp
    split at h
    rotate_left
    · cases h
    rename_i st0 pe0 fid0 e0 ps0 asg0 bd0 d hf
    cases h
    rw [hlp] at hrd
    obtain ⟨m0, hm0, rfl⟩ := hrd
    obtain ⟨A, L1, L2, hA, hL, _, _⟩ := hb_find hf hp.rw
    obtain ⟨m, dm, fi', q1, q2, q3, rfl⟩ := ass_loop hA
    rw [hm0] at q1
    cases q1
    have hk := hp.k
    rw [hL] at hk
    obtain ⟨T', hT', hlt, _⟩ := Kn0.openX hk
    obtain ⟨hm, fn0, tmps0, h4, h5⟩ := hT'
    have hle := Asg.ins_le (r := ⟨some (w.heap.size, 0), 0⟩) hp.free
    have hfree := Asg.ins_free (r := ⟨some (w.heap.size, 0), 0⟩) hp.free
    obtain ⟨L', h1, h2⟩ := hb_mono hle hp.rw
    let ρ2 := ρ.ins s.nx ⟨some (w.heap.size, 0), 0⟩
    let rc : Loop := { state := .ready, pending := none, fn, tmps := a.tmps, params := ps.toArray, assign := asg, body := bd, defers := dm }
    have hi1 : idO ρ2 s.nx = some w.heap.size := idO_ins _ _ _ _
    have ht2 : okT ρ2 fc.fi.n e.get rc.tmps := ht.mono hle
    have k2 := Kn0.allocO' hp.k s.nx (.loop rc)
    have k3 := Kn0.hsub k2 (loop_imp (m := w.heap.size) ht2)
    refine ⟨_, _, _, ρ2, .ext s.nx (loopA ρ2 fc.fi.n w.heap.size .ready none e ps asg bd dm) :: L', run_enterLoop_inner h4 fn a.tmps ps.toArray asg bd, Asg.ins_leN hp.free, hi1, by omega, hds.mono hle, hp.gl.mono hle, hfree, by have := hp.nx; show 1000 ≤ s.nx + 1; omega, hp.ro.mono hle, ?_, ?_⟩
    · exact hb_mk (ass_loop_mk hi1 (idO_mono hle q2) hfc) h1
    · refine Kn0.hsub k3 ?_
      exact HSub.app2 (A := [.ext s.nx (loopA ρ2 fc.fi.n w.heap.size .ready none e ps asg bd dm)]) (A' := [.ext s.nx (loopA ρ2 fc.fi.n w.heap.size .ready none e ps asg bd dm)]) (HSub.refl _) (h2.app2 (HSub.refl F))
end
end Go.Y

namespace Go.Y
open Go Go.X
section
variable {P : Program} {T : TR} {W : World} {S : Nat → Prop} {hT : TOk P T} {pg : Pg} {D : List Nat} {rec : Rec}
theorem isBusy_of {st : LoopState} (h : isBusy st = false) : (st == .busy) = false := by cases st <;> first | rfl | cases h
theorem delB_loop {ρ : Asg} {F L : List Blk} {w : World} {rw : CH} {l : Nat} {st : LoopState} {pe : Option Code} {fid : FuncId} {e : Tr} {ps : List Nat} {asg body : Code} {d : Nat}
    (hL : hb pg ρ rw = some L) (hk : Kn0 W S (L ++ F) w) (hf : findB l rw = some (.loop st pe fid e ps asg body d)) (hst : isBusy st = false) {m : Nat} (hm : idO ρ l = some m) :
    ∃ w' L', (Instr.endLoop m).run P w = .ok pe w' ∧ hb pg ρ (delB l rw) = some L' ∧ Kn0 W S (L' ++ F) w' := by
  obtain ⟨A, L1, L2, hA, rfl, _, hdel⟩ := hb_find hf hL
  obtain ⟨m', dm, fi, h1, h2, h3, rfl⟩ := ass_loop hA
  rw [hm] at h1
  cases h1
  obtain ⟨T', hT', hlt, hopen⟩ := Kn0.openX hk
  obtain ⟨hm', fn, tmps, h4, h5⟩ := hT'
  have hk2 := hopen _ _ (fpost_set (o := .loop { state := st, pending := pe, fn, tmps, params := ps.toArray, assign := asg, body, defers := dm }) ⟨hm', h4⟩ (hlt _ hm') (.loop { state := .exhausted, pending := pe, fn, tmps, params := ps.toArray, assign := asg, body, defers := dm }))
  refine ⟨_, L1 ++ L2, ?_, hdel, Kn0.hsub hk2 ?_⟩
  · simp only [Instr.endLoop, Sem.run_bind, getLoop_run h4, Result.andThen_ok]
    rw [if_neg (by rw [isBusy_of hst]; simp)]
    simp only [Sem.run_bind, setObj_run h4 (by intro c t f; simp), Result.andThen_ok, Sem.run_pure]
  · rw [List.append_assoc, List.append_assoc, List.cons_append]
    exact HSub.app2 (HSub.refl L1) (.drop (HSub.refl (L2 ++ F)))
/-- code, one level -/
theorem codeC_s (hcT : T = pg.T) (hok : PgOk P pg) (hD : DOk P D) (hdraw : ∀ n cr, DrawS ⟨P, T, n, W, S, cr, hT⟩ pg D rec) (hrec : RecS P T W S hT pg rec) : RecS P T W S hT pg (codeC pg D rec) := by
  intro fc x e ds s r hfc h cr ρ F L a w hp ht hrd hds
  have hv := vcs (hT := hT) (W := W) (S := S) hcT hok hD hrec fc.fi.n cr
  unfold codeC at h
  split at h
  · cases h
    exact wpIn_skip ⟨rfl, ρ, L, .refl ρ, hp.free, Nat.le_refl _, ht, hp.rw, hp.k, hds⟩
  · cases h
    exact wpIn_label ⟨rfl, ρ, L, .refl ρ, hp.free, Nat.le_refl _, ht, hp.rw, hp.k, hds⟩
  · cases h
    exact wpIn_ret ⟨rfl, ρ, L, .refl ρ, hp.free, Nat.le_refl _, ht, hp.rw, hp.k, hds⟩
  · cases h
    exact wpIn_exit ⟨rfl, ρ, L, .refl ρ, hp.free, Nat.le_refl _, ht, hp.rw, hp.k, hds⟩
  · -- seq
    split at h
    · cases h
    rename_i ex e1 ds1 rw1 nx1 md1 ha
    refine wpIn_seq (wpIn_mono (hrec fc _ _ _ _ _ hfc ha cr ρ F L a w hp ht hrd hds) ?_)
    rintro e' a' w' ⟨he, ρ1, L1, hpost⟩
    rcases Ex.nrm_or he with ⟨hex, rfl⟩ | ⟨hex, hthen⟩
    · simp only at hex
      subst hex
      simp only at h
      refine wpIn_mono (hrec fc _ _ _ _ _ hfc h cr ρ1 F L1 a' w' (hp.next hpost.le hpost.free hpost.nx hpost.rw hpost.k) hpost.tm (hrd.mono hpost.le) hpost.ds) ?_
      rintro e2 a2 w2 ⟨h1, ρ2, L2, h2⟩
      exact ⟨h1, ρ2, L2, h2.tran hpost.lo hpost.nx⟩
    · rw [hthen]
      simp only at hex
      cases ex with
      | nrm => exact absurd rfl hex
      | ret => cases h; exact ⟨he, ρ1, L1, hpost⟩
      | exit id => cases h; exact ⟨he, ρ1, L1, hpost⟩
  · -- cond
    split at h
    rotate_left
    · cases h
    rename_i p hx
    have e1 := (Option.some.inj (opdC_spec hp.gl ht hx)).symm
    refine wpIn_cond e1 ?_
    have := hrec fc _ _ _ _ _ hfc h cr ρ F L a w hp ht hrd hds
    cases p <;> exact this
  · -- block
    split at h
    · cases h
    rename_i ex e1 ds1 rw1 nx1 md1 ha
    refine wpIn_block (wpIn_mono (hrec fc _ _ _ _ _ hfc ha cr ρ F L a w hp ht hrd hds) ?_)
    rintro e' a' w' ⟨he, ρ1, L1, hpost⟩
    simp only at he
    cases ex with
    | nrm => have := of_ex he; simp only [exE] at this; subst this; cases h; exact ⟨rfl, ρ1, L1, hpost⟩
    | ret => have := of_ex he; simp only [exE] at this; subst this; cases h; exact ⟨rfl, ρ1, L1, hpost⟩
    | exit j =>
      have := of_ex he
      simp only [exE] at this
      subst this
      simp only at h
      split at h
      · rename_i hj
        have hj := Nat.eq_of_beq_eq_true hj
        subst hj
        cases h
        simp only [Exit.inBlock, if_true]
        exact ⟨rfl, ρ1, L1, hpost⟩
      · rename_i hj
        rw [nbeq, decide_eq_false_iff_not] at hj
        cases h
        simp only [Exit.inBlock, if_neg hj]
        exact ⟨rfl, ρ1, L1, hpost⟩
  · -- loop
    refine wpIn_loop_rounds 1000000 ?_
    refine loopC_s hrec hfc 1000000 h ρ F L a w _ hp ht hrd hds ?_
    intro ex a' w' h1 h2
    exact ⟨h1, h2⟩
  · -- region
    rename_i id ops draw
    split at h
    · cases h
    rename_i e1 ds1 rw1 nx1 md1 hr
    cases h
    have hrd' : inRd fc.lp = false → cr = none := by
      intro hf
      unfold inRd at hf
      split at hf
      · rename_i hl; rw [hl] at hrd; exact hrd
      · cases hf
    cases draw with
    | false =>
      refine wpIn_region_list ?_
      exact seqC_s (c := ⟨P, T, fc.fi.n, W, S, cr, hT⟩) hcT hok hv hrd' _ hr ρ F L a w _ hp ht hds fun ρ' L' a' w' hpost => ⟨rfl, ρ', L', hpost⟩
    | true =>
      have := hdraw fc.fi.n cr _ _ _ _ _ _ _ _ hr hrd' ρ F L a w (fun ex a' w' => Ex.of ex = some .nrm ∧ ∃ ρ' L', PostC ⟨P, T, fc.fi.n, W, S, cr, hT⟩ pg ρ F s.nx e1 ds1 rw1 nx1 ρ' L' a' w') id hp ht hds fun ρ' L' a' w' hpost => ⟨rfl, ρ', L', hpost⟩
      exact this
  · -- rangeFunc
    rename_i g ps asg bd
    split at h
    · cases h
    rename_i gv hg
    split at h
    rotate_left
    · cases h
    rename_i gf first caps hgv
    split at h
    · cases h
    rename_i rw1 ds1 nx1 hrg
    split at h
    · cases h
    rename_i v2 rw2 nx2 md2 hcall
    split at h
    rotate_left
    · cases h
    rename_i st pe fid0 e0 ps0 asg0 bd0 d0 hf
    refine wpIn_rangeFunc fun fn _ => ?_
    obtain ⟨l, mark, w1, ρ1, L1, hent, hlo1, hid, hnx1, hds1, hp1⟩ := rangeC_s (S := S) (hT := hT) hfc hrg hp ht hrd hds fn
    have hle1 := hlo1.1
    have hge := opdC_spec hp.gl ht hg
    rw [← val_opn, hgv] at hge
    obtain ⟨a', b', h1, h2, hge⟩ := val_fn_inv hge
    have hyl : val ρ1 (.yl s.nx) = some (.func (.yield l) #[] #[]) := by
      unfold idO at hid
      simp only [val]
      split at hid
      · rename_i q hq
        simp only [hq, hid]
      · cases hid
    rw [appN_eq] at hcall
    have hvals : valL ρ1 (first ++ .yl s.nx :: caps) = some (a' ++ .func (.yield l) #[] #[] :: b') :=
      valL_append (valL_mono hle1 h1) (by simp only [valL, hyl, valL_mono hle1 h2])
    have hct := callC_s hcT hok hD hrec hcall hp1 hvals
    unfold X.CT at hct
    obtain ⟨hb, hc⟩ := hct
    refine ⟨l, mark, w1, { target := .fn (.func gf) b'.toArray, args := a'.toArray ++ #[.func (.yield l) #[] #[]] }, w1, gf, (a' ++ .func (.yield l) #[] #[] :: b').toArray, w1, ?_, ?_, fun _ _ => trivial, ?_, ?_, ?_⟩
    · have := hent
      simpa [Cx.F] using this
    · simp [resolve, hge, Deferred.ofValue]
      rfl
    · simp only [invoke]
      rw [show (a'.toArray ++ #[Value.func (.yield l) #[] #[]] ++ b'.toArray) = (a' ++ .func (.yield l) #[] #[] :: b').toArray by simp]
      exact run_callFunc hb _ _
    · intro h; simp [Cx.F, Fence.wide] at h
    · refine (callsIn_of_calls (c := ⟨P, T, fc.fi.n, W, S, cr, hT⟩) hc).mono ?_
      rintro e' w' ⟨v, rfl, ρ2, L2, hpost⟩
      have hid2 := idO_mono hpost.le hid
      split at h
      · cases h
      · rename_i hst
        obtain ⟨w3, L3, h4, h5, h6⟩ := delB_loop (P := P) hpost.rw hpost.k hf hst hid2
        cases h
        exact ⟨none, w3, h4, rfl, ρ2, L3, hlo1.trans hpost.lo hnx1, hpost.free, Nat.le_trans hnx1 hpost.nx, ht.mono (hle1.trans hpost.le), h5, h6, hds1.mono hpost.le⟩
      · rename_i j hst
        obtain ⟨w3, L3, h4, h5, h6⟩ := delB_loop (P := P) hpost.rw hpost.k hf hst hid2
        refine ⟨some j, w3, h4, ?_⟩
        have hp3 : Pre ⟨P, T, fc.fi.n, W, S, cr, hT⟩ pg ρ2 ⟨delB s.nx rw2, s.ro, nx2, md2⟩ F L3 w3 := ⟨hp1.gl.mono hpost.le, hpost.free, Nat.le_trans hp1.nx hpost.nx, hp1.ro.mono hpost.le, h5, h6⟩
        refine wpIn_mono (hrec fc _ _ _ _ _ hfc h cr ρ2 F L3 _ w3 hp3 (ht.mono (hle1.trans hpost.le)) (hrd.mono (hle1.trans hpost.le)) (hds1.mono hpost.le)) ?_
        rintro e2 a2 w2 ⟨q1, ρ3, L4, q2⟩
        exact ⟨q1, ρ3, L4, q2.tran (hlo1.trans hpost.lo hnx1) (Nat.le_trans hnx1 hpost.nx)⟩
  · cases h
end
end Go.Y

namespace Go.Y
open Go Go.X
/-! masks -/
theorem bitN'_eq (m i : Nat) : bitN' m i = m.testBit i := by
  unfold bitN'
  have h : Nat.mod (Nat.div m (Nat.pow 2 i)) 2 = m / 2 ^ i % 2 := rfl
  rw [h, Nat.testBit_eq_decide_div_mod_eq]
  have h2 : m / 2 ^ i % 2 < 2 := Nat.mod_lt _ (by omega)
  generalize m / 2 ^ i % 2 = b at h2
  match b, h2 with
  | 0, _ => rfl
  | 1, _ => rfl
theorem bit_lor (a b i : Nat) : bitN' (Nat.lor a b) i = (bitN' a i || bitN' b i) := by
  rw [bitN'_eq, bitN'_eq, bitN'_eq]
  exact Nat.testBit_or a b i
theorem bit_pow (j i : Nat) : bitN' (Nat.pow 2 j) i = decide (j = i) := by
  rw [bitN'_eq]
  exact Nat.testBit_two_pow
theorem bit_lt {m k i : Nat} (h : Nat.blt m (Nat.pow 2 k) = true) (hb : bitN' m i = true) : i < k := by
  rw [nblt, decide_eq_true_eq] at h
  rw [bitN'_eq] at hb
  rcases Nat.lt_or_ge i k with h1 | h1
  · exact h1
  · have h2 : m < 2 ^ i := Nat.lt_of_lt_of_le h (Nat.pow_le_pow_right (by omega) h1)
    rw [Nat.testBit_lt_two_pow h2] at hb
    cases hb
theorem maskO_cons (ms : List Nat) (ed : Edge) (es : List Edge) : maskO ms (ed :: es) = (match bindsA ed.ground with
    | true => (match nthN ed.on ms with | some m => Nat.lor (Nat.lor m (Nat.pow 2 ed.on)) (maskO ms es) | none => Nat.lor (Nat.pow 2 ed.on) (maskO ms es))
    | false => maskO ms es) := rfl
/-- what binds is in the mask -/
theorem maskO_on {ms : List Nat} : ∀ {es : List Edge} {e : Edge}, e ∈ es → Region.binds .any e = true → bitN' (maskO ms es) e.on = true
  | ed :: es, e, he, hb => by
    rw [maskO_cons]
    rcases List.mem_cons.1 he with rfl | he
    · rw [bindsA_eq, hb]
      simp only
      split
      · rw [bit_lor, bit_lor, bit_pow]; simp
      · rw [bit_lor, bit_pow]; simp
    · have ih := maskO_on (ms := ms) he hb
      split
      · split
        · rw [bit_lor, ih]; simp
        · rw [bit_lor, ih]; simp
      · exact ih
/-- and nothing but what binds, and what that waits for -/
theorem maskO_only {ms : List Nat} : ∀ {es : List Edge} {j : Nat}, bitN' (maskO ms es) j = true → ∃ e ∈ es, Region.binds .any e = true ∧ (j = e.on ∨ ∃ m, ms[e.on]? = some m ∧ bitN' m j = true)
  | [], j, h => by
    have : bitN' 0 j = true := h
    rw [bitN'_eq] at this
    simp at this
  | ed :: es, j, h => by
    rw [maskO_cons] at h
    split at h
    · rename_i hb
      rw [bindsA_eq] at hb
      split at h
      · rename_i m hm
        rw [nthN_eq] at hm
        simp only [bit_lor, bit_pow, Bool.or_eq_true, decide_eq_true_eq] at h
        rcases h with (h | h) | h
        · exact ⟨ed, by simp, hb, .inr ⟨m, hm, h⟩⟩
        · exact ⟨ed, by simp, hb, .inl h.symm⟩
        · obtain ⟨e, h1, h2⟩ := maskO_only h
          exact ⟨e, by simp [h1], h2⟩
      · simp only [bit_lor, bit_pow, Bool.or_eq_true, decide_eq_true_eq] at h
        rcases h with h | h
        · exact ⟨ed, by simp, hb, .inl h.symm⟩
        · obtain ⟨e, h1, h2⟩ := maskO_only h
          exact ⟨e, by simp [h1], h2⟩
    · obtain ⟨e, h1, h2⟩ := maskO_only h
      exact ⟨e, by simp [h1], h2⟩
theorem masksO_cons (ms : List Nat) (o : Oper) (l : List Oper) : masksO ms (o :: l) = masksO (appN ms [maskO ms o.after.toList]) l := rfl
/-- every operation's mask -/
theorem masksO_get : ∀ (l : List Oper) (ms : List Nat), (masksO ms l).length = ms.length + l.length ∧ (∀ i, i < ms.length → (masksO ms l)[i]? = ms[i]?) ∧
    ∀ j o, l[j]? = some o → (masksO ms l)[ms.length + j]? = some (maskO ((masksO ms l).take (ms.length + j)) o.after.toList)
  | [], ms => ⟨rfl, fun _ _ => rfl, fun j o h => by simp at h⟩
  | o :: l, ms => by
    rw [masksO_cons, appN_eq]
    obtain ⟨h1, h2, h3⟩ := masksO_get l (ms ++ [maskO ms o.after.toList])
    refine ⟨by rw [h1]; simp; omega, fun i hi => ?_, fun j o' hj => ?_⟩
    · rw [h2 i (by simp; omega), List.getElem?_append_left hi]
    · cases j with
      | zero =>
        simp only [List.getElem?_cons_zero, Option.some.injEq] at hj
        subst hj
        have h4 := h2 ms.length (by simp)
        rw [List.getElem?_append_right (Nat.le_refl _)] at h4
        simp only [Nat.sub_self, List.getElem?_cons_zero] at h4
        simp only [Nat.add_zero]
        rw [h4]
        congr 2
        apply List.ext_getElem?
        intro i
        rw [List.getElem?_take]
        split
        · rename_i hi
          rw [h2 i (by simp; omega), List.getElem?_append_left hi]
        · rename_i hi
          rw [List.getElem?_eq_none (by omega)]
      | succ j =>
        simp only [List.getElem?_cons_succ] at hj
        have h4 := h3 j o' hj
        simp only [List.length_append, List.length_cons, List.length_nil] at h4
        rw [show ms.length + (j + 1) = ms.length + (0 + 1) + j by omega]
        exact h4
end Go.Y

namespace Go.Y
open Go Go.X
def nxO (nx0 : Nat) : List ND → Nat
  | [] => nx0
  | p :: _ => p.nx
/-- a drawn region, its parts -/
structure DR where
  pg : Pg
  D : List Nat
  rc : Rec
  n : Nat
  all : List Oper
  e : Tr
  ro : List CH
  sh : CH
  fl : List (Nat × Bool)
  bl : List Nat
  us : List (Nat × CH)
  ms : List Nat
  nx0 : Nat
/-- a node that follows those of ps -/
structure NodeOk (d : DR) (ps : List ND) (p : ND) (o : Oper) (m : Nat) (rw : CH) (ro' : List CH) (md : List Nat) (r : O2) : Prop where
  op : d.all[p.i]? = some o
  msk : d.ms[p.i]? = some m
  i : p.i = ps.length
  lt : Nat.blt m (Nat.pow 2 p.i) = true
  mem : memO d.fl d.bl d.us d.ms d.sh d.ro m p.i ps = some (rw, ro')
  step : stepO d.pg d.D d.rc d.n d.all o (lookD d.all d.e ps m) ⟨rw, ro', nxO d.nx0 ps, md⟩ = .ok r
  d' : p.d = o.dst
  v : p.v = r.v
  m' : p.m = r.rw
  nx : p.nx = r.nx
  le : nxO d.nx0 ps ≤ p.nx
inductive NodesOk (d : DR) : List ND → Prop
  | nil : NodesOk d []
  | cons {ps : List ND} {p : ND} {o : Oper} {m : Nat} {rw : CH} {ro' : List CH} {md : List Nat} {r : O2} (h : NodesOk d ps) (hp : NodeOk d ps p o m rw ro' md r) : NodesOk d (p :: ps)
theorem nodesC_cons (pg : Pg) (D : List Nat) (rec : Rec) (n : Nat) (all : List Oper) (e : Tr) (ro : List CH) (sh : CH) (fl : List (Nat × Bool)) (bl : List Nat) (us : List (Nat × CH)) (ms : List Nat) (o : Oper) (l : List Oper) (i : Nat) (ps : List ND) (nx : Nat) (md : List Nat) :
    nodesC pg D rec n all e ro sh fl bl us ms (o :: l) i ps nx md = (match nthN i ms with
    | none => .no [410]
    | some m => match Nat.blt m (Nat.pow 2 i), memO fl bl us ms sh ro m i ps with
      | true, some (rw, ro') => match stepO pg D rec n all o (lookD all e ps m) ⟨rw, ro', nx, md⟩ with
        | .ok ⟨v, rw, nx', md⟩ => match Nat.ble nx nx' with
          | true => frcN (Nat.succ i) (fun i' => nodesC pg D rec n all e ro sh fl bl us ms l i' (⟨i, o.dst, v, rw, nx'⟩ :: ps) nx' md)
          | false => .no [412]
        | .no er => .no ((2000 + i) :: (1000000000 + nx) :: er)
      | _, _ => .no [411]) := rfl
theorem nodesC_s (d : DR) : ∀ (l : List Oper) {i : Nat} {ps : List ND} {nx : Nat} {md : List Nat} {ps' : List ND} {nx' : Nat} {md' : List Nat}, nodesC d.pg d.D d.rc d.n d.all d.e d.ro d.sh d.fl d.bl d.us d.ms l i ps nx md = .ok (ps', nx', md') →
    (∀ j o, l[j]? = some o → d.all[i + j]? = some o) → NodesOk d ps → i = ps.length → nx = nxO d.nx0 ps → NodesOk d ps' ∧ ps'.length = i + l.length ∧ nx' = nxO d.nx0 ps'
  | [], i, ps, nx, md, ps', nx', md', h, _, hps, hi, hnx => by
    cases (show Rs.ok (ps, nx, md) = .ok (ps', nx', md') from h)
    exact ⟨hps, by simp [hi], hnx⟩
  | o :: l, i, ps, nx, md, ps', nx', md', h, hl, hps, hi, hnx => by
    rw [nodesC_cons] at h
    split at h
    · cases h
    rename_i m hm
    rw [nthN_eq] at hm
    split at h
    rotate_left
    · cases h
    rename_i rw ro' hlt hmem
    split at h
    rotate_left
    · cases h
    rename_i v rw2 nx2 md2 hst
    split at h
    rotate_left
    · cases h
    rename_i hle
    rw [frcN_eq] at h
    have hle := Nat.le_of_ble_eq_true hle
    have ho : d.all[i]? = some o := by simpa using hl 0 o rfl
    have hnode : NodeOk d ps ⟨i, o.dst, v, rw2, nx2⟩ o m rw ro' md ⟨v, rw2, nx2, md2⟩ :=
      ⟨ho, hm, hi, hlt, hmem, by rw [← hnx]; exact hst, rfl, rfl, rfl, rfl, by rw [← hnx]; exact hle⟩
    obtain ⟨h1, h2, h3⟩ := nodesC_s d l h (fun j o' hj => by
      have := hl (j + 1) o' (by simpa using hj)
      rw [show Nat.succ i + j = i + (j + 1) by omega]
      exact this) (.cons hps hnode) (by simp [hi]) rfl
    exact ⟨h1, by rw [h2]; simp; omega, h3⟩
/-- a node, and those ahead of it -/
theorem NodesOk.get {d : DR} : ∀ {ps : List ND} (_ : NodesOk d ps) {k : Nat}, k < ps.length → ∃ A p B o m rw ro' md r, ps = A ++ p :: B ∧ NodesOk d B ∧ NodeOk d B p o m rw ro' md r ∧ p.i = k
  | [], _, k, hk => by simp at hk
  | p :: ps, h, k, hk => by
    cases h with
    | @cons _ _ o m rw ro' md r h hp =>
      by_cases hkp : k = ps.length
      · exact ⟨[], p, ps, o, m, rw, ro', md, r, rfl, h, hp, by rw [hp.i, hkp]⟩
      · obtain ⟨A, q, B, o', m', rw', ro'', md', r', h1, h2, h3, h4⟩ := NodesOk.get h (k := k) (by simp at hk; omega)
        exact ⟨p :: A, q, B, o', m', rw', ro'', md', r', by rw [h1]; rfl, h2, h3, h4⟩
theorem NodesOk.lt {d : DR} : ∀ {ps : List ND} (_ : NodesOk d ps) {p : ND}, p ∈ ps → p.i < ps.length
  | [], _, p, hp => by simp at hp
  | q :: ps, h, p, hp => by
    cases h with
    | cons h hq =>
      rcases List.mem_cons.1 hp with rfl | hp
      · rw [hq.i]; simp
      · have := NodesOk.lt h hp; simp; omega
theorem NodesOk.nxle {d : DR} : ∀ {ps : List ND} (_ : NodesOk d ps), (∀ p ∈ ps, p.nx ≤ nxO d.nx0 ps) ∧ d.nx0 ≤ nxO d.nx0 ps
  | [], _ => ⟨by simp, Nat.le_refl _⟩
  | q :: ps, h => by
    cases h with
    | cons h hq =>
      obtain ⟨h1, h2⟩ := NodesOk.nxle h
      have := hq.le
      refine ⟨fun p hp => ?_, by show d.nx0 ≤ q.nx; omega⟩
      rcases List.mem_cons.1 hp with rfl | hp
      · exact Nat.le_refl _
      · have := h1 p hp
        show p.nx ≤ q.nx
        omega
end Go.Y

namespace Go.Y
open Go Go.X
section
variable {all : List Oper} {ms : List Nat} (hms : ms = masksO [] all)
include hms
theorem ms_get {j : Nat} {o : Oper} (h : all[j]? = some o) : ms[j]? = some (maskO (ms.take j) o.after.toList) := by
  have := (masksO_get all []).2.2 j o h
  rw [← hms] at this
  simpa using this
theorem ms_len : ms.length = all.length := by
  have := (masksO_get all []).1
  rw [← hms] at this
  simpa using this
/-- what is done is done with all that it waits for -/
def Cl (ms : List Nat) (L : List Bool) : Prop := ∀ i, L.toArray.getD i false = true → ∀ m, ms[i]? = some m → ∀ j, bitN' m j = true → L.toArray.getD j false = true
theorem ready_mask {L : List Bool} (hc : Cl ms L) {i : Nat} (h : i ∈ Region.ready .any all.toArray L.toArray) {m : Nat} (hm : ms[i]? = some m) : ∀ j, bitN' m j = true → L.toArray.getD j false = true := by
  obtain ⟨_, o, ho, hrd⟩ := mem_ready.1 h
  have ho : all[i]? = some o := by simpa using ho
  have h1 := ms_get hms ho
  rw [hm] at h1
  cases h1
  intro j hj
  obtain ⟨e, he, hb, h2⟩ := maskO_only hj
  have h3 := hrd e (by simpa using he) hb
  rcases h2 with rfl | ⟨m', h4, h5⟩
  · exact h3
  · rw [List.getElem?_take] at h4
    split at h4
    · exact hc _ h3 _ h4 _ h5
    · cases h4
theorem ready_of {L : List Bool} {i : Nat} {o : Oper} (ho : all[i]? = some o) (hl : L.length = all.length) (hn : L.toArray.getD i false = false) {m : Nat} (hm : ms[i]? = some m) (h : ∀ j, bitN' m j = true → L.toArray.getD j false = true) : i ∈ Region.ready .any all.toArray L.toArray := by
  have hlt : i < all.length := (List.getElem?_eq_some_iff.1 ho).1
  refine mem_ready.2 ⟨getD_ft (by omega) hn, o, by simpa using ho, fun e he hb => ?_⟩
  have h1 := ms_get hms ho
  rw [hm] at h1
  cases h1
  exact h _ (maskO_on (by simpa using he) hb)
/-- operations each of which waits for all ahead of it, one after the other -/
theorem anyOfList {F : Fence} {n : Nat} {P : Program} {Q : Exit → Act → World → Prop} (hM : ∀ i m, ms[i]? = some m → ∀ j, bitN' m j = true → j < i) : ∀ (l : List Oper) (k : Nat) (L : List Bool) (a : Act) (w : World), all.drop k = l → L.length = all.length →
    (∀ i, i < all.length → L.toArray.getD i false = decide (i < k)) → (∀ j m, k ≤ j → ms[j]? = some m → ∀ i, i < j → bitN' m i = true) →
    wpListIn F n P all.toArray Q l a w → wpAnyIn F n P .any all.toArray Q l.length L.toArray a w := by
  intro l
  induction l with
  | nil =>
    intro k L a w hd hl hL _ h
    have hk : all.length ≤ k := List.drop_eq_nil_iff.1 hd
    refine ⟨?_, h⟩
    cases hr : Region.ready .any all.toArray L.toArray with
    | nil => rfl
    | cons i r =>
      exfalso
      have hi : i ∈ Region.ready .any all.toArray L.toArray := by rw [hr]; simp
      obtain ⟨h1, o, ho, _⟩ := mem_ready.1 hi
      obtain ⟨h2, h3⟩ := getD_tf h1
      rw [hL i (by omega)] at h3
      simp at h3
      omega
  | cons o l ih =>
    intro k L a w hd hl hL hT h
    have hk : k < all.length := by
      rcases Nat.lt_or_ge k all.length with h1 | h1
      · exact h1
      · rw [List.drop_eq_nil_iff.2 h1] at hd; cases hd
    have ho : all[k]? = some o := by
      have : (all.drop k)[0]? = some o := by rw [hd]; rfl
      rwa [List.getElem?_drop, Nat.add_zero] at this
    have hd' : all.drop (k + 1) = l := by
      have : (all.drop k).drop 1 = l := by rw [hd]; rfl
      rwa [List.drop_drop] at this
    obtain ⟨mk, hmk⟩ : ∃ m, ms[k]? = some m := ⟨_, ms_get hms ho⟩
    have hrk : k ∈ Region.ready .any all.toArray L.toArray := by
      refine ready_of hms ho hl (by rw [hL k hk]; simp) hmk fun j hj => ?_
      have := hM k mk hmk j hj
      rw [hL j (by omega)]
      simpa using this
    have hone : ∀ i ∈ Region.ready .any all.toArray L.toArray, i = k := by
      intro i hi
      obtain ⟨h1, o', ho', hrd⟩ := mem_ready.1 hi
      obtain ⟨h2, h3⟩ := getD_tf h1
      rw [hL i (by omega)] at h3
      have h3 : ¬ i < k := by simpa using h3
      rcases Nat.lt_or_ge k i with h4 | h4
      · exfalso
        have ho' : all[i]? = some o' := by simpa using ho'
        have hmi := ms_get hms ho'
        have h5 := hT i _ (by omega) hmi k h4
        obtain ⟨e, he, hb, h6⟩ := maskO_only h5
        have h7 := hrd e (by simpa using he) hb
        have helt : e.on < i := hM i _ hmi _ (maskO_on he hb)
        rw [hL e.on (by omega)] at h7
        have h7 : e.on < k := by simpa using h7
        rcases h6 with h6 | ⟨m', h8, h9⟩
        · omega
        · rw [List.getElem?_take] at h8
          rw [if_pos (by omega)] at h8
          have := hM _ _ h8 _ h9
          omega
      · omega
    refine ⟨fun h0 => by rw [h0] at hrk; simp at hrk, fun i hi => ?_⟩
    have := hone i hi
    subst this
    simp only [wpOpIn]
    have hoA : all.toArray[i]? = some o := by simpa using ho
    rw [hoA]
    simp only [wpListIn] at h
    have hset : L.toArray.setIfInBounds i true = (L.set i true).toArray := by simp
    have hnext : ∀ a' w', wpListIn F n P all.toArray Q l a' w' → wpAnyIn F n P .any all.toArray Q l.length (L.toArray.setIfInBounds i true) a' w' := by
      intro a' w' h'
      rw [hset]
      refine ih (i + 1) (L.set i true) a' w' hd' (by simpa using hl) (fun j hj => ?_) (fun j m hj => hT j m (by omega)) h'
      rw [getD_set (by omega), hL j hj]
      by_cases hji : j = i
      · subst hji; simp
      · rw [if_neg hji, decide_eq_decide]; omega
    show if Region.wanted o (yielded all.toArray a.tmps) = true then _ else _
    split
    · rename_i hw
      rw [if_pos hw] at h
      exact Oper.wpIn_mono hnext h
    · rename_i hw
      rw [if_neg hw] at h
      exact ⟨h.1, hnext _ _ h.2⟩
end
end Go.Y

namespace Go.Y
open Go Go.X
/-- an assignment, cut -/
def Asg.cut (ρ : Asg) (n : Nat) : Asg := fun j => if j < n then ρ j else none
theorem Asg.cut_le (ρ : Asg) {n m : Nat} (h : n ≤ m) : (ρ.cut n).le (ρ.cut m) := fun j r hj => by
  unfold Asg.cut at hj ⊢
  split at hj
  · rw [if_pos (by omega)]; exact hj
  · cases hj
theorem Asg.cut_le' (ρ : Asg) (n : Nat) : (ρ.cut n).le ρ := fun j r hj => by
  unfold Asg.cut at hj
  split at hj
  · exact hj
  · cases hj
theorem Asg.cut_free (ρ : Asg) (n : Nat) : (ρ.cut n).free n := fun j hj => by
  unfold Asg.cut
  rw [if_neg (by omega)]
theorem Asg.le_cut {ρ0 ρ : Asg} {n0 n : Nat} (h0 : ρ0.free n0) (h : Asg.leN n0 ρ0 ρ) (hn : n0 ≤ n) : ρ0.le (ρ.cut n) := fun j r hj => by
  have hlt : j < n0 := by
    rcases Nat.lt_or_ge j n0 with h1 | h1
    · exact h1
    · rw [h0 j h1] at hj; cases hj
  unfold Asg.cut
  rw [if_pos (by omega)]
  exact h.1 j r hj
/-- what is new between n and m is laid in -/
def Asg.mix (ρ ρ' : Asg) (n m : Nat) : Asg := fun j => if n ≤ j ∧ j < m then ρ' j else ρ j
/-- memory of nodes -/
noncomputable def memL (pg : Pg) (ρ : Asg) : List ND → Option (List Blk)
  | [] => some []
  | p :: l => match hb pg (ρ.cut p.nx) p.m, memL pg ρ l with
    | some A, some B => some (A ++ B)
    | _, _ => none
section
variable {pg : Pg}
theorem memL_cons {ρ : Asg} {p : ND} {l : List ND} {L : List Blk} (h : memL pg ρ (p :: l) = some L) : ∃ A B, hb pg (ρ.cut p.nx) p.m = some A ∧ memL pg ρ l = some B ∧ L = A ++ B := by
  simp only [memL] at h
  split at h
  · rename_i A B h1 h2
    cases h
    exact ⟨A, B, h1, h2, rfl⟩
  · cases h
theorem memL_mk {ρ : Asg} {p : ND} {l : List ND} {A B : List Blk} (h1 : hb pg (ρ.cut p.nx) p.m = some A) (h2 : memL pg ρ l = some B) : memL pg ρ (p :: l) = some (A ++ B) := by simp only [memL, h1, h2]
theorem memL_perm {ρ : Asg} {l l' : List ND} (hp : l.Perm l') : ∀ {L : List Blk}, memL pg ρ l = some L → ∃ L', memL pg ρ l' = some L' ∧ L.Perm L' := by
  induction hp with
  | nil => intro L h; exact ⟨L, h, .refl _⟩
  | cons p _ ih =>
    intro L h
    obtain ⟨A, B, h1, h2, rfl⟩ := memL_cons h
    obtain ⟨B', h3, h4⟩ := ih h2
    exact ⟨_, memL_mk h1 h3, h4.append_left _⟩
  | swap p q l =>
    intro L h
    obtain ⟨A, B, h1, h2, rfl⟩ := memL_cons h
    obtain ⟨A', B', h3, h4, rfl⟩ := memL_cons h2
    refine ⟨_, memL_mk h3 (memL_mk h1 h4), ?_⟩
    rw [← List.append_assoc, ← List.append_assoc]
    exact List.Perm.append_right _ List.perm_append_comm
  | trans _ _ ih1 ih2 =>
    intro L h
    obtain ⟨L1, h1, h2⟩ := ih1 h
    obtain ⟨L2, h3, h4⟩ := ih2 h1
    exact ⟨L2, h3, h2.trans h4⟩
theorem memL_app {ρ : Asg} : ∀ {l l' : List ND} {L : List Blk}, memL pg ρ (l ++ l') = some L → ∃ A B, memL pg ρ l = some A ∧ memL pg ρ l' = some B ∧ L = A ++ B
  | [], l', L, h => ⟨[], L, rfl, h, rfl⟩
  | p :: l, l', L, h => by
    obtain ⟨A, B, h1, h2, rfl⟩ := memL_cons (l := l ++ l') h
    obtain ⟨A', B', h3, h4, rfl⟩ := memL_app h2
    exact ⟨_, B', memL_mk h1 h3, h4, by rw [List.append_assoc]⟩
theorem memL_mono {ρ ρ' : Asg} : ∀ {l : List ND} (_ : ∀ p ∈ l, (ρ.cut p.nx).le (ρ'.cut p.nx)) {L : List Blk}, memL pg ρ l = some L → ∃ L', memL pg ρ' l = some L' ∧ HSub L' L
  | [], _, L, h => ⟨L, h, HSub.refl L⟩
  | p :: l, hle, L, h => by
    obtain ⟨A, B, h1, h2, rfl⟩ := memL_cons h
    obtain ⟨A', h3, h4⟩ := hb_mono (hle p (by simp)) h1
    obtain ⟨B', h5, h6⟩ := memL_mono (fun q hq => hle q (by simp [hq])) h2
    exact ⟨_, memL_mk h3 h5, h4.app2 h6⟩
/-- the memory of some nodes, as one -/
theorem memL_hb {ρ : Asg} {n : Nat} : ∀ {l : List ND} (_ : ∀ p ∈ l, p.nx ≤ n) {L : List Blk}, memL pg ρ l = some L → ∃ L', hb pg (ρ.cut n) (l.flatMap (·.m)) = some L' ∧ HSub L' L
  | [], _, L, h => by cases (show some [] = some L from h); exact ⟨[], rfl, HSub.refl _⟩
  | p :: l, hle, L, h => by
    obtain ⟨A, B, h1, h2, rfl⟩ := memL_cons h
    obtain ⟨A', h3, h4⟩ := hb_mono (ρ.cut_le (hle p (by simp))) h1
    obtain ⟨B', h5, h6⟩ := memL_hb (fun q hq => hle q (by simp [hq])) h2
    exact ⟨_, by rw [List.flatMap_cons]; exact hb_app h3 h5, h4.app2 h6⟩
theorem memL_mem {ρ : Asg} : ∀ {l : List ND} {L : List Blk} (_ : memL pg ρ l = some L) {p : ND}, p ∈ l → ∃ A L1 L2, hb pg (ρ.cut p.nx) p.m = some A ∧ L = L1 ++ A ++ L2
  | [], _, _, p, hp => by simp at hp
  | q :: l, L, h, p, hp => by
    obtain ⟨A, B, h1, h2, rfl⟩ := memL_cons h
    rcases List.mem_cons.1 hp with rfl | hp
    · exact ⟨A, [], B, h1, rfl⟩
    · obtain ⟨A', L1, L2, h3, rfl⟩ := memL_mem h2 hp
      exact ⟨A', A ++ L1, L2, h3, by simp only [List.append_assoc]⟩
theorem hb_mem {ρ : Asg} : ∀ {h : CH} {L : List Blk} (_ : hb pg ρ h = some L) {p : Nat × CB}, p ∈ h → ∃ A L1 L2, p.2.ass pg ρ p.1 = some A ∧ L = L1 ++ .ext p.1 A :: L2
  | [], _, _, p, hp => by simp at hp
  | q :: h, L, hL, p, hp => by
    obtain ⟨A, L', h1, h2, rfl⟩ := hb_cons (i := q.1) (b := q.2) hL
    rcases List.mem_cons.1 hp with rfl | hp
    · exact ⟨A, [], L', h1, rfl⟩
    · obtain ⟨A', L1, L2, h3, rfl⟩ := hb_mem h2 hp
      exact ⟨A', .ext q.1 A :: L1, L2, h3, rfl⟩
/-- memory that lies in F may be read -/
theorem RdOk.of_hb {W : World} {S : Nat → Prop} {ρ ρ' : Asg} (hle : ρ.le ρ') {h : CH} {A L1 L2 : List Blk} (hA : hb pg ρ h = some A) : ∀ p ∈ h, ∃ B, p.2.ass pg ρ' p.1 = some B ∧ ∀ L w, Kn0 W S (L ++ (L1 ++ A ++ L2)) w → ∃ T, B.holds w T ∧ ∀ k, T k → k < w.heap.size := by
  intro p hp
  obtain ⟨A1, M1, M2, h1, rfl⟩ := hb_mem hA hp
  obtain ⟨B, h2, h3⟩ := CB.ass_mono hle h1
  refine ⟨B, h2, fun L w hk => ?_⟩
  have hk' : Kn0 W S ((L ++ (L1 ++ M1)) ++ .ext p.1 A1 :: (M2 ++ L2)) w := by
    have e : L ++ (L1 ++ (M1 ++ .ext p.1 A1 :: M2) ++ L2) = (L ++ (L1 ++ M1)) ++ .ext p.1 A1 :: (M2 ++ L2) := by simp
    rwa [e] at hk
  obtain ⟨T, h4, h5⟩ := holds_of hk'
  exact ⟨T, h3 _ _ h4, h5⟩
end
/-! what the marked operations are given -/
def restU (L : List Bool) (us : List (Nat × CH)) : CH := (us.filter fun u => !L.toArray.getD u.1 false).flatMap (·.2)
theorem giveU_cons (u : Nat × CH) (us : List (Nat × CH)) (i : Nat) : giveU (u :: us) i = (match Nat.beq u.1 i with | true => u.2 | false => giveU us i) := rfl
theorem restU_sub {L : List Bool} {k : Nat} (hk : k < L.length) : ∀ (us : List (Nat × CH)), (restU (L.set k true) us).Sublist (restU L us)
  | [] => List.Sublist.refl _
  | u :: us => by
    have ih := restU_sub hk us
    unfold restU at ih ⊢
    rw [List.filter_cons, List.filter_cons, getD_set hk]
    by_cases h : u.1 = k
    · rw [if_pos h]
      simp only [Bool.not_true, Bool.false_eq_true, if_false]
      split
      · rw [List.flatMap_cons]
        exact ih.trans (List.sublist_append_right _ _)
      · exact ih
    · rw [if_neg h]
      split
      · rw [List.flatMap_cons, List.flatMap_cons]
        exact (List.Sublist.refl _).append ih
      · exact ih
theorem restU_give {pg : Pg} {ρ : Asg} {L : List Bool} {k : Nat} (hk : k < L.length) (hn : L.toArray.getD k false = false) : ∀ {us : List (Nat × CH)} {LU : List Blk}, hb pg ρ (restU L us) = some LU → ∃ U R, hb pg ρ (giveU us k) = some U ∧ hb pg ρ (restU (L.set k true) us) = some R ∧ HSub (U ++ R) LU
  | [], LU, h => by cases (show some [] = some LU from h); exact ⟨[], [], rfl, rfl, HSub.refl _⟩
  | u :: us, LU, h => by
    rw [giveU_cons]
    unfold restU at h
    rw [List.filter_cons] at h
    by_cases hu : u.1 = k
    · have hb1 : Nat.beq u.1 k = true := by rw [nbeq, hu]; simp
      rw [hb1]
      rw [hu, hn] at h
      simp only [Bool.not_false, if_true, List.flatMap_cons] at h
      obtain ⟨U, R, h1, h2, rfl⟩ := hb_split h
      have hs : (restU (L.set k true) (u :: us)).Sublist (restU L us) := by
        have := restU_sub hk us
        unfold restU at this ⊢
        rw [List.filter_cons, getD_set hk, if_pos hu]
        exact this
      obtain ⟨R', h3, h4⟩ := hb_sub hs h2
      exact ⟨U, R', h1, h3, (HSub.refl U).app2 h4⟩
    · have hb1 : Nat.beq u.1 k = false := by rw [nbeq]; simp [hu]
      rw [hb1]
      have hset : (L.set k true).toArray.getD u.1 false = L.toArray.getD u.1 false := by rw [getD_set hk, if_neg hu]
      cases hd : L.toArray.getD u.1 false with
      | true =>
        rw [hd] at h
        obtain ⟨U, R, h1, h2, h3⟩ := restU_give hk hn (us := us) h
        refine ⟨U, R, h1, ?_, h3⟩
        unfold restU at h2 ⊢
        rw [List.filter_cons, hset, hd]
        exact h2
      | false =>
        rw [hd] at h
        simp only [Bool.not_false, if_true, List.flatMap_cons] at h
        obtain ⟨M, N, h1, h2, rfl⟩ := hb_split h
        obtain ⟨U, R, h3, h4, h5⟩ := restU_give hk hn (us := us) h2
        refine ⟨U, M ++ R, h3, ?_, ?_⟩
        · unfold restU at h4 ⊢
          rw [List.filter_cons, hset, hd]
          simp only [Bool.not_false, if_true, List.flatMap_cons]
          exact hb_app h1 h4
        · refine HSub.trans (HSub.perm ?_) ((HSub.refl M).app2 h5)
          rw [← List.append_assoc, ← List.append_assoc]
          exact List.Perm.append_right _ List.perm_append_comm
end Go.Y

namespace Go.Y
open Go Go.X
theorem usedB_cons (ms : List Nat) (i k : Nat) (q : Nat × Bool) (fl : List (Nat × Bool)) : usedB ms i k (q :: fl) = (match Nat.blt q.1 k with
    | true => (match nthN q.1 ms with
      | some m => (match bitN' m i with | true => true | false => usedB ms i k fl)
      | none => usedB ms i k fl)
    | false => usedB ms i k fl) := rfl
theorem usedB_iff {ms : List Nat} {i k : Nat} : ∀ {fl : List (Nat × Bool)}, usedB ms i k fl = true ↔ ∃ q ∈ fl, q.1 < k ∧ ∃ m, ms[q.1]? = some m ∧ bitN' m i = true
  | [] => by simp [show usedB ms i k [] = false from rfl]
  | q :: fl => by
    have ih := usedB_iff (ms := ms) (i := i) (k := k) (fl := fl)
    rw [usedB_cons]
    simp only [List.mem_cons, exists_eq_or_imp]
    split
    · rename_i h1
      rw [nblt, decide_eq_true_eq] at h1
      split
      · rename_i m h2
        rw [nthN_eq] at h2
        split
        · rename_i h3
          simp only [true_iff]
          exact .inl ⟨h1, m, h2, h3⟩
        · rename_i h3
          rw [ih]
          constructor
          · exact .inr
          · rintro (⟨_, m', h4, h5⟩ | h)
            · rw [h2] at h4; cases h4; rw [h3] at h5; cases h5
            · exact h
      · rename_i h2
        rw [nthN_eq] at h2
        rw [ih]
        constructor
        · exact .inr
        · rintro (⟨_, m', h4, h5⟩ | h)
          · rw [h2] at h4; cases h4
          · exact h
    · rename_i h1
      rw [nblt, decide_eq_false_iff_not] at h1
      rw [ih]
      constructor
      · exact .inr
      · rintro (⟨h2, _⟩ | h)
        · exact absurd h2 h1
        · exact h
theorem seesB_iff {fl : List (Nat × Bool)} {ms : List Nat} {m k i : Nat} : seesB fl ms m k i = true ↔ bitN' m i = true ∧ usedB ms i k fl = false := by
  unfold seesB
  cases bitN' m i <;> cases usedB ms i k fl <;> simp
theorem flagO_cons (q : Nat × Bool) (fl : List (Nat × Bool)) (i : Nat) : flagO (q :: fl) i = (match Nat.beq q.1 i with | true => some q.2 | false => flagO fl i) := rfl
theorem flagO_none {i : Nat} : ∀ {fl : List (Nat × Bool)}, flagO fl i = none ↔ ∀ q ∈ fl, q.1 ≠ i
  | [] => by simp [show flagO [] i = none from rfl]
  | q :: fl => by
    rw [flagO_cons, nbeq]
    have ih := flagO_none (i := i) (fl := fl)
    simp only [List.mem_cons, forall_eq_or_imp]
    by_cases h : q.1 = i
    · simp [h]
    · simp [h, ih]
theorem flagO_some {i : Nat} {b : Bool} : ∀ {fl : List (Nat × Bool)}, flagO fl i = some b → ∃ q ∈ fl, q.1 = i
  | [], h => by cases (show (none : Option Bool) = some b from h)
  | q :: fl, h => by
    rw [flagO_cons, nbeq] at h
    split at h
    · rename_i hq
      rw [decide_eq_true_eq] at hq
      exact ⟨q, by simp, hq⟩
    · obtain ⟨q', h1, h2⟩ := flagO_some h
      exact ⟨q', by simp [h1], h2⟩
/-- what i made has been used up -/
def takX (d : DR) (L : List Bool) (i : Nat) : Prop := ∃ q ∈ d.fl, L.toArray.getD q.1 false = true ∧ ∃ m, d.ms[q.1]? = some m ∧ bitN' m i = true ∧ usedB d.ms i q.1 d.fl = false
theorem takX_self {d : DR} {L : List Bool} {k : Nat} (hc : Cl d.ms L) (hn : L.toArray.getD k false = false) : ¬ takX d L k := by
  rintro ⟨q, _, h2, m, h3, h4, _⟩
  have := hc _ h2 m h3 k h4
  rw [hn] at this
  cases this
theorem takX_set {d : DR} {L : List Bool} {k m : Nat} (hk : k < L.length) (hm : d.ms[k]? = some m) (i : Nat) : takX d (L.set k true) i ↔ takX d L i ∨ (flagO d.fl k ≠ none ∧ seesB d.fl d.ms m k i = true) := by
  constructor
  · rintro ⟨q, h1, h2, m', h3, h4, h5⟩
    rw [getD_set hk] at h2
    by_cases hq : q.1 = k
    · subst hq
      rw [hm] at h3
      cases h3
      exact .inr ⟨fun h => flagO_none.1 h q h1 rfl, seesB_iff.2 ⟨h4, h5⟩⟩
    · rw [if_neg hq] at h2
      exact .inl ⟨q, h1, h2, m', h3, h4, h5⟩
  · rintro (⟨q, h1, h2, h3⟩ | ⟨h1, h2⟩)
    · refine ⟨q, h1, ?_, h3⟩
      rw [getD_set hk]
      split
      · rfl
      · exact h2
    · cases hf : flagO d.fl k with
      | none => exact absurd hf h1
      | some b =>
        obtain ⟨q, h3, rfl⟩ := flagO_some hf
        obtain ⟨h4, h5⟩ := seesB_iff.1 h2
        exact ⟨q, h3, by rw [getD_set hk, if_pos rfl], m, hm, h4, h5⟩
/-- a marked operation that is not done finds what it sees -/
theorem takX_flag {d : DR} {L : List Bool} {k m i : Nat} (hn : L.toArray.getD k false = false) (hm : d.ms[k]? = some m) (hf : flagO d.fl k ≠ none) (hs : seesB d.fl d.ms m k i = true) : ¬ takX d L i := by
  rintro ⟨q, h1, h2, m', h3, h4, h5⟩
  obtain ⟨h6, h7⟩ := seesB_iff.1 hs
  rcases Nat.lt_trichotomy q.1 k with h | h | h
  · rw [usedB_iff.2 ⟨q, h1, h, m', h3, h4⟩] at h7; cases h7
  · rw [h, hn] at h2; cases h2
  · cases hff : flagO d.fl k with
    | none => exact absurd hff hf
    | some b =>
      obtain ⟨q', h8, h9⟩ := flagO_some hff
      rw [usedB_iff.2 ⟨q', h8, by omega, m, by rw [h9]; exact hm, h6⟩] at h5
      cases h5
theorem safeD_cons (bl ms : List Nat) (m tk : Nat) (p : ND) (ps : List ND) : safeD bl ms m tk (p :: ps) = (match bitN' m p.i with
    | true => safeD bl ms m tk ps
    | false => (match memK p.i bl with
      | true => safeD bl ms m tk ps
      | false => (match nthN p.i ms with
        | some mk => (match Nat.land mk tk with | 0 => safeD bl ms m tk ps | _ => false)
        | none => false))) := rfl
theorem safeD_spec {bl ms : List Nat} {m tk : Nat} : ∀ {ps : List ND}, safeD bl ms m tk ps = true → ∀ p ∈ ps, bitN' m p.i = false → memK p.i bl = false → ∃ mk, ms[p.i]? = some mk ∧ Nat.land mk tk = 0
  | [], _, p, hp, _, _ => by simp at hp
  | q :: ps, h, p, hp, hb, hbl => by
    rw [safeD_cons] at h
    rcases List.mem_cons.1 hp with rfl | hp
    · rw [hb, hbl] at h
      simp only at h
      split at h
      · rename_i mk hmk
        rw [nthN_eq] at hmk
        split at h
        · rename_i h0; exact ⟨mk, hmk, h0⟩
        · cases h
      · cases h
    · split at h
      · exact safeD_spec h p hp hb hbl
      · split at h
        · exact safeD_spec h p hp hb hbl
        · split at h
          · split at h
            · exact safeD_spec h p hp hb hbl
            · cases h
          · cases h
theorem safe0_spec {bl ms : List Nat} {m tk : Nat} {ps : List ND} (h : safe0 bl ms m tk ps = true) : ∀ p ∈ ps, bitN' m p.i = false → memK p.i bl = false → tk = 0 ∨ ∃ mk, ms[p.i]? = some mk ∧ Nat.land mk tk = 0 := by
  intro p hp hb hbl
  unfold safe0 at h
  split at h
  · exact .inl rfl
  · exact .inr (safeD_spec h p hp hb hbl)
theorem takenD_cons (fl : List (Nat × Bool)) (ms : List Nat) (m k : Nat) (p : ND) (ps : List ND) : takenD fl ms m k (p :: ps) = (match p.m with
    | [] => takenD fl ms m k ps
    | _ => match seesB fl ms m k p.i with
      | true => Nat.lor (Nat.pow 2 p.i) (takenD fl ms m k ps)
      | false => takenD fl ms m k ps) := rfl
theorem takenD_bit {fl : List (Nat × Bool)} {ms : List Nat} {m k : Nat} : ∀ {ps : List ND} {p : ND}, p ∈ ps → p.m ≠ [] → seesB fl ms m k p.i = true → bitN' (takenD fl ms m k ps) p.i = true
  | [], p, hp, _, _ => by simp at hp
  | q :: ps, p, hp, hm, hs => by
    rw [takenD_cons]
    rcases List.mem_cons.1 hp with rfl | hp
    · split
      · rename_i h; exact absurd h hm
      · rw [hs]
        rw [bit_lor, bit_pow]
        simp
    · have ih := takenD_bit (fl := fl) (ms := ms) (m := m) (k := k) hp hm hs
      split
      · exact ih
      · split
        · rw [bit_lor, ih]; simp
        · exact ih
/-- an operation that is not done finds what it may look at -/
theorem takX_read {d : DR} {ps : List ND} (hps : NodesOk d ps) {L : List Bool} (hc : Cl d.ms L) (hlt : ∀ j, L.toArray.getD j false = true → j < ps.length) {p q : ND} {m : Nat} (hp : p ∈ ps) (hq : q ∈ ps) (hpi : ∀ A B, ps = A ++ p :: B → True)
    (hbl : memK p.i d.bl = false) (hn : L.toArray.getD p.i false = false) (hm : d.ms[p.i]? = some m) (hqm : q.m ≠ []) (hs : seesB d.fl d.ms m p.i q.i = true) (hmem : ∀ (A : List ND) (j : ND) (B : List ND), ps = A ++ j :: B → p.i < j.i → p ∈ B) (hmem' : ∀ (A : List ND) (j : ND) (B : List ND), ps = A ++ j :: B → q.i < j.i → q ∈ B) : ¬ takX d L q.i := by
  rintro ⟨f, h1, h2, m', h3, h4, h5⟩
  obtain ⟨h6, h7⟩ := seesB_iff.1 hs
  rcases Nat.lt_trichotomy f.1 p.i with h | h | h
  · rw [usedB_iff.2 ⟨f, h1, h, m', h3, h4⟩] at h7; cases h7
  · rw [h, hn] at h2; cases h2
  · obtain ⟨A, j, B, o, mj, rw, ro', md, r, e1, e2, e3, e4⟩ := hps.get (hlt _ h2)
    have hpB := hmem A j B e1 (by omega)
    have hmj := e3.msk
    rw [e4, h3] at hmj
    cases hmj
    have hbp : bitN' m' p.i = false := by
      cases hb : bitN' m' p.i with
      | false => rfl
      | true =>
        have := hc _ h2 m' h3 _ hb
        rw [hn] at this
        cases this
    have hqj : q.i < f.1 := by
      have := bit_lt e3.lt h4
      omega
    have hqB := hmem' A j B e1 (by omega)
    have hmo := e3.mem
    unfold memO at hmo
    split at hmo
    · rename_i hf
      exact (flagO_none.1 hf f h1 e4.symm).elim
    · split at hmo
      · rename_i hsafe
        rcases safe0_spec hsafe p hpB hbp hbl with h8 | ⟨mk, h8, h9⟩
        · have := takenD_bit (fl := d.fl) (ms := d.ms) (m := m') (k := j.i) hqB hqm (by rw [e4]; exact seesB_iff.2 ⟨h4, h5⟩)
          rw [h8, bitN'_eq] at this
          simp at this
        · rw [hm] at h8
          cases h8
          have h10 := takenD_bit (fl := d.fl) (ms := d.ms) (m := m') (k := j.i) hqB hqm (by rw [e4]; exact seesB_iff.2 ⟨h4, h5⟩)
          rw [bitN'_eq] at h10 h6
          have h11 : (Nat.land m (takenD d.fl d.ms m' j.i B)).testBit q.i = true := by
            show (m &&& takenD d.fl d.ms m' j.i B).testBit q.i = true
            rw [Nat.testBit_and, h6, h10]
            rfl
          rw [h9] at h11
          simp at h11
      · cases hmo
end Go.Y

namespace Go.Y
open Go Go.X
theorem NodesOk.above {d : DR} : ∀ {A : List ND} {j : ND} {B : List ND} (_ : NodesOk d (A ++ j :: B)), ∀ x ∈ A, j.i < x.i
  | [], _, _, _, x, hx => by simp at hx
  | y :: A, j, B, h, x, hx => by
    cases h with
    | cons h hy =>
      rcases List.mem_cons.1 hx with rfl | hx
      · rw [hy.i]
        exact NodesOk.lt h (by simp)
      · exact NodesOk.above h x hx
theorem NodesOk.belw {d : DR} {A : List ND} {j : ND} {B : List ND} (h : NodesOk d (A ++ j :: B)) {q : ND} (hq : q ∈ A ++ j :: B) (hlt : q.i < j.i) : q ∈ B := by
  rcases List.mem_append.1 hq with h1 | h1
  · have := NodesOk.above h q h1; omega
  · rcases List.mem_cons.1 h1 with rfl | h1
    · omega
    · exact h1
theorem NodesOk.tail {d : DR} : ∀ {A B : List ND} (_ : NodesOk d (A ++ B)), NodesOk d B
  | [], _, h => h
  | _ :: A, _, h => by
    cases h with
    | cons h _ => exact NodesOk.tail (A := A) h
theorem memsD_cons (fl : List (Nat × Bool)) (ms : List Nat) (m k : Nat) (p : ND) (ps : List ND) : memsD fl ms m k (p :: ps) = (match p.m with
    | [] => memsD fl ms m k ps
    | h => match seesB fl ms m k p.i with
      | true => h :: memsD fl ms m k ps
      | false => memsD fl ms m k ps) := rfl
theorem memsD_mem {fl : List (Nat × Bool)} {ms : List Nat} {m k : Nat} : ∀ {ps : List ND} {h : CH}, h ∈ memsD fl ms m k ps → ∃ q ∈ ps, h = q.m ∧ q.m ≠ [] ∧ seesB fl ms m k q.i = true
  | [], h, hh => by simp [show memsD fl ms m k [] = [] from rfl] at hh
  | p :: ps, h, hh => by
    rw [memsD_cons] at hh
    split at hh
    · obtain ⟨q, h1, h2⟩ := memsD_mem hh
      exact ⟨q, by simp [h1], h2⟩
    · rename_i x hx
      split at hh
      · rename_i hs
        rcases List.mem_cons.1 hh with h1 | h1
        · exact ⟨p, by simp, h1, fun e => hx e, hs⟩
        · obtain ⟨q, h2, h3⟩ := memsD_mem h1
          exact ⟨q, by simp [h2], h3⟩
      · obtain ⟨q, h1, h2⟩ := memsD_mem hh
        exact ⟨q, by simp [h1], h2⟩
theorem takeD_cons (fl : List (Nat × Bool)) (ms : List Nat) (m k : Nat) (p : ND) (ps : List ND) : takeD fl ms m k (p :: ps) = (match seesB fl ms m k p.i with
      | true => appN p.m (takeD fl ms m k ps)
      | false => takeD fl ms m k ps) := rfl
theorem takeD_eq {fl : List (Nat × Bool)} {ms : List Nat} {m k : Nat} : ∀ (ps : List ND), takeD fl ms m k ps = (ps.filter fun q => seesB fl ms m k q.i).flatMap (·.m)
  | [] => rfl
  | p :: ps => by
    rw [takeD_cons, List.filter_cons, takeD_eq ps]
    cases seesB fl ms m k p.i
    · rfl
    · simp only [if_true, List.flatMap_cons, appN_eq]
open Classical in
/-- a node whose memory is there -/
noncomputable def keepB (d : DR) (L : List Bool) (p : ND) : Bool := L.toArray.getD p.i false && decide (¬ takX d L p.i)
theorem keepB_iff {d : DR} {L : List Bool} {p : ND} : keepB d L p = true ↔ L.toArray.getD p.i false = true ∧ ¬ takX d L p.i := by
  unfold keepB
  simp
/-- what is known while the operations of a drawn region are done, in whatever order -/
structure Inv (c : Cx) (d : DR) (F : List Blk) (ρ0 : Asg) (ds0 : List Deferred) (ps : List ND) (L : List Bool) (a : Act) (w : World) (ρ : Asg) (LN LU LS : List Blk) : Prop where
  lo : Asg.leN d.nx0 ρ0 ρ
  dom : ∀ j r, ρ j = some r → d.nx0 ≤ j → ∃ A p B, ps = A ++ p :: B ∧ L.toArray.getD p.i false = true ∧ nxO d.nx0 B ≤ j ∧ j < p.nx
  size : a.tmps.size = c.n
  dfr : a.defers = ds0
  old : ∀ t y, (∀ p ∈ ps, p.d ≠ some t) → d.e.get t = some y → val ρ0 y = some (a.tmps.getD t undef)
  vals : ∀ p ∈ ps, L.toArray.getD p.i false = true → ∀ t, p.d = some t → val (ρ.cut p.nx) p.v = some (a.tmps.getD t undef)
  mem : memL d.pg ρ (ps.filter (keepB d L)) = some LN
  us : hb d.pg ρ0 (restU L d.us) = some LU
  sh : hb d.pg ρ0 d.sh = some LS
  kn : Kn0 c.W c.S (LN ++ (LU ++ (LS ++ F))) w
theorem findD_cons (t : Nat) (p : ND) (ps : List ND) : findD t (p :: ps) = (match p.d with
    | some d => (match Nat.beq d t with | true => some p | false => findD t ps)
    | none => findD t ps) := rfl
theorem findD_spec {t : Nat} : ∀ {ps : List ND} {p : ND}, findD t ps = some p → p ∈ ps ∧ p.d = some t
  | [], p, h => by cases (show (none : Option ND) = some p from h)
  | q :: ps, p, h => by
    rw [findD_cons] at h
    split at h
    · rename_i d hd
      split at h
      · rename_i hb
        cases h
        have := Nat.eq_of_beq_eq_true hb
        subst this
        exact ⟨by simp, hd⟩
      · obtain ⟨h1, h2⟩ := findD_spec h
        exact ⟨by simp [h1], h2⟩
    · obtain ⟨h1, h2⟩ := findD_spec h
      exact ⟨by simp [h1], h2⟩
theorem isDst_cons (t : Nat) (o : Oper) (l : List Oper) : isDst t (o :: l) = (match o.dst with
    | some d => (match Nat.beq d t with | true => true | false => isDst t l)
    | none => isDst t l) := rfl
theorem isDst_of {t : Nat} : ∀ {l : List Oper} {j : Nat} {o : Oper}, l[j]? = some o → o.dst = some t → isDst t l = true
  | [], j, o, h, _ => by simp at h
  | x :: l, j, o, h, hd => by
    rw [isDst_cons]
    cases j with
    | zero =>
      simp only [List.getElem?_cons_zero, Option.some.injEq] at h
      subst h
      rw [hd]
      simp [nbeq]
    | succ j =>
      have ih := isDst_of (l := l) (j := j) (by simpa using h) hd
      split
      · split
        · rfl
        · exact ih
      · exact ih
theorem NodesOk.dst {d : DR} : ∀ {ps : List ND} (_ : NodesOk d ps) {p : ND}, p ∈ ps → ∃ o, d.all[p.i]? = some o ∧ p.d = o.dst
  | [], _, p, hp => by simp at hp
  | q :: ps, h, p, hp => by
    cases h with
    | cons h hq =>
      rcases List.mem_cons.1 hp with rfl | hp
      · exact ⟨_, hq.op, hq.d'⟩
      · exact NodesOk.dst h hp
/-- what the operation k looks at -/
theorem Inv.look {c : Cx} {d : DR} {F : List Blk} {ρ0 : Asg} {ds0 : List Deferred} {A : List ND} {p : ND} {B : List ND} {L : List Bool} {a : Act} {w : World} {ρ : Asg} {LN LU LS : List Blk} (h : Inv c d F ρ0 ds0 (A ++ p :: B) L a w ρ LN LU LS)
    (hf0 : ρ0.free d.nx0) (hps : NodesOk d (A ++ p :: B)) (hB : NodesOk d B) {m : Nat} (hmk : ∀ j, bitN' m j = true → L.toArray.getD j false = true) : okT (ρ.cut (nxO d.nx0 B)) c.n (lookD d.all d.e B m) a.tmps := by
  obtain ⟨hn1, hn2⟩ := hB.nxle
  refine ⟨h.size, fun t y hy => ?_⟩
  unfold lookD at hy
  split at hy
  · rename_i q hq
    split at hy
    · rename_i hb
      cases hy
      obtain ⟨h1, h2⟩ := findD_spec hq
      have := h.vals q (by simp [h1]) (hmk _ hb) t h2
      exact val_mono (ρ.cut_le (hn1 q h1)) this
    · cases hy
  · split at hy
    · cases hy
    · rename_i hd
      exact val_mono (Asg.le_cut hf0 h.lo hn2) (h.old t y (fun q hq e => by
        obtain ⟨o, h1, h2⟩ := hps.dst hq
        rw [isDst_of h1 (h2 ▸ e)] at hd
        cases hd) hy)
end Go.Y

namespace Go.Y
open Go Go.X
theorem dstOk_cons (o : Oper) (l : List Oper) : dstOk (o :: l) = (match o.dst with
    | some d => (match isDst d l with | true => false | false => dstOk l)
    | none => dstOk l) := rfl
theorem dst_ne : ∀ {l : List Oper} (_ : dstOk l = true) {i j : Nat} {o o' : Oper} {t : Nat}, l[i]? = some o → l[j]? = some o' → o.dst = some t → o'.dst = some t → i = j
  | [], _, i, j, o, o', t, h1, _, _, _ => by simp at h1
  | x :: l, h, i, j, o, o', t, h1, h2, h3, h4 => by
    rw [dstOk_cons] at h
    have key : ∀ {y : Oper} {n : Nat}, x.dst = some t → l[n]? = some y → y.dst = some t → False := by
      intro y n hx hy hyd
      rw [hx] at h
      simp only at h
      rw [isDst_of hy hyd] at h
      cases h
    have hl : dstOk l = true := by
      split at h
      · split at h
        · cases h
        · exact h
      · exact h
    cases i with
    | zero =>
      simp only [List.getElem?_cons_zero, Option.some.injEq] at h1
      subst h1
      cases j with
      | zero => rfl
      | succ j => exact (key h3 (by simpa using h2) h4).elim
    | succ i =>
      cases j with
      | zero =>
        simp only [List.getElem?_cons_zero, Option.some.injEq] at h2
        subst h2
        exact (key h4 (by simpa using h1) h3).elim
      | succ j => rw [dst_ne hl (i := i) (j := j) (by simpa using h1) (by simpa using h2) h3 h4]
section
variable {c : Cx} {d : DR} {F : List Blk} {ρ0 : Asg} {ds0 : List Deferred} {A : List ND} {p : ND} {B : List ND} {o : Oper} {m : Nat} {rw : CH} {ro' : List CH} {md : List Nat} {r : O2} {L : List Bool} {a : Act} {w : World} {ρ : Asg} {LN LU LS : List Blk}
theorem put_getD {a : Act} {n : Nat} (hs : a.tmps.size = n) {dst : Option Nat} (hd : ∀ t, dst = some t → t < n) (v : Value) (t : Nat) : (a.put dst v).tmps.getD t undef = if dst = some t then v else a.tmps.getD t undef := by
  cases dst with
  | none => simp [Act.put]
  | some u =>
    have hlt := hd u rfl
    by_cases h : u = t
    · subst h
      simp [Act.put, Array.getD_eq_getD_getElem?, hs, hlt]
    · simp [Act.put, Array.getD_eq_getD_getElem?, h]
/-- an operation has been done -/
theorem Inv.done (hinv : Inv c d F ρ0 ds0 (A ++ p :: B) L a w ρ LN LU LS) (hps : NodesOk d (A ++ p :: B)) (hp : NodeOk d B p o m rw ro' md r) (hdst : dstOk d.all = true) (hd : ∀ t, o.dst = some t → t < c.n) (hf0 : ρ0.free d.nx0)
    (hk : p.i < L.length) (hnd : L.toArray.getD p.i false = false) {lr : List ND} {LR LU' : List Blk} (hlr : memL d.pg ρ lr = some LR) (hperm : (p :: lr).Perm ((A ++ p :: B).filter (keepB d (L.set p.i true)))) (hU : hb d.pg ρ0 (restU (L.set p.i true) d.us) = some LU')
    {ρ' : Asg} {v : Value} {L' : List Blk} {w' : World} (hpost : Post c d.pg (ρ.cut (nxO d.nx0 B)) (LR ++ (LU' ++ (LS ++ F))) ⟨rw, ro', nxO d.nx0 B, md⟩ r ρ' v L' w') :
    ∃ ρn LNn, Inv c d F ρ0 ds0 (A ++ p :: B) (L.set p.i true) (a.put o.dst v) w' ρn LNn LU' LS := by
  have hB := (NodesOk.tail (A := A) hps)
  have hB' : NodesOk d B := NodesOk.tail (A := [p]) hB
  obtain ⟨hn1, hn2⟩ := hB'.nxle
  let nk := nxO d.nx0 B
  let ρn := ρ.mix ρ' nk p.nx
  have hlow : ∀ j, j < nk → ρ' j = ρ j := by
    intro j hj
    rw [hpost.lo.2 j hj]
    simp [Asg.cut, nk, hj] 
  have hnone : ∀ j x, ρ j = some x → ¬ (nk ≤ j ∧ j < p.nx) := by
    rintro j x hj ⟨h1, h2⟩
    obtain ⟨A2, q, B2, e, h3, h4, h5⟩ := hinv.dom j x hj (by have := hn2; omega)
    have hq : q ∈ A ++ p :: B := by rw [e]; simp
    rcases Nat.lt_trichotomy q.i p.i with h | h | h
    · have := hn1 q (NodesOk.belw hps hq h); omega
    · rw [h, hnd] at h3; cases h3
    · have hps2 : NodesOk d (A2 ++ q :: B2) := by rw [← e]; exact hps
      have hpB : p ∈ B2 := NodesOk.belw hps2 (by rw [← e]; simp) h
      have := ((NodesOk.tail (A := [q]) (NodesOk.tail (A := A2) hps2)).nxle).1 p hpB
      omega
  have hle : ρ.le ρn := fun j x hj => by
    show (if nk ≤ j ∧ j < p.nx then ρ' j else ρ j) = some x
    rw [if_neg (hnone j x hj)]
    exact hj
  have hcut : ∀ n, (ρ.cut n).le (ρn.cut n) := fun n j x hj => by
    unfold Asg.cut at hj ⊢
    split at hj
    · rename_i h; rw [if_pos h]; exact hle j x hj
    · cases hj
  have hle' : ρ'.le (ρn.cut p.nx) := fun j x hj => by
    have hlt : j < p.nx := by
      rcases Nat.lt_or_ge j p.nx with h | h
      · exact h
      · rw [hpost.free j (by rw [← hp.nx]; exact h)] at hj; cases hj
    unfold Asg.cut
    rw [if_pos hlt]
    show (if nk ≤ j ∧ j < p.nx then ρ' j else ρ j) = some x
    by_cases h : nk ≤ j
    · rw [if_pos ⟨h, hlt⟩]; exact hj
    · rw [if_neg (by omega), ← hlow j (by omega)]; exact hj
  obtain ⟨L1, h1, h2⟩ := hb_mono hle' hpost.rw
  rw [← hp.m'] at h1
  obtain ⟨LR', h3, h4⟩ := memL_mono (fun q _ => hcut q.nx) hlr
  obtain ⟨LNn, h5, h6⟩ := memL_perm hperm (memL_mk h1 h3)
  refine ⟨ρn, LNn, ⟨⟨hinv.lo.1.trans hle, fun j hj => ?_⟩, fun j x hj hj0 => ?_, ?_, ?_, ?_, ?_, h5, hU, hinv.sh, ?_⟩⟩
  · show (if nk ≤ j ∧ j < p.nx then ρ' j else ρ j) = ρ0 j
    rw [if_neg (by have := hn2; omega)]
    exact hinv.lo.2 j hj
  · by_cases h : nk ≤ j ∧ j < p.nx
    · exact ⟨A, p, B, rfl, by rw [getD_set hk, if_pos rfl], h.1, h.2⟩
    · have hj' : ρ j = some x := by
        have : (if nk ≤ j ∧ j < p.nx then ρ' j else ρ j) = some x := hj
        rwa [if_neg h] at this
      obtain ⟨A2, q, B2, e, g1, g2⟩ := hinv.dom j x hj' hj0
      refine ⟨A2, q, B2, e, ?_, g2⟩
      rw [getD_set hk]
      split
      · rfl
      · exact g1
  · cases o.dst <;> simp [Act.put, hinv.size]
  · rw [put_defers]; exact hinv.dfr
  · intro t y ht hy
    rw [put_getD hinv.size hd, if_neg]
    · exact hinv.old t y ht hy
    · intro e
      exact ht p (by simp) (by rw [hp.d']; exact e)
  · intro q hq hqd t ht
    rw [put_getD hinv.size hd]
    by_cases hqp : q.i = p.i
    · have hqq : q = p := by
        rcases List.mem_append.1 hq with h | h
        · have := NodesOk.above hps q h; omega
        · rcases List.mem_cons.1 h with h | h
          · exact h
          · have := NodesOk.lt hB' h; rw [hp.i] at hqp; omega
      subst hqq
      rw [if_pos (by rw [← hp.d']; exact ht), hp.v]
      exact val_mono hle' hpost.v
    · rw [getD_set hk, if_neg hqp] at hqd
      have h7 := hinv.vals q hq hqd t ht
      obtain ⟨o', h8, h9⟩ := hps.dst hq
      rw [if_neg]
      · exact val_mono (hcut q.nx) h7
      · intro e
        exact hqp (dst_ne hdst h8 hp.op (by rw [← h9]; exact ht) e)
  · refine Kn0.hsub hpost.k ?_
    refine HSub.trans (HSub.app2 (B' := LU' ++ (LS ++ F)) (HSub.perm h6) (HSub.refl _)) ?_
    rw [List.append_assoc]
    exact h2.app2 (h4.app2 (HSub.refl _))
end
end Go.Y

namespace Go.Y
open Go Go.X
section
variable {c : Cx} {d : DR} {F : List Blk} {ρ0 : Asg} {ds0 : List Deferred} {A : List ND} {p : ND} {B : List ND} {o : Oper} {m : Nat} {rw : CH} {ro' : List CH} {md : List Nat} {r : O2} {L : List Bool} {a : Act} {w : World} {ρ : Asg} {LN LU LS : List Blk}
theorem bool_eq {a b : Bool} (h : a = true ↔ b = true) : a = b := by cases a <;> cases b <;> simp_all
theorem ne_i (hps : NodesOk d (A ++ p :: B)) {q : ND} (hq : q ∈ A ∨ q ∈ B) : q.i ≠ p.i := by
  rcases hq with h | h
  · have := NodesOk.above hps q h; omega
  · have h1 := NodesOk.tail (A := A) hps
    cases h1 with
    | cons h2 h3 => have := NodesOk.lt h2 h; rw [h3.i]; omega
/-- the nodes whose memory is there, one operation later -/
theorem keep_set (hps : NodesOk d (A ++ p :: B)) (hk : p.i < L.length) (hnd : L.toArray.getD p.i false = false) (hc : Cl d.ms L) (hM : bitN' m p.i = false) (hm : d.ms[p.i]? = some m) :
    (p :: (A ++ p :: B).filter (fun q => keepB d L q && !(decide (flagO d.fl p.i ≠ none) && seesB d.fl d.ms m p.i q.i))).Perm ((A ++ p :: B).filter (keepB d (L.set p.i true))) := by
  have hp1 : keepB d L p = false := by
    cases h : keepB d L p with
    | false => rfl
    | true => rw [(keepB_iff.1 h).1] at hnd; cases hnd
  have hp2 : keepB d (L.set p.i true) p = true := by
    refine keepB_iff.2 ⟨by rw [getD_set hk, if_pos rfl], fun h => ?_⟩
    rcases (takX_set hk hm p.i).1 h with h | ⟨_, h⟩
    · exact takX_self hc hnd h
    · rw [(seesB_iff.1 h).1] at hM; cases hM
  have hq : ∀ q, q ∈ A ∨ q ∈ B → (keepB d L q && !(decide (flagO d.fl p.i ≠ none) && seesB d.fl d.ms m p.i q.i)) = keepB d (L.set p.i true) q := by
    intro q hq
    have hne := ne_i hps hq
    refine bool_eq ?_
    rw [keepB_iff, getD_set hk, if_neg hne, takX_set hk hm]
    simp only [Bool.and_eq_true, keepB_iff, Bool.not_eq_true', Bool.and_eq_false_iff, decide_eq_false_iff_not, Classical.not_not]
    constructor
    · rintro ⟨⟨h1, h2⟩, h3⟩
      refine ⟨h1, ?_⟩
      rintro (h4 | ⟨h4, h5⟩)
      · exact h2 h4
      · rcases h3 with h3 | h3
        · exact h4 h3
        · rw [h3] at h5; cases h5
    · rintro ⟨h1, h2⟩
      refine ⟨⟨h1, fun h => h2 (.inl h)⟩, ?_⟩
      by_cases h3 : flagO d.fl p.i = none
      · exact .inl h3
      · cases h4 : seesB d.fl d.ms m p.i q.i with
        | false => exact .inr rfl
        | true => exact absurd (.inr ⟨h3, h4⟩) h2
  rw [List.filter_append, List.filter_append, List.filter_cons, List.filter_cons, hp1, hp2]
  simp only [Bool.false_and, Bool.false_eq_true, if_false, if_true]
  rw [List.filter_congr (fun q h => hq q (.inl h)), List.filter_congr (l := B) (fun q h => hq q (.inr h))]
  exact List.perm_middle.symm
/-- one operation of a drawn region -/
theorem nodeStep (hcT : c.T = d.pg.T) (hok : PgOk c.P d.pg) (hv : VCS c d.pg d.D d.rc) (hn : d.n = c.n) (hdst : dstOk d.all = true) (hgl : ρ0.gl) (hf0 : ρ0.free d.nx0) (h1000 : 1000 ≤ d.nx0) (hro : RdOk c.W c.S d.pg ρ0 d.ro F)
    (hps : NodesOk d (A ++ p :: B)) (hp : NodeOk d B p o m rw ro' md r) (hinv : Inv c d F ρ0 ds0 (A ++ p :: B) L a w ρ LN LU LS) (hc : Cl d.ms L) (hlt : ∀ j, L.toArray.getD j false = true → j < (A ++ p :: B).length) (hk : p.i < L.length)
    (hnd : L.toArray.getD p.i false = false) (hmk : ∀ j, bitN' m j = true → L.toArray.getD j false = true) {Q : Exit → Act → World → Prop} {K : Act → World → Prop}
    (hK : ∀ a' w', (∃ ρ LN LU, Inv c d F ρ0 ds0 (A ++ p :: B) (L.set p.i true) a' w' ρ LN LU LS) → K a' w') :
    (if Region.wanted o (yielded d.all.toArray a.tmps) then o.wpIn c.F 0 c.P a w K Q else (∀ f, o.about c.P w a.eval = some f → c.F.fn f) ∧ K (a.put o.dst undef) w) := by
  have hst := hp.step
  rw [hn] at hst
  obtain ⟨hd, hs⟩ := stepO_s hcT hok hv hst
  have hB : NodesOk d B := NodesOk.tail (A := [p]) (NodesOk.tail (A := A) hps)
  obtain ⟨hn1, hn2⟩ := hB.nxle
  have hlook := hinv.look hf0 hps hB hmk
  have hle0 := Asg.le_cut hf0 hinv.lo hn2
  have hM : bitN' m p.i = false := by
    cases h : bitN' m p.i with
    | false => rfl
    | true => have := hmk _ h; rw [hnd] at this; cases this
  have hkeep := keep_set hps hk hnd hc hM hp.msk
  have hmem := hp.mem
  unfold memO at hmem
  have hgl' : (ρ.cut (nxO d.nx0 B)).gl := hgl.mono hle0
  split at hmem
  · -- it makes what is its own
    rename_i hfl
    obtain ⟨LU', hU, hUs⟩ := hb_sub (restU_sub hk d.us) hinv.us
    obtain ⟨rds, hrd, rfl, rfl⟩ : ∃ rds : List CH, (∀ h ∈ rds, memK p.i d.bl = false ∧ h ∈ memsD d.fl d.ms m p.i B) ∧ ([] : CH) = rw ∧ rds ++ (d.sh :: d.ro) = ro' := by
      split at hmem
      · cases hmem; exact ⟨[], by simp, rfl, rfl⟩
      · rename_i hbl
        cases hmem
        exact ⟨_, fun h hh => ⟨hbl, hh⟩, rfl, (appN_eq _ _).symm⟩
    have hfil : (A ++ p :: B).filter (fun q => keepB d L q && !(decide (flagO d.fl p.i ≠ none) && seesB d.fl d.ms m p.i q.i)) = (A ++ p :: B).filter (keepB d L) := by
      refine List.filter_congr fun q _ => ?_
      simp [hfl]
    rw [hfil] at hkeep
    refine hs (ρ.cut (nxO d.nx0 B)) (LN ++ (LU' ++ (LS ++ F))) [] a w Q K ⟨hgl', ρ.cut_free _, by show 1000 ≤ nxO d.nx0 B; omega, ?_, rfl, ?_⟩ hlook ?_
    · intro h hh
      rcases List.mem_append.1 hh with hh | hh
      · obtain ⟨hbl, hh⟩ := hrd h hh
        obtain ⟨q, h1, rfl, h2, h3⟩ := memsD_mem hh
        have hqps : q ∈ A ++ p :: B := by simp [h1]
        have hqk : keepB d L q = true := by
          refine keepB_iff.2 ⟨hmk _ (seesB_iff.1 h3).1, ?_⟩
          exact takX_read hps hc hlt (p := p) (by simp) hqps (fun _ _ _ => trivial) hbl hnd hp.msk h2 h3
            (fun A' j B' e hlt' => NodesOk.belw (by rw [← e]; exact hps) (by rw [← e]; simp) hlt') (fun A' j B' e hlt' => NodesOk.belw (by rw [← e]; exact hps) (by rw [← e]; exact hqps) hlt')
        obtain ⟨M, L1, L2, h4, h5⟩ := memL_mem hinv.mem (List.mem_filter.2 ⟨hqps, hqk⟩)
        have := RdOk.of_hb (pg := d.pg) (W := c.W) (S := c.S) (ρ.cut_le (hn1 q h1)) (L1 := L1) (L2 := L2 ++ (LU' ++ (LS ++ F))) h4
        rw [h5]
        simpa only [List.append_assoc] using this
      · rcases List.mem_cons.1 hh with rfl | hh
        · have := RdOk.of_hb (pg := d.pg) (W := c.W) (S := c.S) hle0 (L1 := LN ++ LU') (L2 := F) hinv.sh
          simpa only [List.append_assoc] using this
        · intro q hq
          obtain ⟨B1, h1, h2⟩ := hro.mono hle0 h hh q hq
          refine ⟨B1, h1, fun L0 w0 hk0 => h2 (L0 ++ (LN ++ (LU' ++ LS))) w0 ?_⟩
          simpa only [List.append_assoc] using hk0
    · exact Kn0.hsub hinv.kn ((HSub.refl LN).app2 (hUs.app2 (HSub.refl _)))
    · intro ρ' v L' w' hpost
      obtain ⟨ρn, LNn, h1⟩ := hinv.done hps hp hdst hd hf0 hk hnd hinv.mem hkeep hU hpost
      exact hK _ _ ⟨ρn, LNn, LU', h1⟩
  · -- it takes what others have made
    rename_i b hfl
    split at hmem
    rotate_left
    · cases hmem
    cases hmem
    have hfl' : flagO d.fl p.i ≠ none := by rw [hfl]; simp
    obtain ⟨U, R, hU1, hU2, hU3⟩ := restU_give hk hnd hinv.us
    have hfil : (A ++ p :: B).filter (fun q => keepB d L q && !(decide (flagO d.fl p.i ≠ none) && seesB d.fl d.ms m p.i q.i)) = ((A ++ p :: B).filter (keepB d L)).filter (fun q => !seesB d.fl d.ms m p.i q.i) := by
      rw [List.filter_filter]
      refine List.filter_congr fun q _ => ?_
      simp [hfl, Bool.and_comm]
    rw [hfil] at hkeep
    have hsee : ((A ++ p :: B).filter (keepB d L)).filter (fun q => seesB d.fl d.ms m p.i q.i) = B.filter (fun q => seesB d.fl d.ms m p.i q.i) := by
      rw [List.filter_filter]
      have hA : ∀ q ∈ A, (seesB d.fl d.ms m p.i q.i && keepB d L q) = false := by
        intro q hq
        cases h : seesB d.fl d.ms m p.i q.i with
        | false => rfl
        | true =>
          have h1 := bit_lt hp.lt (seesB_iff.1 h).1
          have := NodesOk.above hps q hq
          omega
      have hp0 : (seesB d.fl d.ms m p.i p.i && keepB d L p) = false := by
        cases h : seesB d.fl d.ms m p.i p.i with
        | false => rfl
        | true => rw [(seesB_iff.1 h).1] at hM; cases hM
      have hBq : ∀ q ∈ B, (seesB d.fl d.ms m p.i q.i && keepB d L q) = seesB d.fl d.ms m p.i q.i := by
        intro q _
        cases h : seesB d.fl d.ms m p.i q.i with
        | false => rfl
        | true =>
          simp only [Bool.true_and]
          exact keepB_iff.2 ⟨hmk _ (seesB_iff.1 h).1, takX_flag hnd hp.msk hfl' h⟩
      rw [List.filter_append, List.filter_cons, hp0, List.filter_eq_nil_iff.2 (fun q hq => by rw [hA q hq]; simp)]
      simp only [Bool.false_eq_true, if_false, List.nil_append]
      exact List.filter_congr hBq
    have hsplit : ((A ++ p :: B).filter (keepB d L)).Perm (B.filter (fun q => seesB d.fl d.ms m p.i q.i) ++ ((A ++ p :: B).filter (keepB d L)).filter (fun q => !seesB d.fl d.ms m p.i q.i)) := by
      rw [← hsee]
      exact (List.filter_append_perm _ _).symm
    obtain ⟨LX, h1, h2⟩ := memL_perm hsplit hinv.mem
    obtain ⟨LT, LR, h3, h4, rfl⟩ := memL_app h1
    obtain ⟨LT', h5, h6⟩ := memL_hb (n := nxO d.nx0 B) (fun q hq => hn1 q (List.mem_filter.1 hq).1) h3
    obtain ⟨U', h7, h8⟩ := hb_mono hle0 hU1
    rw [appN_eq, takeD_eq] at hs
    refine hs (ρ.cut (nxO d.nx0 B)) (LR ++ (R ++ (LS ++ F))) (LT' ++ U') a w Q K ⟨hgl', ρ.cut_free _, by show 1000 ≤ nxO d.nx0 B; omega, ?_, hb_app h5 h7, ?_⟩ hlook ?_
    · intro h hh
      rcases List.mem_cons.1 hh with rfl | hh
      · have := RdOk.of_hb (pg := d.pg) (W := c.W) (S := c.S) hle0 (L1 := LR ++ R) (L2 := F) hinv.sh
        simpa only [List.append_assoc] using this
      · intro q hq
        obtain ⟨B1, g1, g2⟩ := hro.mono hle0 h hh q hq
        refine ⟨B1, g1, fun L0 w0 hk0 => g2 (L0 ++ (LR ++ (R ++ LS))) w0 ?_⟩
        simpa only [List.append_assoc] using hk0
    · -- the memory is parted
      refine Kn0.hsub hinv.kn (HSub.trans ?_ (HSub.app2 (HSub.trans ((h6.app2 (HSub.refl LR))) (HSub.perm h2)) (HSub.app2 (HSub.trans (h8.app2 (HSub.refl R)) hU3) (HSub.refl (LS ++ F)))))
      refine HSub.perm ?_
      simp only [List.append_assoc]
      refine List.Perm.append_left _ ?_
      have := (List.perm_append_comm (l₁ := LR) (l₂ := U')).append_right (R ++ (LS ++ F))
      simpa only [List.append_assoc] using this
    · intro ρ' v L' w' hpost
      obtain ⟨ρn, LNn, g1⟩ := hinv.done hps hp hdst hd hf0 hk hnd h4 hkeep hU2 (by rw [appN_eq, takeD_eq]; exact hpost)
      exact hK _ _ ⟨ρn, LNn, R, g1⟩
end
end Go.Y

namespace Go.Y
open Go Go.X
section
variable {pg : Pg}
theorem hb_perm {ρ : Asg} {h h' : CH} (hp : h.Perm h') : ∀ {L : List Blk}, hb pg ρ h = some L → ∃ L', hb pg ρ h' = some L' ∧ L.Perm L' := by
  induction hp with
  | nil => intro L hL; exact ⟨L, hL, .refl _⟩
  | cons p _ ih =>
    intro L hL
    obtain ⟨A, L1, h1, h2, rfl⟩ := hb_cons (i := p.1) (b := p.2) hL
    obtain ⟨L2, h3, h4⟩ := ih h2
    exact ⟨_, hb_mk h1 h3, h4.cons _⟩
  | swap p q l =>
    intro L hL
    obtain ⟨A, L1, h1, h2, rfl⟩ := hb_cons (i := q.1) (b := q.2) hL
    obtain ⟨A', L2, h3, h4, rfl⟩ := hb_cons (i := p.1) (b := p.2) h2
    exact ⟨_, hb_mk h3 (hb_mk h1 h4), .swap _ _ _⟩
  | trans _ _ ih1 ih2 =>
    intro L hL
    obtain ⟨L1, h1, h2⟩ := ih1 hL
    obtain ⟨L2, h3, h4⟩ := ih2 h1
    exact ⟨L2, h3, h2.trans h4⟩
end
theorem insB_cons (i : Nat) (b : CB) (p : Nat × CB) (h : CH) : insB i b (p :: h) = (match Nat.blt i p.1 with
    | true => p :: insB i b h
    | false => (i, b) :: p :: h) := rfl
theorem insB_perm (i : Nat) (b : CB) : ∀ (h : CH), (insB i b h).Perm ((i, b) :: h)
  | [] => .refl _
  | p :: h => by
    rw [insB_cons]
    split
    · exact ((insB_perm i b h).cons p).trans (.swap _ _ _)
    · exact .refl _
theorem insAll_perm : ∀ (l h : CH), (insAll l h).Perm (l ++ h)
  | [], h => .refl _
  | p :: l, h => by
    show (insB p.1 p.2 (insAll l h)).Perm _
    exact (insB_perm _ _ _).trans ((insAll_perm l h).cons _)
theorem joinD_cons (fl : List (Nat × Bool)) (ms : List Nat) (k nx0 : Nat) (p : ND) (ps : List ND) (sh : CH) : joinD fl ms k nx0 (p :: ps) sh = (match usedB ms p.i k fl with
    | true => joinD fl ms k nx0 ps sh
    | false => match frontH nx0 p.m with
      | (a, old) => appN a (joinD fl ms k nx0 ps (insAll old sh))) := rfl
theorem joinD_perm (fl : List (Nat × Bool)) (ms : List Nat) (k nx0 : Nat) : ∀ (ps : List ND) (sh : CH), (joinD fl ms k nx0 ps sh).Perm ((ps.filter fun p => !usedB ms p.i k fl).flatMap (·.m) ++ sh)
  | [], sh => .refl _
  | p :: ps, sh => by
    rw [joinD_cons, List.filter_cons]
    cases hu : usedB ms p.i k fl with
    | true => exact joinD_perm fl ms k nx0 ps sh
    | false =>
      simp only [Bool.not_false, if_true, List.flatMap_cons, appN_eq]
      have hf := frontH_app nx0 p.m
      have ih := joinD_perm fl ms k nx0 ps (insAll (frontH nx0 p.m).2 sh)
      have h1 : (joinD fl ms k nx0 ps (insAll (frontH nx0 p.m).2 sh)).Perm ((ps.filter fun p => !usedB ms p.i k fl).flatMap (·.m) ++ ((frontH nx0 p.m).2 ++ sh)) := ih.trans (List.Perm.append_left _ (insAll_perm _ _))
      have h2 : ((frontH nx0 p.m).1 ++ joinD fl ms k nx0 ps (insAll (frontH nx0 p.m).2 sh)).Perm ((frontH nx0 p.m).1 ++ ((frontH nx0 p.m).2 ++ ((ps.filter fun p => !usedB ms p.i k fl).flatMap (·.m) ++ sh))) := by
        refine List.Perm.append_left _ (h1.trans ?_)
        rw [← List.append_assoc, ← List.append_assoc]
        exact List.Perm.append_right _ List.perm_append_comm
      refine h2.trans ?_
      rw [← List.append_assoc, hf, List.append_assoc]
theorem putsD_cons (p : ND) (ps : List ND) (e : Tr) : putsD (p :: ps) e = putO p.d p.v (putsD ps e) := rfl
theorem putsF_eq {β : Type} : ∀ (ps : List ND) (e : Tr) (k : Tr → β), putsF ps e k = k (putsD ps e)
  | [], _, _ => rfl
  | p :: ps, e, k => by
    show putsF ps e (fun e => putF p.d p.v e k) = _
    rw [putsF_eq ps, putF_eq]
    rfl
theorem putsD_get : ∀ {ps : List ND} {e : Tr} {t : Nat} {y : CV}, (putsD ps e).get t = some y → (∃ p ∈ ps, p.d = some t ∧ y = p.v) ∨ ((∀ p ∈ ps, p.d ≠ some t) ∧ e.get t = some y)
  | [], e, t, y, h => .inr ⟨by simp, h⟩
  | p :: ps, e, t, y, h => by
    rw [putsD_cons] at h
    cases hd : p.d with
    | none =>
      rw [hd] at h
      rcases putsD_get (ps := ps) h with ⟨q, h1, h2⟩ | ⟨h1, h2⟩
      · exact .inl ⟨q, by simp [h1], h2⟩
      · refine .inr ⟨fun q hq => ?_, h2⟩
        rcases List.mem_cons.1 hq with rfl | hq
        · rw [hd]; simp
        · exact h1 q hq
    | some u =>
      rw [hd] at h
      rcases Tr.get_put 12 (putsD ps e) u p.v t y h with ⟨rfl, rfl⟩ | ⟨hne, h2⟩
      · exact .inl ⟨p, by simp, hd, rfl⟩
      · rcases putsD_get (ps := ps) h2 with ⟨q, h3, h4⟩ | ⟨h3, h4⟩
        · exact .inl ⟨q, by simp [h3], h4⟩
        · refine .inr ⟨fun q hq => ?_, h4⟩
          rcases List.mem_cons.1 hq with rfl | hq
          · rw [hd]; simp only [ne_eq, Option.some.injEq]; exact fun e => hne e.symm
          · exact h3 q hq
theorem memL_sub {pg : Pg} {ρ : Asg} {l l' : List ND} (hs : l'.Sublist l) : ∀ {L : List Blk}, memL pg ρ l = some L → ∃ L', memL pg ρ l' = some L' ∧ HSub L' L := by
  induction hs with
  | slnil => intro L h; exact ⟨L, h, HSub.refl L⟩
  | cons p _ ih =>
    intro L h
    obtain ⟨A, B, h1, h2, rfl⟩ := memL_cons h
    obtain ⟨B', h3, h4⟩ := ih h2
    refine ⟨B', h3, HSub.trans h4 ?_⟩
    exact HSub.app2 (A := A) (A' := []) (HSub.none A) (HSub.refl B)
  | cons_cons p _ ih =>
    intro L h
    obtain ⟨A, B, h1, h2, rfl⟩ := memL_cons h
    obtain ⟨B', h3, h4⟩ := ih h2
    exact ⟨_, memL_mk h1 h3, (HSub.refl A).app2 h4⟩
/-- all are done -/
theorem Inv.fin {c : Cx} {d : DR} {F : List Blk} {ρ0 : Asg} {ds0 : List Deferred} {ps : List ND} {L : List Bool} {a : Act} {w : World} {ρ : Asg} {LN LU LS : List Blk} (h : Inv c d F ρ0 ds0 ps L a w ρ LN LU LS) (hps : NodesOk d ps) (hf0 : ρ0.free d.nx0)
    (hall : ∀ i, L.toArray.getD i false = true ↔ i < ps.length) :
    okT (ρ.cut (nxO d.nx0 ps)) c.n (putsD ps d.e).get a.tmps ∧ ∃ LJ, hb d.pg (ρ.cut (nxO d.nx0 ps)) (joinD d.fl d.ms ps.length d.nx0 ps d.sh) = some LJ ∧ Kn0 c.W c.S (LJ ++ F) w := by
  obtain ⟨hn1, hn2⟩ := hps.nxle
  refine ⟨⟨h.size, fun t y hy => ?_⟩, ?_⟩
  · rcases putsD_get hy with ⟨p, h1, h2, rfl⟩ | ⟨h1, h2⟩
    · exact val_mono (ρ.cut_le (hn1 p h1)) (h.vals p h1 ((hall _).2 (hps.lt h1)) t h2)
    · exact val_mono (Asg.le_cut hf0 h.lo hn2) (h.old t y h1 h2)
  · have hsub : (ps.filter fun p => !usedB d.ms p.i ps.length d.fl).Sublist (ps.filter (keepB d L)) := by
      have e : (ps.filter fun p => !usedB d.ms p.i ps.length d.fl) = (ps.filter (keepB d L)).filter fun p => !usedB d.ms p.i ps.length d.fl := by
        rw [List.filter_filter]
        refine List.filter_congr fun p hp => ?_
        cases hu : usedB d.ms p.i ps.length d.fl with
        | true => rfl
        | false =>
          have : keepB d L p = true := by
            refine keepB_iff.2 ⟨(hall _).2 (hps.lt hp), ?_⟩
            rintro ⟨q, h1, h2, m, h3, h4, _⟩
            rw [usedB_iff.2 ⟨q, h1, (hall _).1 h2, m, h3, h4⟩] at hu
            cases hu
          rw [this]
          rfl
      rw [e]
      exact List.filter_sublist
    obtain ⟨L1, h1, h2⟩ := memL_sub hsub h.mem
    obtain ⟨L2, h3, h4⟩ := memL_hb (n := nxO d.nx0 ps) (fun p hp => hn1 p (List.mem_filter.1 hp).1) h1
    obtain ⟨L3, h5, h6⟩ := hb_mono (Asg.le_cut hf0 h.lo hn2) h.sh
    obtain ⟨LJ, h7, h8⟩ := hb_perm (joinD_perm d.fl d.ms ps.length d.nx0 ps d.sh).symm (hb_app h3 h5)
    refine ⟨LJ, h7, Kn0.hsub h.kn ?_⟩
    refine HSub.trans ((HSub.perm h8).app2 (HSub.refl F)) ?_
    rw [List.append_assoc]
    refine (HSub.trans h4 h2).app2 ?_
    exact HSub.app2 (A := LU) (A' := []) (HSub.none LU) (h6.app2 (HSub.refl F))
end Go.Y

namespace Go.Y
open Go Go.X
theorem headN_cons (i m : Nat) (l : List Nat) (best : Nat) : headN i (m :: l) best = (match Nat.beq m (Nat.sub (Nat.pow 2 i) 1) with
    | true => headN (i + 1) l best
    | false => headN (i + 1) l (i + 1)) := rfl
theorem headN_spec : ∀ (l : List Nat) (i best : Nat), best ≤ i → best ≤ headN i l best ∧ headN i l best ≤ i + l.length ∧ ∀ j m, l[j]? = some m → headN i l best ≤ i + j → m = 2 ^ (i + j) - 1
  | [], i, best, hb => ⟨Nat.le_refl _, by show best ≤ i + 0; omega, fun j m h => by simp at h⟩
  | x :: l, i, best, hb => by
    rw [headN_cons]
    split
    · rename_i hx
      have hx := Nat.eq_of_beq_eq_true hx
      obtain ⟨h1, h2, h3⟩ := headN_spec l (i + 1) best (by omega)
      refine ⟨h1, by simp; omega, fun j m hj hle => ?_⟩
      cases j with
      | zero =>
        simp only [List.getElem?_cons_zero, Option.some.injEq] at hj
        subst hj
        exact hx
      | succ j =>
        have := h3 j m (by simpa using hj) (by omega)
        rw [this]
        congr 2
        omega
    · obtain ⟨h1, h2, h3⟩ := headN_spec l (i + 1) (i + 1) (Nat.le_refl _)
      refine ⟨by omega, by simp; omega, fun j m hj hle => ?_⟩
      cases j with
      | zero => omega
      | succ j =>
        have := h3 j m (by simpa using hj) (by omega)
        rw [this]
        congr 2
        omega
theorem splitH_cons (seen : List Nat) (p : Nat × CB) (h : CH) : splitH seen (p :: h) = (match splitH seen h with
    | (a, r) => match memK p.1 seen with | true => (p :: a, r) | false => (a, p :: r)) := rfl
theorem splitH_perm (seen : List Nat) : ∀ (h : CH), ((splitH seen h).1 ++ (splitH seen h).2).Perm h
  | [] => .refl _
  | p :: h => by
    have ih := splitH_perm seen h
    rw [splitH_cons]
    cases memK p.1 seen with
    | true => exact ih.cons p
    | false => exact (List.perm_middle).trans (ih.cons p)
theorem giveC_cons (pg : Pg) (D : List Nat) (rec : Rec) (n : Nat) (all : List Oper) (fl : List (Nat × Bool)) (ro : List CH) (o : Oper) (l : List Oper) (i : Nat) (e : Tr) (rw : CH) (nx : Nat) (md : List Nat) (sh : CH) (us : List (Nat × CH)) : giveC pg D rec n all fl ro (o :: l) i e rw nx md sh us = (match fl with
      | [] => .ok (us, sh)
      | (j, b) :: fl' => match Nat.beq i j with
        | true => match (match b with | true => splitH (reachH 100000 rw (rootsO e.get (opdsAll o) []) []) sh | false => ([], sh)) with
          | (u, sh') => match fl' with
            | [] => .ok ((i, u) :: us, sh')
            | fl' => match hasT fl' with
              | false => .ok ((i, u) :: us, sh')
              | true => match stepO pg D rec n all o e.get ⟨rw, ro, nx, md⟩ with
              | .ok r => giveC pg D rec n all fl' ro l (i + 1) (putO o.dst r.v e) r.rw r.nx r.md sh' ((i, u) :: us)
              | .no er => .no er
        | false => match stepO pg D rec n all o e.get ⟨rw, ro, nx, md⟩ with
          | .ok r => giveC pg D rec n all fl ro l (i + 1) (putO o.dst r.v e) r.rw r.nx r.md sh us
          | .no er => .no er) := by
  cases fl <;> rfl
theorem giveC_sp {us : List (Nat × CH)} (i : Nat) (b : Bool) (X : CH × CH) {sh u s1 : CH} (hX : (X.1 ++ X.2).Perm sh) (he : (match b with | true => X | false => ([], sh)) = (u, s1)) : (((i, u) :: us).flatMap (·.2) ++ s1).Perm (us.flatMap (·.2) ++ sh) := by
  have hp : (u ++ s1).Perm sh := by
    cases b with
    | true => simp only at he; rw [he] at hX; exact hX
    | false => cases he; exact .refl _
  simp only [List.flatMap_cons, List.append_assoc]
  have h1 : (u ++ (us.flatMap (·.2) ++ s1)).Perm (us.flatMap (·.2) ++ (u ++ s1)) := by
    rw [← List.append_assoc, ← List.append_assoc]
    exact List.Perm.append_right _ List.perm_append_comm
  exact h1.trans (List.Perm.append_left _ hp)
theorem giveC_perm (pg : Pg) (D : List Nat) (rec : Rec) (n : Nat) (all : List Oper) (ro : List CH) : ∀ (l : List Oper) (fl : List (Nat × Bool)) {i : Nat} {e : Tr} {rw : CH} {nx : Nat} {md : List Nat} {sh : CH} {us us' : List (Nat × CH)} {sh' : CH}, giveC pg D rec n all fl ro l i e rw nx md sh us = .ok (us', sh') → (us'.flatMap (·.2) ++ sh').Perm (us.flatMap (·.2) ++ sh)
  | [], fl, i, e, rw, nx, md, sh, us, us', sh', h => by
    cases (show Rs.ok (us, sh) = .ok (us', sh') from h)
    exact .refl _
  | o :: l, fl, i, e, rw, nx, md, sh, us, us', sh', h => by
    rw [giveC_cons] at h
    split at h
    · cases h; exact .refl _
    · rename_i j b fl'
      have hsp := fun {u s1 : CH} => giveC_sp (us := us) i b (splitH (reachH 100000 rw (rootsO e.get (opdsAll o) []) []) sh) (u := u) (s1 := s1) (splitH_perm _ sh)
      split at h
      · split at h
        rename_i u s1 he
        split at h
        · cases h; exact hsp he
        · split at h
          · cases h; exact hsp he
          split at h
          · exact (giveC_perm pg D rec n all ro l _ h).trans (hsp he)
          · cases h
      · split at h
        · exact giveC_perm pg D rec n all ro l _ h
        · cases h
/-- the operations that draw their order -/
theorem headRun {c : Cx} {d : DR} (hcT : c.T = d.pg.T) (hok : PgOk c.P d.pg) (hv : VCS c d.pg d.D d.rc) (hn : d.n = c.n) (hms : d.ms = masksO [] d.all) (hdst : dstOk d.all = true) {F : List Blk} {ρ0 : Asg} {ds0 : List Deferred} (hgl : ρ0.gl) (hf0 : ρ0.free d.nx0) (h1000 : 1000 ≤ d.nx0) (hro : RdOk c.W c.S d.pg ρ0 d.ro F)
    {ps : List ND} (hps : NodesOk d ps) (hlen : ps.length ≤ d.all.length) (hM : ∀ i m, d.ms[i]? = some m → ∀ j, bitN' m j = true → j < i) (htail : ∀ i m, ps.length ≤ i → d.ms[i]? = some m → ∀ j, j < i → bitN' m j = true) {LS : List Blk} {Q : Exit → Act → World → Prop} {t : Nat}
    (hfin : ∀ L a w ρ LN LU, Inv c d F ρ0 ds0 ps L a w ρ LN LU LS → L.length = d.all.length → (∀ i, L.toArray.getD i false = true ↔ i < ps.length) → wpAnyIn c.F 0 c.P .any d.all.toArray Q t L.toArray a w) :
    ∀ (k : Nat) (R : List Nat) (L : List Bool) (a : Act) (w : World) (ρ : Asg) (LN LU : List Blk), R.length = k → Inv c d F ρ0 ds0 ps L a w ρ LN LU LS → Cl d.ms L → L.length = d.all.length → (∀ j, L.toArray.getD j false = true → j < ps.length) → R.Nodup → (∀ i, i ∈ R ↔ i < ps.length ∧ L.toArray.getD i false = false) →
      wpAnyIn c.F 0 c.P .any d.all.toArray Q (k + t) L.toArray a w := by
  intro k
  induction k with
  | zero =>
    intro R L a w ρ LN LU hR hinv hc hl hlt hnd hmem
    have hR0 : R = [] := List.length_eq_zero_iff.1 hR
    subst hR0
    rw [Nat.zero_add]
    refine hfin L a w ρ LN LU hinv hl fun i => ⟨hlt i, fun hi => ?_⟩
    cases h : L.toArray.getD i false with
    | true => rfl
    | false => have := (hmem i).2 ⟨hi, h⟩; simp at this
  | succ k ih =>
    intro R L a w ρ LN LU hR hinv hc hl hlt hnd hmem
    rw [show k + 1 + t = (k + t) + 1 by omega]
    -- the least that is not done
    have hex : ∃ i, i < ps.length ∧ L.toArray.getD i false = false ∧ ∀ j, j < i → L.toArray.getD j false = true := by
      have hx : ∃ i, i < ps.length ∧ L.toArray.getD i false = false := by
        cases R with
        | nil => simp at hR
        | cons i R => exact ⟨i, (hmem i).1 (by simp)⟩
      obtain ⟨i0, h0⟩ := hx
      have : ∀ n i, i < n → i < ps.length ∧ L.toArray.getD i false = false → ∃ i, i < ps.length ∧ L.toArray.getD i false = false ∧ ∀ j, j < i → L.toArray.getD j false = true := by
        intro n
        induction n with
        | zero => intro i h; omega
        | succ n ihn =>
          intro i hi hh
          by_cases hall : ∀ j, j < i → L.toArray.getD j false = true
          · exact ⟨i, hh.1, hh.2, hall⟩
          · simp only [Classical.not_forall] at hall
            obtain ⟨j, hj, hjf⟩ := hall
            exact ihn j (by omega) ⟨by omega, by simpa using hjf⟩
      exact this (i0 + 1) i0 (by omega) h0
    obtain ⟨i0, h1, h2, h3⟩ := hex
    refine ⟨fun h0 => ?_, fun i hi => ?_⟩
    · exfalso
      obtain ⟨A, p, B, o, m, rw, ro', md, r, e1, e2, e3, e4⟩ := hps.get h1
      have := ready_of hms (i := i0) (by rw [← e4]; exact e3.op) hl h2 (m := m) (by rw [← e4]; exact e3.msk) (fun j hj => h3 j (hM _ _ (by rw [← e4]; exact e3.msk) j hj))
      rw [h0] at this
      simp at this
    · obtain ⟨hun, o1, ho1, _⟩ := mem_ready.1 hi
      obtain ⟨hiL, hif⟩ := getD_tf hun
      have ho1 : d.all[i]? = some o1 := by simpa using ho1
      obtain ⟨mi, hmi⟩ : ∃ m, d.ms[i]? = some m := ⟨_, ms_get hms ho1⟩
      have hmk := ready_mask hms hc hi hmi
      have hih : i < ps.length := by
        rcases Nat.lt_or_ge i ps.length with h | h
        · exact h
        · have := hmk i0 (htail i mi h hmi i0 (by omega))
          rw [h2] at this
          cases this
      obtain ⟨A, p, B, o, m, rw, ro', md, r, e1, e2, e3, e4⟩ := hps.get hih
      subst e4
      have hmm := e3.msk
      rw [hmi] at hmm
      cases hmm
      subst e1
      simp only [wpOpIn]
      have hoA : d.all.toArray[p.i]? = some o := by simpa using e3.op
      rw [hoA]
      have := nodeStep (Q := Q) (K := wpAnyIn c.F 0 c.P .any d.all.toArray Q (k + t) (L.toArray.setIfInBounds p.i true)) hcT hok hv hn hdst hgl hf0 h1000 hro hps e3 hinv hc hlt hiL hif hmk ?_
      · exact this
      rintro a' w' ⟨ρ1, LN1, LU1, hinv1⟩
      have hset : L.toArray.setIfInBounds p.i true = (L.set p.i true).toArray := by simp
      rw [hset]
      have hiR : p.i ∈ R := (hmem _).2 ⟨hih, hif⟩
      refine ih (R.erase p.i) (L.set p.i true) a' w' ρ1 LN1 LU1 (by rw [List.length_erase_of_mem hiR]; omega) hinv1 ?_ (by simpa using hl) ?_ (hnd.erase _) ?_
      · intro j hj m' hm' j' hj'
        rw [getD_set hiL] at hj ⊢
        split
        · rfl
        · by_cases hjp : j = p.i
          · subst hjp
            rw [hmi] at hm'
            cases hm'
            exact hmk j' hj'
          · rw [if_neg hjp] at hj
            exact hc j hj m' hm' j' hj'
      · intro j hj
        rw [getD_set hiL] at hj
        by_cases hjp : j = p.i
        · rw [hjp]; exact hih
        · rw [if_neg hjp] at hj; exact hlt j hj
      · intro j
        rw [hnd.mem_erase_iff, hmem, getD_set hiL]
        by_cases hjp : j = p.i
        · subst hjp; simp
        · simp [hjp]
end Go.Y

namespace Go.Y
open Go Go.X
theorem rep_false {n i : Nat} : (List.replicate n false).toArray.getD i false = false := by
  simp only [Array.getD_eq_getD_getElem?, List.getElem?_toArray, List.getElem?_replicate]
  split <;> rfl
theorem takX_none {d : DR} {n : Nat} (p : ND) : keepB d (List.replicate n false) p = false := by
  cases h : keepB d (List.replicate n false) p with
  | false => rfl
  | true =>
    have := (keepB_iff.1 h).1
    rw [rep_false] at this
    cases this
theorem Kn0.drewn {W : World} {S : Nat → Prop} {H : List Blk} {w : World} (h : Kn0 W S H w) : Kn0 W S H { w with drawn := w.drawn + 1 } := Kn.drawn (ms := []) h
/-- drawn regions -/
theorem drawS {c : Cx} {pg : Pg} {D : List Nat} {rec : Rec} (hcT : c.T = pg.T) (hok : PgOk c.P pg) (hv : VCS c pg D rec) : DrawS c pg D rec := by
  intro rd fl bl all e ds s r h hrd ρ0 F L a w Q id hp ht hds hQ
  unfold drawC at h
  simp only at h
  have hgive : ∃ us sh, (match (match hasT fl with | false => .ok ([], s.rw) | true => giveC pg D rec c.n all fl s.ro all 0 e s.rw s.nx s.md s.rw [] : Rs (List (Nat × CH) × CH)) with
      | .no er => (.no (420 :: er) : Rs SR)
      | .ok (us, sh) => match nodesC pg D rec c.n all e s.ro sh fl bl us (masksO [] all) (takeL (headN 0 (masksO [] all) 0) all) 0 [] s.nx s.md with
        | .no er => .no er
        | .ok (ps, nx, md) => match dstOk all with
          | false => .no [421]
          | true => putsF ps e (fun e => frcH (joinD fl (masksO [] all) (headN 0 (masksO [] all) 0) s.nx ps sh) (fun rw => seqC pg D rec rd c.n all s.ro (dropL (headN 0 (masksO [] all) 0) all) e ds rw nx md))) = .ok r ∧
      (us.flatMap (·.2) ++ sh).Perm s.rw ∧ (match nodesC pg D rec c.n all e s.ro sh fl bl us (masksO [] all) (takeL (headN 0 (masksO [] all) 0) all) 0 [] s.nx s.md with
        | .no er => (.no er : Rs SR)
        | .ok (ps, nx, md) => match dstOk all with
          | false => .no [421]
          | true => putsF ps e (fun e => frcH (joinD fl (masksO [] all) (headN 0 (masksO [] all) 0) s.nx ps sh) (fun rw => seqC pg D rec rd c.n all s.ro (dropL (headN 0 (masksO [] all) 0) all) e ds rw nx md))) = .ok r := by
    cases hT : hasT fl with
    | false =>
      rw [hT] at h
      exact ⟨[], s.rw, h, .refl _, h⟩
    | true =>
      rw [hT] at h
      simp only at h ⊢
      cases hg : giveC pg D rec c.n all fl s.ro all 0 e s.rw s.nx s.md s.rw [] with
      | no er => rw [hg] at h; cases h
      | ok x =>
        obtain ⟨us, sh⟩ := x
        have hpm := giveC_perm pg D rec c.n all s.ro all fl hg
        rw [hg] at h
        simp only at h
        exact ⟨us, sh, h, by simpa using hpm, h⟩
  obtain ⟨us, sh, _, hperm, h⟩ := hgive
  split at h
  · cases h
  rename_i ps nx md hnodes
  split at h
  · cases h
  rename_i hdst
  rw [putsF_eq, frcH_eq] at h
  -- the parts
  let d : DR := ⟨pg, D, rec, c.n, all, e, s.ro, sh, fl, bl, us, masksO [] all, s.nx⟩
  have hmsl : (masksO [] all).length = all.length := ms_len (all := all) rfl
  obtain ⟨_, hh2, hh3⟩ := headN_spec (masksO [] all) 0 0 (Nat.le_refl _)
  rw [takeL_eq] at hnodes
  rw [dropL_eq] at h
  generalize hhd : headN 0 (masksO [] all) 0 = hd at *
  have hhl : hd ≤ all.length := by omega
  obtain ⟨hps, hpl, hnx⟩ := nodesC_s d (all.take hd) hnodes (fun j o hj => by
    rw [List.getElem?_take] at hj
    rw [Nat.zero_add]
    split at hj
    · exact hj
    · cases hj) .nil rfl rfl
  have hpl : ps.length = hd := by rw [hpl, List.length_take]; omega
  have htail : ∀ i m, ps.length ≤ i → (masksO [] all)[i]? = some m → ∀ j, j < i → bitN' m j = true := by
    intro i m hi hm j hj
    have := hh3 i m hm (by omega)
    rw [this, bitN'_eq, Nat.zero_add, Nat.testBit_two_pow_sub_one]
    simpa using hj
  have hM : ∀ i m, (masksO [] all)[i]? = some m → ∀ j, bitN' m j = true → j < i := by
    intro i m hm j hj
    rcases Nat.lt_or_ge i ps.length with h1 | h1
    · obtain ⟨A, p, B, o, m', rw, ro', md', r', e1, e2, e3, e4⟩ := hps.get h1
      subst e4
      have h5 : d.ms[p.i]? = some m := hm
      rw [e3.msk] at h5
      cases h5
      exact bit_lt e3.lt hj
    · have := hh3 i m hm (by omega)
      rw [this, bitN'_eq, Nat.zero_add, Nat.testBit_two_pow_sub_one] at hj
      simpa using hj
  obtain ⟨LL, hl1, hl2⟩ := hb_perm hperm.symm hp.rw
  obtain ⟨LU, LS, hl3, hl4, rfl⟩ := hb_split hl1
  have hfuel : all.toArray.size = ps.length + (all.drop hd).length := by simp; omega
  refine wpIn_region_any hok.mixed ?_
  rw [hfuel]
  have hrep : Array.replicate (ps.length + (all.drop hd).length) false = (List.replicate all.length false).toArray := by
    rw [List.toArray_replicate]
    congr 1
    simp; omega
  rw [hrep]
  have hcutgl : ∀ {ρ : Asg}, Asg.leN s.nx ρ0 ρ → ρ0.le (ρ.cut nx) := fun hlo => Asg.le_cut hp.free hlo (by rw [hnx]; exact (hps.nxle).2)
  refine headRun (d := d) (F := F) (ρ0 := ρ0) (ds0 := a.defers) (LS := LS) hcT hok hv rfl rfl hdst hp.gl hp.free hp.nx hp.ro hps (by show ps.length ≤ all.length; omega) hM htail ?_ ps.length (List.range ps.length) (List.replicate all.length false) a _ ρ0 [] LU (by simp) ?_ ?_ (by simp; rfl) ?_ List.nodup_range ?_
  · intro L1 a1 w1 ρ1 LN1 LU1 hinv hL1 hall
    obtain ⟨h1, LJ, h2, h3⟩ := hinv.fin hps hp.free hall
    have hnx' : nxO d.nx0 ps = nx := hnx.symm
    rw [hnx', hpl] at h2
    rw [hnx'] at h1
    have hle := hcutgl hinv.lo
    refine anyOfList rfl hM (all.drop hd) hd L1 a1 w1 rfl hL1 (fun i _ => ?_) (fun j m hj => htail j m (by omega)) ?_
    · cases hb : L1.toArray.getD i false with
      | true => have := (hall i).1 hb; rw [hpl] at this; simp [this]
      | false =>
        have : ¬ i < hd := fun hi => by rw [(hall i).2 (by omega)] at hb; cases hb
        simp [this]
    · have hnn := (hps.nxle).2
      rw [hnx'] at hnn
      refine seqC_s hcT hok hv hrd (all.drop hd) h (ρ1.cut nx) F LJ a1 w1 Q ⟨hp.gl.mono hle, ρ1.cut_free nx, Nat.le_trans hp.nx hnn, hp.ro.mono hle, h2, h3⟩ h1 ?_ ?_
      · rw [hinv.dfr]; exact hds.mono hle
      · intro ρ' L' a' w' hpost
        refine hQ ρ' L' a' w' (hpost.tran ⟨hle, fun j hj => ?_⟩ hnn)
        have : (ρ1.cut nx) j = ρ1 j := by
          unfold Asg.cut
          rw [if_pos (Nat.lt_of_lt_of_le hj hnn)]
        rw [this]
        exact hinv.lo.2 j hj
  · refine ⟨.refl ρ0, fun j x hj hj0 => ?_, ht.1, rfl, fun t y _ hy => ht.2 t y hy, fun p _ hpd => ?_, ?_, ?_, hl4, ?_⟩
    · rw [hp.free j hj0] at hj; cases hj
    · rw [rep_false] at hpd; cases hpd
    · rw [List.filter_eq_nil_iff.2 (fun p _ => by rw [takX_none]; simp)]
      rfl
    · have : restU (List.replicate all.length false) us = us.flatMap (·.2) := by
        unfold restU
        rw [List.filter_eq_self.2]
        intro u _
        rw [rep_false]
        rfl
      show hb pg ρ0 (restU (List.replicate all.length false) us) = some LU
      rw [this]
      exact hl3
    · refine Kn0.drewn (Kn0.hsub hp.k ?_)
      have := HSub.app2 (HSub.perm hl2) (HSub.refl F)
      simpa only [List.append_assoc, List.nil_append] using this
  · intro i hi
    rw [rep_false] at hi
    cases hi
  · intro j hj
    rw [rep_false] at hj
    cases hj
  · intro i
    rw [rep_false]
    simp
end Go.Y

namespace Go.Y
open Go Go.X
section
variable {P : Program} {T : TR} {W : World} {S : Nat → Prop} {hT : TOk P T} {pg : Pg} {D : List Nat}
/-- the evaluator's run is the program's -/
theorem evC_s (hcT : T = pg.T) (hok : PgOk P pg) (hD : DOk P D) : ∀ fuel, RecS P T W S hT pg (evC pg D fuel)
  | 0 => by
    intro fc x e ds s r _ h
    cases (show (Rs.no [1] : Rs CR) = .ok r from h)
  | fuel + 1 => by
    have ih := evC_s hcT hok hD fuel
    exact codeC_s (rec := evC pg D fuel) hcT hok hD (fun n cr => drawS hcT hok (vcs hcT hok hD ih n cr)) ih
end
end Go.Y

namespace Go.Y
open Go Go.X
/-- the package's variables -/
def Asg.g0 : Asg := fun g => if g < 1000 then some ⟨some (g, 0), 1⟩ else none
/-- a package variable's cells, in a world -/
def GOk (w : World) (pg : Pg) (gh : CH) : Prop := ∀ p ∈ gh, ∃ A T, p.2.ass pg Asg.g0 p.1 = some A ∧ A.holds w T ∧ ∀ k, T k → k < w.heap.size
theorem runC_s {P : Program} {T : TR} (hT : TOk P T) {pg : Pg} {D : List Nat} (hcT : T = pg.T) (hok : PgOk P pg) (hD : DOk P D) {fuel : Nat} {f : Nat} {args : List CV} {vals : List Value} {gh : CH} {w : World} (hg : GOk w pg gh) {r : O2} {x : Value}
    (hv : valL Asg.g0 args = some vals) (h : runC pg D fuel f args ⟨[], [gh], 1000, []⟩ = .ok r) (hx : r.v = .v x) : Pu P f vals.toArray w x := by
  have hfree : Asg.g0.free 1000 := fun i hi => by
    unfold Asg.g0
    rw [if_neg (by omega)]
  have hk : Kn0 w (fun _ => False) ([] ++ []) w := ⟨rfl, rfl, rfl, Nat.le_refl _, fun _ _ _ => rfl, fun _ => False, .nil, fun _ h => h.elim⟩
  have hro : RdOk w (fun _ => False) pg Asg.g0 [gh] [] := by
    intro g hgm p hp
    rcases List.mem_singleton.1 hgm with rfl
    obtain ⟨A, T', h1, h2, h3⟩ := hg p hp
    refine ⟨A, h1, fun L w' hk' => ⟨T', A.loc _ _ _ (fun k hkk => hk'.old k (h3 k hkk) (fun h => h)) h2, fun k hkk => Nat.lt_of_lt_of_le (h3 k hkk) hk'.size⟩⟩
  have hct := callC_s (hT := hT) (W := w) (S := fun _ => False) (n := 0) (cr := none) (F := []) (L := []) (ρ := Asg.g0) (w := w) hcT hok hD (evC_s hcT hok hD fuel) h
    ⟨fun g hgg => by unfold Asg.g0; rw [if_pos hgg], hfree, Nat.le_refl _, hro, rfl, hk⟩ hv
  unfold Pu X.CT at *
  refine ⟨hct.1, hct.2.mono ?_⟩
  rintro e w' ⟨v, rfl, ρ', L', hpost⟩
  have hvx := hpost.v
  rw [hx] at hvx
  cases hvx
  refine ⟨rfl, ?_⟩
  have hk' := hpost.k
  exact ⟨hk'.os, hk'.tape, hk'.output, hk'.size, fun k hkk => hk'.old k hkk (fun h => h)⟩
end Go.Y

namespace Go.Y
open Go Go.X
/-- every type of a table is as p asks -/
noncomputable def allT (p : Nat → TI → Bool) (T : TR) : Bool := @TR.rec (fun _ => Bool) true (fun _ k v _ a b => match p k v with | true => (match a with | true => b | false => false) | false => false) T
theorem allT_node (p : Nat → TI → Bool) (l : TR) (k : Nat) (v : TI) (r : TR) : allT p (.node l k v r) = (match p k v with | true => (match allT p l with | true => allT p r | false => false) | false => false) := rfl
theorem allT_spec {p : Nat → TI → Bool} : ∀ {T : TR}, allT p T = true → ∀ {t : Nat} {i : TI}, T.get t = some i → p t i = true
  | .leaf, _, t, i, h => by cases h
  | .node l k v r, ha, t, i, h => by
    rw [allT_node] at ha
    split at ha
    rotate_left
    · cases ha
    rename_i h1
    split at ha
    rotate_left
    · cases ha
    rename_i h2
    simp only [TR.get] at h
    cases h3 : Nat.blt t k with
    | true => rw [h3] at h; exact allT_spec h2 h
    | false =>
      rw [h3] at h
      cases h4 : Nat.beq t k with
      | true =>
        rw [h4] at h
        simp only [cond_true, cond_false, Option.some.injEq] at h
        subst h
        rw [Nat.eq_of_beq_eq_true h4]
        exact h1
      | false => rw [h4] at h; exact allT_spec ha h
def zeroB (i : TI) : Bool := Nat.beq i.zero.cells.size i.size
theorem zero_of {T : TR} (h : allT (fun _ i => zeroB i) T = true) : ∀ t i, getT T t = some i → i.zero.cells.size = i.size := fun t i hi => by
  rw [getT_eq] at hi
  exact Nat.eq_of_beq_eq_true (allT_spec h hi)
/-- the table of functions, one after the other -/
inductive FOk (P : Program) : FT → Prop
  | leaf : FOk P .leaf
  | node {l r : FT} {k : Nat} {v : FI} (hl : FOk P l) (h : ∃ fn, P.funcs[k]? = some fn ∧ fn.body = some v.body ∧ fn.ntmps = v.n ∧ fn.results.toList = v.rs ∧ (fn.name == "runtime.NumGoroutine") = false) (hr : FOk P r) : FOk P (.node l k v r)
theorem FT.get_node (l : FT) (k : Nat) (v : FI) (r : FT) (t : Nat) : (FT.node l k v r).get t = (match Nat.blt t k with
    | true => l.get t
    | false => match Nat.beq k t with
      | true => some v
      | false => r.get t) := rfl
theorem FOk.get {P : Program} : ∀ {F : FT} (_ : FOk P F) {f : Nat} {fi : FI}, F.get f = some fi → ∃ fn, P.funcs[f]? = some fn ∧ fn.body = some fi.body ∧ fn.ntmps = fi.n ∧ fn.results.toList = fi.rs ∧ (fn.name == "runtime.NumGoroutine") = false
  | .leaf, _, f, fi, h => by cases (show (none : Option FI) = some fi from h)
  | .node l k v r, h, f, fi, hg => by
    cases h with
    | node hl hh hr =>
      rw [FT.get_node] at hg
      split at hg
      · exact FOk.get hl hg
      · split at hg
        · rename_i hb
          cases hg
          rw [← Nat.eq_of_beq_eq_true hb]
          exact hh
        · exact FOk.get hr hg
end Go.Y

namespace Go.Y
open Go Go.X
theorem extK_cons (h : Nat) (p : Nat × Nat) (l : List (Nat × Nat)) : extK h (p :: l) = (match Nat.beq p.1 h with | true => some p.2 | false => extK h l) := rfl
theorem extK_mem {h k : Nat} : ∀ {l : List (Nat × Nat)}, extK h l = some k → (h, k) ∈ l
  | [], e => by cases (show (none : Option Nat) = some k from e)
  | p :: l, e => by
    rw [extK_cons] at e
    split at e
    · rename_i hb
      cases e
      rw [← Nat.eq_of_beq_eq_true hb]
      exact List.mem_cons_self
    · exact List.mem_cons_of_mem _ (extK_mem e)
theorem LaidVars_find {P : Program} {w : World} : ∀ {l : List (String × DataW Unit)} {ps : List MemPlace}, DataW.LaidVars P w l ps → ∀ n d, (n, d) ∈ l →
    ∃ g t cs fuel p, P.globalNamed n = some g ∧ (P.globals[g]?).map (·.type) = some t ∧ w.var? P n = some cs ∧ DataW.trod (fun _ => ()) P w 0 (fun _ => true) false fuel t cs.toList = some (d, p) ∧ ∀ i, i < cs.size → MemPlace.cell g i ∈ ps
  | [], _, _, _, _, hm => by cases hm
  | (n', d') :: r, ps, h, n, d, hm => by
    obtain ⟨g, t, cs, fuel, p, q, h1, h2, h3, h4, h5, rfl⟩ := h
    rcases List.mem_cons.1 hm with e | e
    · cases e
      refine ⟨g, t, cs, fuel, p, h1, h2, h3, h4, fun i hi => ?_⟩
      simp only [List.mem_append]
      refine .inl (.inl ?_)
      unfold MemPlace.row
      exact List.mem_map.2 ⟨i, List.mem_range.2 hi, by simp⟩
    · obtain ⟨g', t', cs', fuel', p', a1, a2, a3, a4, a5⟩ := LaidVars_find h5 n d e
      exact ⟨g', t', cs', fuel', p', a1, a2, a3, a4, fun i hi => by simp [a5 i hi]⟩
/-- a laid array of integers -/
theorem laid_ints {P : Program} {w : World} {l : List (String × DataW Unit)} (h : laidMet P l w) {n : String} {zs : List Int} {k : IntKind} (hm : (n, DataW.agg (zs.map fun z => .lit (.int k z))) ∈ l) {g t e : Nat} (hg : P.globalNamed n = some g) (ht : (P.globals[g]?).map (·.type) = some t)
    (hu : P.underlying t = some (.array zs.length e)) (he : P.underlying e = some (.int k)) (hc : P.cellsOf e = 1) (hct : P.cellsOf t = zs.length) (hz : 0 < zs.length) : ∃ t', w.heap[g]? = some (.cells (zs.map (Value.int k)).toArray t' (0, 0)) := by
  obtain ⟨ps, hv, _, hcells⟩ := h
  obtain ⟨g', t1, cs, fuel, p, h1, h2, h3, h4, h5⟩ := LaidVars_find hv n _ hm
  obtain rfl : g' = g := Option.some.inj (h1.symm.trans hg)
  obtain rfl : t1 = t := Option.some.inj (h2.symm.trans ht)
  obtain ⟨xs, m, rfl, hx, hl, hxl, hall⟩ := DataW.trod_array hu h4
  rw [hct] at hl
  rw [hc] at hall
  have hx1 : xs.map (·.1) = zs.map fun z => (DataW.lit (.int k z) : DataW Unit) := by
    have := congrArg Prod.fst hx
    simpa using this.symm
  have hcs : cs.toList = zs.map (Value.int k) := by
    apply List.ext_getElem?
    intro i
    by_cases hi : i < zs.length
    · have hxi : i < xs.length := by omega
      have h6 := hall i hi
      rw [List.getElem?_eq_getElem hxi] at h6
      obtain ⟨z, g1, g2, _⟩ := DataW.trod_int he h6
      have h7 : (xs.map (·.1))[i]? = some (.lit (.int k z)) := by rw [List.getElem?_map, List.getElem?_eq_getElem hxi, g2]; rfl
      rw [hx1, List.getElem?_map, List.getElem?_eq_getElem hi] at h7
      simp only [Option.map_some, Option.some.injEq, DataW.lit.injEq, Lit.int.injEq, true_and] at h7
      have h8 : ((cs.toList.drop (i * 1)).take 1)[0]? = some (.int k z) := by rw [g1]; rfl
      rw [List.getElem?_take, if_pos (by omega), List.getElem?_drop] at h8
      simp only [Nat.mul_one, Nat.add_zero] at h8
      rw [h8, List.getElem?_map, List.getElem?_eq_getElem hi, Option.map_some, h7]
    · rw [List.getElem?_eq_none (by omega), List.getElem?_eq_none (by simp; omega)]
  obtain ⟨⟨c, t', h6⟩, _⟩ := hcells g' 0 (h5 0 (by rw [← Array.length_toList, hl]; exact hz))
  unfold World.var? at h3
  rw [hg] at h3
  simp only [Option.bind_some, h6, Option.some.injEq] at h3
  refine ⟨t', ?_⟩
  rw [h6, h3, ← hcs]
/-- a package variable that is an array of integers -/
theorem GOk.ints {w : World} {pg : Pg} {g t' : Nat} {k : IntKind} {zs : List Int} (hlt : g < 1000) (h : w.heap[g]? = some (.cells (zs.map (Value.int k)).toArray t' (0, 0))) :
    ∃ A T, (CB.cells t' zs.length 1 none (zs.map fun z => CV.v (.int k z))).ass pg Asg.g0 g = some A ∧ A.holds w T ∧ ∀ j, T j → j < w.heap.size := by
  have hr : Asg.g0 g = some ⟨some (g, 0), 1⟩ := if_pos hlt
  have hv : valL Asg.g0 (zs.map fun z => CV.v (.int k z)) = some (zs.map (Value.int k)) := by
    clear h
    induction zs with
    | nil => rfl
    | cons z zs ih => simp only [List.map_cons, valL, val, ih]
  refine ⟨_, fun j => j = g, ass_mk hr hv rfl, .inr ⟨g, rfl, [], [], (0, 0), rfl, by simpa using h, by simp, Nat.le_refl _, by simp, fun h => absurd rfl h⟩, ?_⟩
  rintro j rfl
  exact (Array.getElem?_eq_some_iff.1 h).1
theorem GOk.glob {w : World} {pg : Pg} {g t' : Nat} {fr : Nat × Nat} {cs : List CV} {vs : List Value} (hlt : g < 1000) (hv : valL Asg.g0 cs = some vs) (h : w.heap[g]? = some (.cells vs.toArray t' fr)) :
    ∃ A T, (CB.glob cs).ass pg Asg.g0 g = some A ∧ A.holds w T ∧ ∀ j, T j → j < w.heap.size := by
  have hr : Asg.g0 g = some ⟨some (g, 0), 1⟩ := if_pos hlt
  refine ⟨GlA (RV.a ⟨some (g, 0), 1⟩) vs, fun j => j = g, by simp [CB.ass, hr, hv], ⟨g, rfl, rfl, t', fr, h⟩, ?_⟩
  rintro j rfl
  exact (Array.getElem?_eq_some_iff.1 h).1
end Go.Y

namespace Go.Y
open Go Go.X
theorem str_of_utf8 {a b : String} (h : a.toUTF8.data.toList = b.toUTF8.data.toList) : a = b := by
  have h1 : a.toUTF8 = b.toUTF8 := by
    have h2 : a.toUTF8.data = b.toUTF8.data := Array.toList_inj.1 h
    cases h3 : a.toUTF8
    cases h4 : b.toUTF8
    rw [h3, h4] at h2
    exact congrArg ByteArray.mk h2
  exact String.toByteArray_inj.1 h1
inductive ZipFn (P : Program) : List (DataW Unit) → List Value → Prop
  | nil : ZipFn P [] []
  | z {ds : List (DataW Unit)} {vs : List Value} (h : ZipFn P ds vs) : ZipFn P (.nil :: ds) (.nilFunc :: vs)
  | f {ds : List (DataW Unit)} {vs : List Value} {b : UInt8} {r : List UInt8} {f : Nat} (s : String) (hs : s.toUTF8.data.toList = b :: r) (hf : P.funcNamed s = some f) (h : ZipFn P ds vs) : ZipFn P (.iface "func" (.lit (.string (b :: r))) :: ds) (.func (.func f) #[] #[] :: vs)
theorem funcsOutAll_eq : ∀ (l : List (DataW Unit)), DataW.funcsOutAll l = l.map DataW.funcsOut
  | [] => by simp [DataW.funcsOutAll]
  | d :: r => by simp [DataW.funcsOutAll, funcsOutAll_eq r]
theorem zip_cells {P : Program} {w : World} {e : TypeId} {ps rs : Array TypeId} {vd : Bool} (he : P.underlying e = some (.func ps rs vd)) : ∀ {ds : List (DataW Unit)} {vs : List Value}, ZipFn P ds vs → ∀ {cs : List Value}, cs.length = ds.length →
    (∀ i, i < ds.length → ∃ m p, DataW.trod (funcToken P) P w 0 (fun _ => true) true m e ((cs.drop i).take 1) = some ((ds.map DataW.funcsOut)[i]?.getD .nil, p)) → cs = vs
  | _, _, .nil, cs, hl, _ => List.length_eq_zero_iff.1 hl
  | _, _, .z (ds := ds) h, cs, hl, hh => by
    cases cs with
    | nil => simp at hl
    | cons c cs =>
      have h1 : cs = _ := zip_cells he h (by simpa using hl) fun i hi => by
        obtain ⟨m, p, h2⟩ := hh (i + 1) (by simpa using hi)
        exact ⟨m, p, by simpa using h2⟩
      obtain ⟨m, p, h2⟩ := hh 0 (by simp)
      simp only [List.drop_zero, List.take_succ_cons, List.take_zero, List.map_cons, List.getElem?_cons_zero, Option.getD_some] at h2
      rw [h1]
      congr 1
      cases m with
      | zero => simp [DataW.trod] at h2
      | succ m =>
        simp only [DataW.trod, he] at h2
        cases c <;> simp_all [DataW.funcsOut]
  | _, _, .f (ds := ds) (b := b0) (r := r0) s hs hf h, cs, hl, hh => by
    cases cs with
    | nil => simp at hl
    | cons c cs =>
      have h1 : cs = _ := zip_cells he h (by simpa using hl) fun i hi => by
        obtain ⟨m, p, h2⟩ := hh (i + 1) (by simpa using hi)
        exact ⟨m, p, by simpa using h2⟩
      obtain ⟨m, p, h2⟩ := hh 0 (by simp)
      simp only [List.drop_zero, List.take_succ_cons, List.take_zero, List.map_cons, List.getElem?_cons_zero, Option.getD_some] at h2
      rw [h1]
      congr 1
      cases m with
      | zero => simp [DataW.trod] at h2
      | succ m =>
        simp only [DataW.trod, he] at h2
        have e1 : (DataW.funcsOut (.iface "func" (.lit (.string (b0 :: r0)))) : DataW (List UInt8)) = .held (b0 :: r0) := by simp [DataW.funcsOut]
        rw [e1] at h2
        cases c with
        | func fn first cap =>
          simp only [if_true, Option.some.injEq, Prod.mk.injEq, DataW.held.injEq] at h2
          obtain ⟨f', fn', g1, g2, g3, g4⟩ := funcToken_tells h2.1
          have : fn'.name = s := str_of_utf8 (by rw [g4, hs])
          rw [this, hf] at g3
          cases g3
          exact g1
        | _ => simp at h2
/-- a laid array of functions -/
theorem laid_fns {P : Program} {w : World} {l : List (String × DataW Unit)} (h : laidMetH P l w) {n : String} {ds : List (DataW Unit)} (hm : (n, DataW.iface "func table" (.agg ds)) ∈ l) {g t e : Nat} (hg : P.globalNamed n = some g) (ht : (P.globals[g]?).map (·.type) = some t)
    (hu : P.underlying t = some (.array ds.length e)) {ps rs : Array TypeId} {vd : Bool} (he : P.underlying e = some (.func ps rs vd)) (hc : P.cellsOf e = 1) (hct : P.cellsOf t = ds.length) {vs : List Value} (hz : ZipFn P ds vs) : ∃ t' fr, w.heap[g]? = some (.cells vs.toArray t' fr) := by
  obtain ⟨g', t1, cs, fuel, p, h1, h2, h3, h4⟩ := laidMetH.funcs h hm
  obtain rfl : g' = g := Option.some.inj (h1.symm.trans hg)
  obtain rfl : t1 = t := Option.some.inj (h2.symm.trans ht)
  obtain ⟨xs, m, rfl, hx, hl, hxl, hall⟩ := DataW.trod_array hu h4
  rw [hct] at hl
  rw [hc] at hall
  have hx1 : xs.map (·.1) = ds.map DataW.funcsOut := by
    have := congrArg Prod.fst hx
    simp only [DataW.funcsOut, funcsOutAll_eq, DataW.agg.injEq] at this
    exact this.symm
  have hcs : cs.toList = vs := zip_cells he hz hl fun i hi => by
    have h6 := hall i hi
    have hxi : i < xs.length := by omega
    rw [List.getElem?_eq_getElem hxi, Nat.mul_one] at h6
    refine ⟨m, xs[i].2, ?_⟩
    rw [h6, ← hx1, List.getElem?_map, List.getElem?_eq_getElem hxi]
    rfl
  unfold World.var? at h3
  rw [hg] at h3
  simp only [Option.bind_some] at h3
  split at h3
  · rename_i cs' t' fr hh
    cases h3
    exact ⟨t', fr, by rw [hh, ← hcs]⟩
  · cases h3
end Go.Y

namespace Go.Y
open Go Go.X
theorem runC_v {P : Program} {T : TR} (hT : TOk P T) {pg : Pg} {D : List Nat} (hcT : T = pg.T) (hok : PgOk P pg) (hD : DOk P D) {fuel : Nat} {f : Nat} {args : List CV} {vals : List Value} {gh : CH} {w : World} (hg : GOk w pg gh) {r : O2} {x : Value}
    (hv : valL Asg.g0 args = some vals) (h : runC pg D fuel f args ⟨[], [gh], 1000, []⟩ = .ok r) (hx : val (fun _ => none) r.v = some x) : Pu P f vals.toArray w x := by
  have hfree : Asg.g0.free 1000 := fun i hi => by
    unfold Asg.g0
    rw [if_neg (by omega)]
  have hk : Kn0 w (fun _ => False) ([] ++ []) w := ⟨rfl, rfl, rfl, Nat.le_refl _, fun _ _ _ => rfl, fun _ => False, .nil, fun _ h => h.elim⟩
  have hro : RdOk w (fun _ => False) pg Asg.g0 [gh] [] := by
    intro g hgm p hp
    rcases List.mem_singleton.1 hgm with rfl
    obtain ⟨A, T', h1, h2, h3⟩ := hg p hp
    refine ⟨A, h1, fun L w' hk' => ⟨T', A.loc _ _ _ (fun k hkk => hk'.old k (h3 k hkk) (fun h => h)) h2, fun k hkk => Nat.lt_of_lt_of_le (h3 k hkk) hk'.size⟩⟩
  have hct := callC_s (hT := hT) (W := w) (S := fun _ => False) (n := 0) (cr := none) (F := []) (L := []) (ρ := Asg.g0) (w := w) hcT hok hD (evC_s hcT hok hD fuel) h
    ⟨fun g hgg => by unfold Asg.g0; rw [if_pos hgg], hfree, Nat.le_refl _, hro, rfl, hk⟩ hv
  unfold Pu X.CT at *
  refine ⟨hct.1, hct.2.mono ?_⟩
  rintro e w' ⟨v, rfl, ρ', L', hpost⟩
  have hvx := hpost.v
  rw [val_mono (ρ' := ρ') (fun j r h => by cases h) hx] at hvx
  cases hvx
  refine ⟨rfl, ?_⟩
  have hk' := hpost.k
  exact ⟨hk'.os, hk'.tape, hk'.output, hk'.size, fun k hkk => hk'.old k hkk (fun h => h)⟩
/-- the value that a run gives, if it is free of memory -/
noncomputable def outV : Rs O2 → Option Value
  | .ok r => val (fun _ => none) r.v
  | .no _ => none
/-- a closed run is what the program does -/
theorem runV {P : Program} {T : TR} (hT : TOk P T) {pg : Pg} {D : List Nat} (hcT : T = pg.T) (hok : PgOk P pg) (hD : DOk P D) {fuel : Nat} {f : Nat} {args : List CV} {vals : List Value} {gh : CH} {w : World} (hg : GOk w pg gh) {v : Value}
    (hv : valL Asg.g0 args = some vals) (h : outV (runC pg D fuel f args ⟨[], [gh], 1000, []⟩) = some v) : Pu P f vals.toArray w v := by
  cases hr : runC pg D fuel f args ⟨[], [gh], 1000, []⟩ with
  | no e => rw [hr] at h; cases h
  | ok r =>
    rw [hr] at h
    exact runC_v hT hcT hok hD hg hv hr h
end Go.Y

namespace Go.Y
open Go Go.X
theorem invF_mem {t : Nat} {m : String} {f : Nat} : ∀ {l : List (Nat × String × Nat)}, invF t m l = some f → (t, m, f) ∈ l
  | [], h => by cases (show (none : Option Nat) = some f from h)
  | (u, n, g) :: l, h => by
    replace h : (match Nat.beq u t with | true => (match decide (n = m) with | true => some g | false => invF t m l) | false => invF t m l) = some f := h
    cases hu : Nat.beq u t with
    | false =>
      rw [hu] at h
      exact List.mem_cons_of_mem _ (invF_mem h)
    | true =>
      rw [hu] at h
      obtain rfl := Nat.eq_of_beq_eq_true hu
      by_cases hn : n = m
      · subst hn
        simp only [decide_true] at h
        cases h
        exact List.mem_cons_self
      · simp only [hn, decide_false] at h
        exact List.mem_cons_of_mem _ (invF_mem h)
/-- the type's table says: the method m is the function f, with the value itself -/
def hasM (P : Program) (t : Nat) (m : String) (f : Nat) (pt : Bool) : Bool := match P.info? t with
  | some i => (match i.methods.find? (fun x => x.name == m) with
    | some mm => mm.path.isEmpty && (match mm.func with | some (g, q) => Nat.beq g f && (match q, pt with | true, true => true | false, false => true | _, _ => false) | none => false)
    | none => false)
  | none => false
theorem hasM_spec {P : Program} {t f : Nat} {m : String} {pt : Bool} (h : hasM P t m f pt = true) : ∃ i mm, P.info? t = some i ∧ i.methods.find? (fun x => x.name == m) = some mm ∧ mm.path = #[] ∧ mm.func = some (f, pt) := by
  unfold hasM at h
  split at h
  rotate_left
  · cases h
  rename_i i hi
  split at h
  rotate_left
  · cases h
  rename_i mm hm
  rw [Bool.and_eq_true] at h
  obtain ⟨h1, h2⟩ := h
  split at h2
  rotate_left
  · cases h2
  rename_i g q hf
  rw [Bool.and_eq_true] at h2
  obtain ⟨h3, h4⟩ := h2
  obtain rfl := Nat.eq_of_beq_eq_true h3
  refine ⟨i, mm, hi, hm, by simpa using h1, ?_⟩
  rw [hf]
  cases q <;> cases pt <;> simp at h4 ⊢
theorem inv_of {P : Program} {t f : Nat} {m : String} (hm : ∀ n v w, (method (n + 1) t v m).run P w = .ok (f, v) w) (v : Value) (args : Array Value) (w : World) :
    (callMethod (.iface t v) m args).run P w = (callFunc f (#[v] ++ args)).run P w := by
  have h0 : 0 < Made.depth := by decide
  obtain ⟨n, hn⟩ : ∃ n, P.types.size + Made.depth = n + 1 := ⟨P.types.size + Made.depth - 1, by omega⟩
  simp [callMethod, hn, hm]
/-- a method of a pointer's type -/
theorem inv_ptr {P : Program} {t f el : Nat} {m : String} (hu : P.underlying t = some (.pointer el)) (h : hasM P t m f true = true) (v : Value) (args : Array Value) (w : World) :
    (callMethod (.iface t v) m args).run P w = (callFunc f (#[v] ++ args)).run P w := by
  obtain ⟨i, mm, hi, hf, hp, hfn⟩ := hasM_spec h
  exact inv_of (fun n v w => by simp [method, typeInfo, hi, hf, hp, hfn, follow, receiverAt, run_underlying hu, Place.get]) v args w
/-- a method of a struct's type -/
theorem inv_val {P : Program} {t f : Nat} {m : String} {fs : Array Field} (hu : P.underlying t = some (.struct fs)) (h : hasM P t m f false = true) (v : Value) (args : Array Value) (w : World) :
    (callMethod (.iface t v) m args).run P w = (callFunc f (#[v] ++ args)).run P w := by
  obtain ⟨i, mm, hi, hf, hp, hfn⟩ := hasM_spec h
  exact inv_of (fun n v w => by simp [method, typeInfo, hi, hf, hp, hfn, follow, receiverAt, run_underlying hu, Place.get]) v args w
end Go.Y
