/- Contracts and lemmas for the claim (part 6); no condition of its own. -/
import Derived.Test.YtjkmpaggfbghiaaGreatDoorYQC1005
import Derived.Test.YtjkmpaggfbghiaaGreatDoorYQC1004
import Derived.Test.YtjkmpaggfbghiaaGreatDoorYQC1003
set_option linter.all false
set_option maxRecDepth 100000
set_option maxHeartbeats 0
set_option linter.unusedVariables false
set_option linter.unusedSimpArgs false
set_option linter.unnecessarySimpa false
namespace Go.X.OM
open Go Go.X
theorem effNum {id st at_ g : Int} : itemNum ⟨⟨id, at_, phaseOf st⟩, 0, false, g⟩ = (((id - 1) * 8 + at_) * 3 + phaseOf st - 1) * 7 + g := by
  unfold itemNum; rfl
theorem openF_sorted : ∀ (l : List Mv) (i : Int), (openF i l).Pairwise (fun x y => x.1 < y.1)
  | [], _ => .nil
  | m :: l, i => by
    unfold openF
    split
    · exact openF_sorted l (i + 1)
    · refine List.pairwise_cons.2 ⟨fun y hy => ?_, openF_sorted l (i + 1)⟩
      obtain ⟨n, m'⟩ := y
      obtain ⟨j, _, h, _⟩ := openF_mem.1 hy
      show i < n
      omega
theorem items_sorted {o : St} (hi : Inv o) : o.wanted.Pairwise (fun x y => itemNum x.1 < itemNum y.1) := by
  unfold St.wanted
  have hgr := hi.gr
  rw [List.pairwise_append]
  have hE : ∀ x ∈ o.effs, ∃ id s, (id, s) ∈ o.sagas ∧ s.st < 4 ∧ x.1 = ⟨⟨id, s.at_, phaseOf s.st⟩, 0, false, o.route s.stepAt.key⟩ ∧ 1 ≤ id ∧ id ≤ 9999 ∧ 0 ≤ s.at_ ∧ s.at_ ≤ 7 ∧ 1 ≤ o.route s.stepAt.key ∧ o.route s.stepAt.key ≤ 7 := by
    rintro ⟨x, c⟩ hx
    obtain ⟨id, s, h1, h2, _, rfl, _⟩ := effs_spec hx
    obtain ⟨k1, k2, k3⟩ := hi.sok _ h1
    have k3 : SOk s := k3
    have hd := Dfn.steps_pos k3.d
    have h3 := k3.at1 h2
    have h6 := route_ok hi (stepAt_name k3 h2)
    exact ⟨id, s, h1, h2, rfl, k1, k2, k3.at0, by omega, h6.1, by omega⟩
  refine ⟨?_, ?_, ?_⟩
  · unfold St.effs
    have h1 : o.sagas.Pairwise (fun x y => x.1 < y.1 ∧ x ∈ o.sagas ∧ y ∈ o.sagas) := hi.srt.imp_of_mem fun ha hb h => ⟨h, ha, hb⟩
    refine List.Pairwise.filterMap _ (fun a a' h b hb b' hb' => ?_) h1
    obtain ⟨hlt, ha, ha'⟩ := h
    have key : ∀ (a : Int × Sg) (b : Item × Cmd), a ∈ o.sagas → o.effOf a = some b → (((a.1 - 1) * 8) * 3) * 7 + 1 ≤ itemNum b.1 ∧ itemNum b.1 ≤ (((a.1 - 1) * 8 + 7) * 3 + 2) * 7 + 7 := by
      intro a b ha hb
      have hin : b ∈ o.effs := by unfold St.effs; rw [List.mem_filterMap]; exact ⟨a, ha, hb⟩
      have hid : b.1.eff.saga = a.1 := by
        unfold St.effOf Sg.next at hb
        split at hb
        · cases hb
        · rename_i e he
          split at he
          · simp only [Option.some.injEq] at he
            subst he
            dsimp only at hb
            split at hb
            · cases hb
            · simp only [Option.some.injEq] at hb
              subst hb; rfl
          · cases he
      obtain ⟨id, s, _, _, h3, h4, h5, h6, h7, h8, h9⟩ := hE b hin
      have hp := phase_bd s.st
      rw [h3] at hid
      dsimp only at hid
      rw [h3, effNum]
      omega
    have e1 := key a b ha hb
    have e2 := key a' b' ha' hb'
    omega
  · rw [List.pairwise_map]
    have h1 : o.openM.Pairwise (fun x y => x.1 < y.1 ∧ x ∈ o.openM ∧ y ∈ o.openM) := (openF_sorted o.moves 1).imp_of_mem fun ha hb h => ⟨h, ha, hb⟩
    refine h1.imp ?_
    rintro ⟨n, m⟩ ⟨n', m'⟩ ⟨hlt, ha, hb⟩
    obtain ⟨j, hj, hn, _⟩ := openF_mem.1 ha
    obtain ⟨j', hj', hn', _⟩ := openF_mem.1 hb
    have hm := hi.mok m (List.mem_of_getElem? hj)
    have hm' := hi.mok m' (List.mem_of_getElem? hj')
    have hnum : ∀ (n : Int) (m : Mv), 1 ≤ n → 1 ≤ m.fr ∧ m.fr ≤ 7 → 1 ≤ m.to ∧ m.to ≤ 7 → (239976 + 2 * n - 2) * 7 + 1 ≤ itemNum (mvItem n m).1 ∧ itemNum (mvItem n m).1 ≤ (239976 + 2 * n - 1) * 7 + 7 := by
      intro n m hn h1 h2
      rw [mvItem_fst]
      unfold itemNum
      split
      · dsimp only
        rw [if_neg (by omega), if_pos rfl]
        omega
      · dsimp only
        rw [if_neg (by omega), if_neg (by simp)]
        omega
    have e1 := hnum n m (by omega) (by omega) (by omega)
    have e2 := hnum n' m' (by omega) (by omega) (by omega)
    dsimp only at hlt ⊢
    omega
  · intro x hx y hy
    obtain ⟨id, s, _, _, h3, h4, h5, h6, h7, h8, h9⟩ := hE x hx
    have hp := phase_bd s.st
    rw [List.mem_map] at hy
    obtain ⟨⟨n, m⟩, hm, rfl⟩ := hy
    obtain ⟨j, hj, hn, _⟩ := openF_mem.1 hm
    have hmm := hi.mok m (List.mem_of_getElem? hj)
    rw [h3, effNum, mvItem_fst]
    unfold itemNum
    split
    · dsimp only
      rw [if_neg (by omega), if_pos rfl]
      omega
    · dsimp only
      rw [if_neg (by omega), if_neg (by simp)]
      omega
end Go.X.OM

namespace Go.X
open Go
def stepCells (L : List OM.Stp) : List Value := L.flatMap fun s => [.string s.key, .int .i64 s.delta]
abbrev stc (s : OM.Stp) : List SV := [.v (.string s.key), .v (.int .i64 s.delta)]
theorem step_flat : ∀ (L : List OM.Stp) (i : Nat) (s : OM.Stp), L[i]? = some s → ((stepCells L).drop (i * 2)).take 2 = denL (stc s)
  | [], _, _, h => by simp at h
  | y :: l, 0, s, h => by
    have : y = s := by simpa using h
    subst this; rfl
  | y :: l, i + 1, s, h => by
    have e : stepCells (y :: l) = .string y.key :: .int .i64 y.delta :: stepCells l := rfl
    rw [e, show (i + 1) * 2 = i * 2 + 2 by omega, List.drop_succ_cons, List.drop_succ_cons]
    exact step_flat l i s (by simpa using h)
theorem at_step {L : List OM.Stp} {i : Nat} {s : OM.Stp} (h : L[i]? = some s) : ((stepCells L).drop ((i : Int).toNat * 2)).take 2 = denL (stc s) := step_flat L i s h
theorem step_take : ∀ (L : List OM.Stp) (i : Nat), (stepCells L).take (i * 2) = stepCells (L.take i)
  | _, 0 => by simp [stepCells]
  | [], i + 1 => by simp [stepCells]
  | y :: l, i + 1 => by
    have e : stepCells (y :: l) = .string y.key :: .int .i64 y.delta :: stepCells l := rfl
    rw [e, show (i + 1) * 2 = i * 2 + 2 by omega, List.take_succ_cons, List.take_succ_cons, step_take l i]
    rfl
theorem stepsOk_at : ∀ {l b : List OM.Stp} {i : Nat} {s : OM.Stp}, OM.stepsOk b l = true → l[i]? = some s → (∀ x ∈ b ++ l.take i, x.key ≠ s.key) ∧ OM.nmOk s.key = true ∧ s.delta ≠ 0 ∧ -1152921504606846976 ≤ s.delta ∧ s.delta ≤ 1152921504606846976
  | [], _, _, _, _, h => by simp at h
  | y :: l, b, 0, s, h, hs => by
    have : y = s := by simpa using hs
    subst this
    unfold OM.stepsOk at h
    simp only [Bool.and_eq_true, Bool.not_eq_true', decide_eq_true_eq, beq_eq_false_iff_ne] at h
    obtain ⟨⟨⟨⟨⟨h1, h2⟩, h3⟩, h4⟩, h5⟩, h6⟩ := h
    refine ⟨fun x hx => ?_, h2, h3, h4, h5⟩
    simp only [List.take_zero, List.append_nil] at hx
    intro e
    have : (b.any fun x => OM.eqS x.key y.key) = true := List.any_eq_true.2 ⟨x, hx, by unfold OM.eqS; exact decide_eq_true e⟩
    rw [this] at h1; cases h1
  | y :: l, b, i + 1, s, h, hs => by
    unfold OM.stepsOk at h
    simp only [Bool.and_eq_true] at h
    have := stepsOk_at (i := i) h.2 (by simpa using hs)
    refine ⟨fun x hx => this.1 x ?_, this.2⟩
    simpa [List.append_assoc] using hx
end Go.X

namespace Go.X
open Go
def exA {α : Type} (A : α → List Blk) : Ass := ⟨fun w S => ∃ z, Holds w (A z) S, fun _ _ _ h ⟨z, hx⟩ => ⟨z, hx.loc h⟩⟩
theorem exA.sel {α : Type} {A : α → List Blk} {H R : List Blk} {i : Nat} (hd : Rm H (.ext i (exA A)) R) : ∀ w S, Holds w H S → ∃ z S', Holds w (A z ++ R) S' ∧ ∀ k, S' k → S k := by
  intro w S h
  obtain ⟨S1, h1, e1⟩ := (HSub.perm hd.spec) w S h
  cases h1 with
  | @cons _ _ Sx T hx hb hY hd' =>
    obtain ⟨z, hz⟩ := hx
    obtain ⟨T', q1, q2⟩ := Holds.glue _ _ hz hY hd'
    exact ⟨z, T', q1, fun k hk => e1 k ((q2 k).1 hk)⟩
theorem exA.close {α : Type} {A : α → List Blk} {i : Nat} (z : α) : HSub [.ext i (exA A)] (A z) := HSub.close fun w S h => ⟨z, h⟩
def layF : List Blk → List Blk → (List Blk → Prop) → Prop
  | [], R, k => k R
  | x :: l, R, k => layF l R fun H => k (x :: H)
theorem layF_spec {R : List Blk} : ∀ {l : List Blk} {k : List Blk → Prop}, layF l R k → k (l ++ R)
  | [], _, h => h
  | x :: l, k, h => layF_spec (l := l) (k := fun H => k (x :: H)) h
section
variable {c : Cx} {o : Oper} {E : Env} {H : List Blk} {nx : K1}
theorem Run.ex {α : Type} {A : α → List Blk} {x : Code} {R : List Blk} {k : KC} {i : Nat} (hd : Rm H (.ext i (exA A)) R) (h : ∀ z, layF (A z) R fun H' => Run c x E H' k) : Run c x E H k :=
  Run.open (A := []) (B := []) (fun z => A z ++ R) (exA.sel hd) fun z => layF_spec (h z)
theorem CallK.sel {α : Type} {g : FuncId} {l : List SV} {L R : List Blk} {v : α → Value} {L' : α → List Blk} (hs : Sel H L R)
    (h : ∀ ms w, Kn c.W c.S ms H w → FrZ c.P g (denL l).toArray w (AssL L) v (fun z => AssL (L' z))) (hn : ∀ z, layF (L' z) R fun H' => nx (.v (v z)) H') : CallK c g l H nx := by
  refine CallK.gen fun ms w hk => ?_
  have hk2 : Kn c.W c.S ms (assB 0 L :: R) w := hk.hsub (HSub.trans (HSub.app2 (A' := [assB 0 L]) HSub.join (HSub.refl R)) (HSub.perm hs.spec))
  obtain ⟨T, h1, h2, _, h3⟩ := hk2.upd1 (At.head)
  refine (h ms w hk T h1 h2).mono ?_
  rintro e w' ⟨z, rfl, hp⟩
  refine ⟨.v (v z), L' z ++ R, rfl, ?_, layF_spec (hn z)⟩
  exact (h3 (assB 0 (L' z)) w' hp).hsub (HSub.app2 (A := [assB 0 (L' z)]) HSub.unjoin (HSub.refl R))
theorem CallK.selV {g : FuncId} {l : List SV} {L R : List Blk} {v : Value} {L' : List Blk} (hs : Sel H L R)
    (h : ∀ ms w, Kn c.W c.S ms H w → Fr c.P g (denL l).toArray w (AssL L) v (AssL L')) (hn : layF L' R fun H' => nx (.v v) H') : CallK c g l H nx := by
  refine CallK.sel (α := Unit) (v := fun _ => v) (L' := fun _ => L') hs (fun ms w hk S hS hlt => (h ms w hk S hS hlt).mono ?_) (fun _ => hn)
  rintro e w' ⟨rfl, hp⟩
  exact ⟨(), rfl, hp⟩
def YB (P : Program) (yv : Value) (x : List Value) (b : Bool) (J J' : Ass) : Prop :=
  ∀ w S, J.holds w S → (∀ k, S k → k < w.heap.size) → VC P yv x.toArray w (fun v w' => v = .bool b ∧ FPost S w J' w')
theorem CallV.yb {fv : Value} {l : List SV} {i : Nat} {J J' : Ass} {f : Blk → List Blk} {b : Bool} (hu : At H (.ext i J) f) (h : YB c.P fv (denL l) b J J') (hn : nx (.v (.bool b)) (f (.ext i J'))) : CallV c fv l H nx := by
  obtain ⟨A, B, rfl, hf⟩ := hu.spec
  rw [hf] at hn
  have hup : ∀ (A : List Blk), Upd (A ++ .ext i J :: B) (.ext i J) (.ext i J') (A ++ .ext i J' :: B) := fun A => by
    induction A with
    | nil => exact .head
    | cons a A ih => exact .tail ih
  exact CallV.fr (hup A) (fun w S h1 h2 => h w S h1 h2) hn
end
def ItX (P : Program) (gf : FuncId) (caps : List Value) (Hi Hi' : List Blk) (xs : List (List Value)) : Prop :=
  ∀ (stop : Nat) (J : Nat → Ass) (yv : Value), (∀ i x, xs[i]? = some x → i ≤ stop → YB P yv x (decide (i < stop)) (J i) (J (i + 1))) →
    ∀ w, Fr P gf (yv :: caps).toArray w (AssL (.ext 0 (J 0) :: Hi)) (.tuple #[]) (AssL (.ext 0 (J (min (stop + 1) xs.length)) :: Hi'))
def Ex.code : Ex → Option Code
  | .nrm => none
  | .ret => some .ret
  | .exit id => some (.exit id)
def rcEnd (rc : Loop) (ex : Ex) : Loop := { rc with state := if ex.code.isNone then .ready else .done, pending := ex.code }
structure BodyX (l : Nat) (rc : Loop) (j : Nat) (ex : Ex) (H' : List Blk) (e : Ex) (H : List Blk) : Prop where
  eq : e = ex
  out : HSub (.ext j (lrA l { rc with state := .busy }) :: H') H
def bodyX (l : Nat) (rc : Loop) (j : Nat) (ex : Ex) (H' : List Blk) : KC := fun e _ H => BodyX l rc j ex H' e H
structure AssignX (c : Cx) (l : Nat) (rc : Loop) (j : Nat) (bd : Code) (ex : Ex) (H' : List Blk) (E : Env) (H : List Blk) : Prop where
  out : ∃ H2, HSub (.ext j (lrA l rc) :: H2) H ∧ Run c bd E (.ext j (lrA l { rc with state := .busy }) :: H2) (bodyX l rc j ex H')
def assignX (c : Cx) (l : Nat) (rc : Loop) (j : Nat) (bd : Code) (ex : Ex) (H' : List Blk) : KC := fun e E H => match e with
  | .nrm => AssignX c l rc j bd ex H' E H
  | _ => False
theorem AssignX.rm {c : Cx} {l : Nat} {rc : Loop} {j : Nat} {bd : Code} {ex : Ex} {H' : List Blk} {E : Env} {H H2 : List Blk} (h : Rm H (.ext j (lrA l rc)) H2) (hr : Run c bd E (.ext j (lrA l { rc with state := .busy }) :: H2) (bodyX l rc j ex H')) : AssignX c l rc j bd ex H' E H :=
  ⟨⟨H2, HSub.perm h.spec, hr⟩⟩
section
variable {P : Program} {T : TR} {n : Nat} {hT : TOk P T}
theorem round_YX {l : Nat} {rc : Loop} {j : Nat} {x : List SV} {E : Env} {H H' : List Blk} {ex : Ex}
    (hrc : rc.state = .ready ∧ rc.pending = none) (hx : rc.params.toList.length = x.length) (hp : ∀ p ∈ rc.params.toList, p < n)
    (hE : Has n [] E ⟨rc.tmps, []⟩)
    (hb : ∀ W S, Run ⟨P, T, n, W, S, some l, hT⟩ rc.assign (putsE rc.params.toList x E) (.ext j (lrA l rc) :: H) (assignX ⟨P, T, n, W, S, some l, hT⟩ l rc j rc.body ex H')) :
    YB P (.func (.yield l) #[] #[]) (denL x) ex.code.isNone (AssL (.ext j (lrA l rc) :: H)) (AssL (.ext j (lrA l (rcEnd rc ex)) :: H')) := by
  intro w S hS hlt
  have hS : Holds w (.ext j (lrA l rc) :: H) S := hS
  have hk : Kn w S [] ([] ++ .ext j (lrA l rc) :: H) w := Kn.init hS (fun _ h => h)
  have hl := (hk.putLoop (rc' := rc)).1
  refine ⟨w, .round l rc.fn ((rc.params.zip (denL x).toArray).foldl (fun t p => t.setIfInBounds p.1 p.2) rc.tmps) rc.assign rc.body, ?_, ?_⟩
  · simp only [Deferred.ofValue, Sem.run_bind, Sem.run_pure, Result.andThen_ok, invoke, Instr.yield, getLoop_run hl]
    have : ((#[] : Array Value) ++ (denL x).toArray).size = rc.params.size := by simp [denL_length, ← hx]
    rw [if_neg (by simpa using this)]
    simp
  · refine roundIn_of_wpIn trivial ?_
    have hinit := zip_fold_has (ms := []) rc.params.toList x E rc.tmps hx hp hE
    have htm : (rc.params.zip (denL x).toArray).foldl (fun t p => t.setIfInBounds p.1 p.2) rc.tmps = (rc.params.toList.zip (denL x)).foldl (fun t p => t.setIfInBounds p.1 p.2) rc.tmps := by
      rw [← Array.foldl_toList]; simp
    rw [htm]
    have hw := (hb w S).out [] _ w hinit hk
    refine wpIn_mono hw ?_
    intro e a1 w1 hq
    cases e with
    | normal =>
      obtain ⟨ms, E1, H1, q1, q2, ⟨⟨H2, q0, q3⟩⟩⟩ := hq
      obtain ⟨g1, g2⟩ := Kn.putLoop (A := []) (B := H2) (rc' := { rc with state := .busy }) (q2.hsub q0)
      refine ⟨{ w1 with heap := w1.heap.setIfInBounds l (.loop { rc with state := .busy }) }, ?_, ?_⟩
      · simp only [Instr.beginRound, Sem.run_bind, getLoop_run g1, Result.andThen_ok, setObj_run g1 (by intro c t f; simp), hrc.1]
        rfl
      · have hw2 := q3.out ms a1 _ q1 g2
        refine wpIn_mono hw2 ?_
        have main : ∀ (e : Ex) (w2 : World) (ms2 : List Nat) (H3 : List Blk), Kn w S ms2 H3 w2 → BodyX l rc j ex H' e H3 → ∃ v w', (Instr.endRound l e.code).run P w2 = .ok v w' ∧ ((v = .bool ex.code.isNone) ∧ FPost S w (AssL (.ext j (lrA l (rcEnd rc ex)) :: H')) w') := by
          intro e w2 ms2 H3 r2 r3
          obtain ⟨rfl, r3⟩ := r3
          have r4 := r2.hsub r3
          obtain ⟨t1, t2⟩ := Kn.putLoop (A := []) (B := H') (rc' := rcEnd rc e) r4
          refine ⟨.bool e.code.isNone, { w2 with heap := w2.heap.setIfInBounds l (.loop (rcEnd rc e)) }, ?_, rfl, ?_⟩
          · simp only [Instr.endRound, Sem.run_bind, getLoop_run t1, Result.andThen_ok]
            rw [setObj_run t1 (by intro c t f; simp)]
            simp [rcEnd]
          · have h0 : Kn0 w S (ms2.map DB ++ ([] ++ .ext j (lrA l (rcEnd rc e)) :: H')) _ := t2
            have h1 : Kn w S [] (.ext j (lrA l (rcEnd rc e)) :: H') { w2 with heap := w2.heap.setIfInBounds l (.loop (rcEnd rc e)) } := by
              exact Kn0.hsub h0 (HSub.dropAll ms2 _)
            exact h1.single
        intro e a2 w2 hq2
        cases e with
        | normal =>
          obtain ⟨ms2, E2, H3, r1, r2, r3⟩ := hq2
          obtain ⟨v, w', h1, h2, h3⟩ := main .nrm w2 ms2 H3 r2 r3
          exact ⟨v, w', h1, v, rfl, h2, h3⟩
        | ret =>
          obtain ⟨ms2, E2, H3, r1, r2, r3⟩ := hq2
          obtain ⟨v, w', h1, h2, h3⟩ := main .ret w2 ms2 H3 r2 r3
          exact ⟨v, w', h1, v, rfl, h2, h3⟩
        | exit id =>
          obtain ⟨ms2, E2, H3, r1, r2, r3⟩ := hq2
          obtain ⟨v, w', h1, h2, h3⟩ := main (.exit id) w2 ms2 H3 r2 r3
          exact ⟨v, w', h1, v, rfl, h2, h3⟩
        | goto j => exact hq2.elim
        | panic j => exact hq2.elim
        | outgrown => exact hq2.elim
    | ret => obtain ⟨_, _, _, _, _, h⟩ := hq; exact h.elim
    | exit j => obtain ⟨_, _, _, _, _, h⟩ := hq; exact h.elim
    | goto j => exact hq.elim
    | panic j => exact hq.elim
    | outgrown => exact hq.elim
theorem r_rangeX {W : World} {S : Nat → Prop} {g : Operand} {ps : List Tmp} {asg bd : Code} {E : Env} {H : List Blk} {k : KC} {gf : FuncId} {caps : List SV} {Hi Hi' : List Blk}
    (HH : Nat → List Blk) (xs : List (List SV)) (stop : Nat) (ex : Ex) (j : Nat)
    (hg : opd E g = some (.fn gf caps)) (hex : ex ≠ .nrm) (hH : HSub (Hi ++ HH 0) H) (hit : ItX P gf (denL caps) Hi Hi' (xs.map denL))
    (hps : ∀ x ∈ xs, ps.length = x.length) (hp : ∀ p ∈ ps, p < n)
    (hb : ∀ i x, xs[i]? = some x → i ≤ stop → ∀ l rc W S, Run ⟨P, T, n, W, S, some l, hT⟩ asg (putsE ps x E) (.ext j (lrA l rc) :: HH i) (assignX ⟨P, T, n, W, S, some l, hT⟩ l rc j bd (if i < stop then .nrm else ex) (HH (i + 1))))
    (hk : xs.length ≤ stop → k .nrm E (Hi' ++ HH xs.length)) (hk2 : stop < xs.length → k ex E (Hi' ++ HH (stop + 1))) : Run ⟨P, T, n, W, S, none, hT⟩ (.rangeFunc g ps.toArray asg bd) E H k := by
  refine .of fun ms a w ha hkn => ?_
  have hkn := hkn.hsub hH
  refine wpIn_rangeFunc fun fn _ => ?_
  have hgv := ha.opd hg
  simp only [den] at hgv
  let r := w.heap.size
  let rc : Loop := { state := .ready, pending := none, fn, tmps := a.tmps, params := ps.toArray, assign := asg, body := bd, defers := r }
  let w1 := (w.alloc (.deferred (some []))).alloc (.loop rc)
  have hw1 : w1.heap.size = w.heap.size + 2 := by simp [w1]
  have halloc : ∀ (w : World) (A : Ass) (H : List Blk) (o : Obj) (i : Nat), Kn0 W S H w → (∀ w' S, S w.heap.size → w'.heap[w.heap.size]? = some o → A.holds w' S) → Kn0 W S (.ext i A :: H) (w.alloc o) := by
    intro w A H o i h hA
    obtain ⟨T, hT, hb⟩ := h.foot
    have he : ∀ k, k < w.heap.size → (w.alloc o).heap[k]? = w.heap[k]? := by
      intro k hk; rw [heap_alloc, Array.getElem?_push, if_neg (by omega)]
    refine h.eff (T := fun _ => False) (fun _ h => h.elim) ⟨rfl, rfl, rfl, by simp, fun k hk _ => he k hk⟩
      (.cons (S := fun k => k = w.heap.size) (x := .ext i A) (hA _ _ rfl (by rw [heap_alloc]; simp)) (by rintro k rfl; simp) (hT.mono (by simp) fun k hk => he k (hT.lt k hk)) ?_) ?_
    · rintro k rfl hk; exact absurd (hT.lt _ hk) (Nat.lt_irrefl _)
    · rintro k (rfl | hk)
      · exact .inr (.inr h.size)
      · exact .inr (hb k hk)
  have k1 : Kn0 W S (DB r :: (ms.map DB ++ (Hi ++ HH 0))) (w.alloc (.deferred (some []))) :=
    halloc w (defA r) _ (.deferred (some [])) 0 hkn (fun w' S h1 h2 => ⟨h1, h2⟩)
  have k2 : Kn0 W S (.ext j (lrA (r + 1) rc) :: DB r :: (ms.map DB ++ (Hi ++ HH 0))) w1 := by
    have := halloc _ (lrA (r + 1) rc) _ (.loop rc) j k1 (fun w' S h1 h2 => ⟨by simpa [r] using h1, by simpa [r] using h2⟩)
    exact this
  have hperm : (Blk.ext j (lrA (r + 1) rc) :: DB r :: (ms.map DB ++ (Hi ++ HH 0))).Perm (((r :: ms).map DB) ++ (Hi ++ (.ext j (lrA (r + 1) rc) :: HH 0))) := by
    simp only [List.map_cons, List.cons_append]
    refine (List.Perm.swap _ _ _).trans (.cons _ ?_)
    rw [← List.append_assoc, ← List.append_assoc]
    exact List.perm_middle.symm
  have k3 : Kn W S (r :: ms) (Hi ++ (.ext j (lrA (r + 1) rc) :: HH 0)) w1 := k2.perm hperm
  let rs : Nat → Loop := fun i => if i ≤ stop then rc else rcEnd rc ex
  let J : Nat → Ass := fun i => AssL (.ext j (lrA (r + 1) (rs i)) :: HH i)
  obtain ⟨T0, hT0, hTb⟩ := Kn0.foot k3
  obtain ⟨TM, TR, q1, q2, q3, q4⟩ := hT0.split _ _
  obtain ⟨TI, TJ, p1, p2, p3, p4⟩ := q2.split _ _
  have hJI : (AssL (.ext 0 (J 0) :: Hi)).holds w1 (fun k => TJ k ∨ TI k) :=
    .cons (x := .ext 0 (J 0)) (by show Holds _ _ _; simpa [rs] using p2) (fun k hk => p2.lt k hk) p1 (fun k hk hk' => p3 k hk' hk)
  have hYB : ∀ i x, (xs.map denL)[i]? = some x → i ≤ stop → YB P (.func (.yield (r + 1)) #[] #[]) x (decide (i < stop)) (J i) (J (i + 1)) := by
    intro i x hx hi
    simp only [List.getElem?_map, Option.map_eq_some_iff] at hx
    obtain ⟨y, hy, rfl⟩ := hx
    have h1 := round_YX (n := n) (T := T) (hT := hT) (E := E) (j := j) (ex := if i < stop then .nrm else ex) (rc := rc) (l := r + 1) (x := y) (H := HH i) (H' := HH (i + 1)) ⟨rfl, rfl⟩ (by simpa [rc] using hps y (List.mem_of_getElem? hy)) (by simpa [rc] using hp) ⟨ha.size, rfl, ha.get⟩ (fun W S => by
      have := hb i y hy hi (r + 1) rc W S
      simpa [rc] using this)
    have e0 : J i = AssL (.ext j (lrA (r + 1) rc) :: HH i) := by simp only [J, rs, if_pos hi]
    rw [e0]
    by_cases hlt : i < stop
    · have e1 : J (i + 1) = AssL (.ext j (lrA (r + 1) rc) :: HH (i + 1)) := by simp only [J, rs]; rw [if_pos (by omega)]
      rw [e1, decide_eq_true hlt]
      rw [if_pos hlt] at h1
      exact h1
    · have e1 : J (i + 1) = AssL (.ext j (lrA (r + 1) (rcEnd rc ex)) :: HH (i + 1)) := by simp only [J, rs]; rw [if_neg (by omega)]
      rw [e1, decide_eq_false hlt]
      rw [if_neg hlt] at h1
      have : ex.code.isNone = false := by cases ex <;> first | rfl | exact absurd rfl hex
      rw [this] at h1
      exact h1
  have hcall := hit stop J (.func (.yield (r + 1)) #[] #[]) hYB w1 _ hJI (fun k hk => hk.elim (p2.lt k) (p1.lt k))
  have hbod := hcall.both
  refine ⟨r + 1, [mk r], w1, { target := .fn (.func gf) (denL caps).toArray, args := #[.func (.yield (r + 1)) #[] #[]] }, w1, gf, (Value.func (.yield (r + 1)) #[] #[] :: denL caps).toArray, w1, ?_, ?_, fun _ _ => trivial, ?_, ?_, callsIn_of_calls (c := ⟨P, T, n, W, S, none, hT⟩) (hbod.2.mono ?_)⟩
  · simp only [Cx.F, Fence.wide, Instr.enterLoop, Sem.run_bind, run_newObj, Result.andThen_ok, Sem.run_pure, Array.size_push]
    rfl
  · have hc : a.eval (.const (.func (.yield (r + 1)) #[] #[])) = .func (.yield (r + 1)) #[] #[] := rfl
    simp [resolve, hgv, Deferred.ofValue, hc]
  · simp only [invoke]
    rw [run_callFunc hbod.1]
    simp
  · intro h; simp [Cx.F, Fence.wide] at h
  · rintro e w' ⟨rfl, he, S', hS', hlt'⟩
    have hS' : Holds w' (.ext 0 (J (min (stop + 1) (xs.map denL).length)) :: Hi') S' := hS'
    rw [List.length_map] at hS'
    cases hS' with
    | @cons _ _ SJ SI hJ hJb hI hd =>
      have hJ : Holds w' (.ext j (lrA (r + 1) (rs (min (stop + 1) xs.length))) :: HH (min (stop + 1) xs.length)) SJ := hJ
      have hM : Holds w' ((r :: ms).map DB) TM := q1.mono he.size fun k hk => he.old k (q1.lt k hk) fun h => by
        rcases h with h | h
        · exact q3 k hk ((p4 k).2 (.inr h))
        · exact q3 k hk ((p4 k).2 (.inl h))
      obtain ⟨TX, g1, g2⟩ := Holds.glue _ _ hI hJ (fun k hk hk' => hd k hk' hk)
      have hnew : ∀ k, TX k → (TJ k ∨ TI k) ∨ w1.heap.size ≤ k := fun k hk => by
        rcases (g2 k).1 hk with h | h
        · exact (hlt' k (.inr h)).2
        · exact (hlt' k (.inl h)).2
      obtain ⟨TY, g3, g4⟩ := Holds.glue _ _ hM g1 (fun k hk hk' => by
        rcases hnew k hk' with (h | h) | h
        · exact q3 k hk ((p4 k).2 (.inr h))
        · exact q3 k hk ((p4 k).2 (.inl h))
        · have := q1.lt k hk; omega)
      have k4 : Kn W S (r :: ms) (Hi' ++ .ext j (lrA (r + 1) (rs (min (stop + 1) xs.length))) :: HH (min (stop + 1) xs.length)) w' := by
        refine Kn0.eff k3 (T := fun k => TJ k ∨ TI k) (fun k hk => hTb k ?_) he g3 fun k hk => ?_
        · rcases hk with h | h
          · exact (q4 k).2 (.inr ((p4 k).2 (.inr h)))
          · exact (q4 k).2 (.inr ((p4 k).2 (.inl h)))
        · rcases (g4 k).1 hk with h | h
          · exact .inr (hTb k ((q4 k).2 (.inl h)))
          · rcases hnew k h with h | h
            · exact .inl h
            · have := Kn0.size k3; exact .inr (.inr (by omega))
      have hdrop : ∀ (A B : List Blk) (x : Blk), HSub (A ++ B) (A ++ x :: B) := fun A B x => (HSub.refl A).app2 (.drop (HSub.refl B))
      by_cases hst : stop < xs.length
      · have hm : min (stop + 1) xs.length = stop + 1 := by omega
        rw [hm] at k4
        have hrs : rs (stop + 1) = rcEnd rc ex := by
          show (if stop + 1 ≤ stop then rc else rcEnd rc ex) = _
          rw [if_neg (by omega)]
        rw [hrs] at k4
        obtain ⟨t1, t2⟩ := Kn.putLoop (rc' := { rcEnd rc ex with state := .exhausted }) k4
        have hns : ex.code.isNone = false := by cases ex <;> first | rfl | exact absurd rfl hex
        refine ⟨ex.code, { w' with heap := w'.heap.setIfInBounds (r + 1) (.loop { rcEnd rc ex with state := .exhausted }) }, ?_, ?_⟩
        · simp only [Instr.endLoop, Sem.run_bind, getLoop_run t1, Result.andThen_ok]
          rw [if_neg (by simp [rcEnd, hns])]
          simp only [Sem.run_bind, setObj_run t1 (by intro c t f; simp), Result.andThen_ok, Sem.run_pure]
          rfl
        · have hq := hk2 hst
          have ha' : Has n (r :: ms) E { a with defers := [mk r] ++ a.defers } := ⟨ha.size, by simp [ha.defers], ha.get⟩
          have k5 := t2.hsub (hdrop _ _ _)
          cases ex with
          | nrm => exact absurd rfl hex
          | ret => exact wpIn_ret ⟨r :: ms, E, _, ha', k5, hq⟩
          | exit id => exact wpIn_exit ⟨r :: ms, E, _, ha', k5, hq⟩
      · have hm : min (stop + 1) xs.length = xs.length := by omega
        rw [hm] at k4
        have hrs : rs xs.length = rc := by simp only [rs]; rw [if_pos (by omega)]
        rw [hrs] at k4
        obtain ⟨t1, t2⟩ := Kn.putLoop (rc' := { rc with state := .exhausted }) k4
        refine ⟨none, { w' with heap := w'.heap.setIfInBounds (r + 1) (.loop { rc with state := .exhausted }) }, ?_, ?_⟩
        · simp only [Instr.endLoop, Sem.run_bind, getLoop_run t1, Result.andThen_ok]
          rw [if_neg (by simp [rc])]
          simp only [Sem.run_bind, setObj_run t1 (by intro c t f; simp), Result.andThen_ok, Sem.run_pure]
          rfl
        · exact ⟨r :: ms, E, Hi' ++ HH xs.length, ⟨ha.size, by simp [ha.defers], ha.get⟩, t2.hsub (hdrop _ _ _), hk (by omega)⟩
theorem r_rangeN {W : World} {S : Nat → Prop} {g : Operand} {ps : List Tmp} {asg bd : Code} {E : Env} {H : List Blk} {k : KC} {gf : FuncId} {caps : List SV} {Hi Hi' : List Blk}
    (HH : Nat → List Blk) (xs : List (List SV)) (j : Nat)
    (hg : opd E g = some (.fn gf caps)) (hH : HSub (Hi ++ HH 0) H) (hit : ItX P gf (denL caps) Hi Hi' (xs.map denL))
    (hps : ∀ x ∈ xs, ps.length = x.length) (hp : ∀ p ∈ ps, p < n)
    (hb : ∀ i x, xs[i]? = some x → ∀ l rc W S, Run ⟨P, T, n, W, S, some l, hT⟩ asg (putsE ps x E) (.ext j (lrA l rc) :: HH i) (assignX ⟨P, T, n, W, S, some l, hT⟩ l rc j bd .nrm (HH (i + 1))))
    (hk : k .nrm E (Hi' ++ HH xs.length)) : Run ⟨P, T, n, W, S, none, hT⟩ (.rangeFunc g ps.toArray asg bd) E H k := by
  refine r_rangeX HH xs xs.length .ret j hg (by simp) hH hit hps hp (fun i x hx hi l rc W S => ?_) (fun _ => hk) (fun h => absurd h (Nat.lt_irrefl _))
  have hlt : i < xs.length := (List.getElem?_eq_some_iff.1 hx).1
  rw [if_pos hlt]
  exact hb i x hx l rc W S
end
end Go.X

namespace Go.X
open Go
section
variable {c : Cx} {o : Oper} {E : Env} {H : List Blk} {nx : K1}
theorem OpK.re {s : SV} (h : OpK c o E H (fun s' H' => den s' = den s ∧ H' = H)) (hn : nx s H) : OpK c o E H nx := by
  refine ⟨fun ms a w ha hk Q => Oper.wpIn_mono ?_ (h.get ms a w ha hk Q)⟩
  rintro a' w' ⟨s', H', h1, h2, h3, rfl⟩
  exact ⟨s, H', by rw [h1, h3], h2, hn⟩
theorem QK.ixP {kk : SV → Prop} {t e len : Nat} {x ix : Operand} {ti j : TI} (ho : o.op = .indexAddr t x ix) {b off : Nat} {q : IntKind} {z : Int} (hx : opd E x = some (.v (.pointer (some ⟨b, off, none⟩)))) (hi : opd E ix = some (.v (.int q z)))
    (hti : c.T.get t = some ti) (hd : ti.desc = .array len e) (hj : c.T.get e = some j) (h0 : 0 ≤ z) (hlt : z < len) (h : kk (.v (.pointer (some ⟨b, off + z.toNat * j.size, none⟩)))) : QK c o E H kk := by
  refine QK.val _ (fun ms ac w ha hk => ?_) h
  have hu := (c.ok t ti hti).1
  rw [hd] at hu
  have e1 := ha.opd hx
  have e2 := ha.opd hi
  simp only [den] at e1 e2
  simp [execOp, ho, e1, e2, Instr.indexAt, asIntOf, Instr.sureAddr, run_underlying hu, r_sizeOf (c.ok e j hj) w, hlt, h0, add_none, den]
theorem OpK.lenM {t kt et : Nat} {x : Operand} {ti : TI} {m i : Nat} {f : Int → Option Value} {fn : Blk → List Blk} {ks : List Int} (ho : o.op = .call { callee := .builtin .len, args := #[x], argTypes := #[t] }) (hx : opd E x = some (.v (.map (some m))))
    (hti : c.T.get t = some ti) (hd : ti.desc = .map kt et) (hu : At H (.ext i (MpK m f)) fn) (hks : KeysOf f ks)
    (h : nx (.v (.int .i64 ks.length)) H) : OpK c o E H nx := by
  have hnd : ∀ cl, o.op ≠ .defer cl := by rw [ho]; intro cl e; cases e
  refine OpK.run hnd fun ms a w ha hk => ?_
  have h1 := (c.ok t ti hti).1
  rw [hd] at h1
  have e1 := ha.opd hx
  simp only [den] at e1
  obtain ⟨es, clk, hr, hb⟩ := hk.getK hu
  have hg := getObj_ran (P := c.P) hb (by intro _ _ _ e; cases e)
  have hl : es.length = ks.length := by
    obtain ⟨zs, q1, q2⟩ := hr.perm hks
    have := congrArg List.length q1
    simp only [List.length_map] at this
    rw [this]; exact q2.length_eq
  exact ⟨.v (.int .i64 ks.length), _, w, by simp [execOp, ho, resolve, invoke, builtin, e1, Builtin.len_, run_underlying h1, hg, goInt, hl, den], hk, h⟩
theorem OpK.stS {t : Nat} {x y : Operand} {ti : TI} (ho : o.op = .store t x y) {b q p off : Nat} {s : SV} (hx : opd E x = some (.v (.pointer (some ⟨b, q, none⟩)))) (hy : opd E y = some s)
    (hti : c.T.get t = some ti) (h1 : ti.size = 1) (hone : s.one = true) {e k n cap i : Nat} {cs : List Value} {f : Blk → List Blk} (hu : At H (.ext i (SlA e k (some ⟨b, p, none⟩) n cap cs)) f) (hq : q = p + off) (hl : off < cs.length)
    (h : nx (.v undef) (f (.ext i (SlA e k (some ⟨b, p, none⟩) n cap (cs.set off (den s)))))) : OpK c o E H nx := by
  subst hq
  have hnd : ∀ cl, o.op ≠ .defer cl := by rw [ho]; intro cl e; cases e
  refine ⟨?_⟩
  intro ms a w ha hk Q
  have e1 := ha.opd hx
  have e2 := ha.opd hy
  simp only [den] at e1
  have hone' := one_den hone
  have hcells : (den s).cells = [den s].toArray := by
    cases s <;> simp [den, SV.one] at hone hone' ⊢ <;> first | rfl | (rename_i x; cases x <;> first | rfl | simp_all [Value.oneCell', Value.cells])
  obtain ⟨T, g1, g2, _, g4⟩ := hk.upd1 hu
  rcases g1 with ⟨g, _⟩ | ⟨b', hb, pre, post, fr, he, hh, hlen, hnc, hp, hf⟩
  · cases g
  simp only [Option.some.injEq, Addr.mk.injEq, and_true] at he
  obtain ⟨rfl, rfl⟩ := he
  have hst := run_storeCells_cells (P := c.P) b (pre.length + off) [den s] 0 w (fun q hq => by rw [cell_of hh]; simp at hq ⊢; omega) (fun q hq => SlAt.free (k := k) hh hf (by simp at hq; omega)) (by simpa using hone')
  simp only [Nat.add_zero] at hst
  have hr : (storeVar t ⟨b, pre.length + off, none⟩ (den s)).run c.P w = .ok () (w.setCells b (pre.length + off) [den s]) := by
    unfold storeVar
    rw [Sem.run_bind, r_sizeOf (c.ok t ti hti) w]
    simp only [Result.andThen_ok, hcells, List.size_toArray, List.length_singleton, h1, ne_eq, not_true_eq_false, if_false]
    simpa using hst
  obtain ⟨q1, q2, q3, q4⟩ := setCells_same (b := b) [den s] (pre.length + off) w
  refine wpIn_of_skip hnd (w' := w.setCells b (pre.length + off) [den s]) (by simp [execOp, ho, e1, e2, Instr.storeAt, Instr.sureAddr, hr]) ⟨.v undef, _, rfl, g4 (.ext i (SlA e k (some ⟨b, pre.length, none⟩) n cap (cs.set off (den s)))) _ ⟨⟨q1, q2, q3, by rw [q4]; exact Nat.le_refl _, fun k hk hn => setCells_other _ _ _ _ (fun e => hn (e ▸ hb))⟩, fun k => k = b, .inr ⟨b, rfl, pre, post, fr, rfl, ?_, ?_, hnc, hp, ?_⟩, ?_⟩, h⟩
  · rw [setCells_heap [den s] (pre.length + off) w _ hh (by simp; omega)]
    congr 2
    rw [List.set_eq_take_append_cons_drop, if_pos hl]
    rw [List.append_assoc pre cs post, List.take_append, List.take_of_length_le (show pre.length ≤ pre.length + off by omega), List.drop_append, List.drop_of_length_le (show pre.length ≤ pre.length + off + [den s].length by simp; omega), show pre.length + off - pre.length = off by omega, show pre.length + off + [den s].length - pre.length = off + 1 by simp; omega]
    rw [List.take_append_of_le_length (by omega), List.drop_append_of_le_length (by omega)]
    simp
  · rw [List.length_set]; exact hlen
  · intro hne
    have h5 := hf hne
    exact ⟨h5.1, by rw [List.length_set]; exact h5.2⟩
  · rintro k rfl
    exact ⟨by rw [q4]; exact g2 k hb, .inl hb⟩
end
theorem anyF.id {c : Cx} {all : List Oper} {k : KE} {n : Nat} {l : List Bool} {E : Env} {H : List Blk} (h : anyF c all k n l E H) : anyF c all k n l E H := h
def GlA (o0 o1 : Obj) : Ass := ⟨fun w S => (S 0 ∧ S 1) ∧ w.heap[0]? = some o0 ∧ w.heap[1]? = some o1, fun _ _ _ h hx => ⟨hx.1, by rw [h 0 hx.1.1]; exact hx.2.1, by rw [h 1 hx.1.2]; exact hx.2.2⟩⟩
theorem Kn.gl {W S ms H w} {i : Nat} {o0 o1 : Obj} {f : Blk → List Blk} (hu : At H (.ext i (GlA o0 o1)) f) (h : Kn W S ms H w) : w.heap[0]? = some o0 ∧ w.heap[1]? = some o1 := by
  obtain ⟨T, h1, _⟩ := h.upd1 hu
  exact h1.2
section
variable {α : Type} {g : α → List Value} {k : Nat}
theorem flat_len (hg : ∀ x, (g x).length = k) : ∀ (L : List α), (L.flatMap g).length = L.length * k
  | [] => by simp
  | x :: l => by rw [List.flatMap_cons, List.length_append, hg, flat_len hg l, List.length_cons, Nat.add_mul, Nat.one_mul, Nat.add_comm]
theorem flat_at (hg : ∀ x, (g x).length = k) : ∀ {L : List α} {i : Nat} {x : α}, L[i]? = some x → ((L.flatMap g).drop (i * k)).take k = g x
  | [], _, _, h => by simp at h
  | y :: l, 0, x, h => by
    obtain rfl : y = x := by simpa using h
    rw [Nat.zero_mul, List.drop_zero, List.flatMap_cons, List.take_append_of_le_length (by rw [hg]; exact Nat.le_refl _), List.take_of_length_le (by rw [hg]; exact Nat.le_refl _)]
  | y :: l, i + 1, x, h => by
    rw [List.flatMap_cons, List.drop_append, List.drop_of_length_le (by rw [hg, Nat.add_mul]; omega), List.nil_append, hg, show (i + 1) * k - k = i * k by rw [Nat.add_mul]; omega]
    exact flat_at hg (by simpa using h)
theorem flat_take (hg : ∀ x, (g x).length = k) : ∀ (L : List α) (i : Nat), (L.flatMap g).take (i * k) = (L.take i).flatMap g
  | _, 0 => by simp
  | [], i + 1 => by simp
  | y :: l, i + 1 => by
    rw [List.flatMap_cons, List.take_succ_cons, List.flatMap_cons, List.take_append, List.take_of_length_le (by rw [hg, Nat.add_mul]; omega), hg, show (i + 1) * k - k = i * k by rw [Nat.add_mul]; omega, flat_take hg l i]
theorem flat_drop (hg : ∀ x, (g x).length = k) : ∀ (L : List α) (i : Nat), (L.flatMap g).drop (i * k) = (L.drop i).flatMap g
  | _, 0 => by simp
  | [], i + 1 => by simp
  | y :: l, i + 1 => by
    rw [List.flatMap_cons, List.drop_succ_cons, List.drop_append, List.drop_of_length_le (by rw [hg, Nat.add_mul]; omega), List.nil_append, hg, show (i + 1) * k - k = i * k by rw [Nat.add_mul]; omega, flat_drop hg l i]
theorem flat_set (hg : ∀ x, (g x).length = k) {f : α → α} {j : Nat} {v : Value} (hj : j < k) : ∀ {L : List α} {i : Nat} {x : α}, L[i]? = some x → g (f x) = (g x).set j v → (L.flatMap g).set (i * k + j) v = (L.modify i f).flatMap g
  | [], _, _, h, _ => by simp at h
  | y :: l, 0, x, h, hf => by
    obtain rfl : y = x := by simpa using h
    rw [Nat.zero_mul, Nat.zero_add, List.flatMap_cons, List.set_append_left _ _ (by rw [hg]; exact hj), List.modify_zero_cons, List.flatMap_cons, hf]
  | y :: l, i + 1, x, h, hf => by
    rw [List.flatMap_cons, List.set_append_right _ _ (by rw [hg, Nat.add_mul]; omega), hg, show (i + 1) * k + j - k = i * k + j by rw [Nat.add_mul]; omega, flat_set hg hj (by simpa using h) hf, List.modify_succ_cons, List.flatMap_cons]
end
theorem AssL.re1 {A : Ass} {i q : Nat} {M : List Blk} {w : World} {S : Nat → Prop} (h : (AssL (.ext i A :: M)).holds w S) : (AssL (.ext q A :: M)).holds w S := by
  have h : Holds w (.ext i A :: M) S := h
  cases h with
  | @cons _ _ S1 T1 hx hb hH hd => exact Holds.cons (x := .ext q A) hx hb hH hd
theorem AssL.re2 {A B : Ass} {i q j p : Nat} {M : List Blk} {w : World} {S : Nat → Prop} (h : (AssL (.ext i A :: .ext j B :: M)).holds w S) : (AssL (.ext q A :: .ext p B :: M)).holds w S := by
  have h : Holds w (.ext i A :: .ext j B :: M) S := h
  cases h with
  | @cons _ _ S1 T1 hx hb hH hd => exact Holds.cons (x := .ext q A) hx hb (AssL.re1 (i := j) hH) hd
section
variable {c : Cx} {H : List Blk} {nx : K1}
theorem CallK.selR {α : Type} {g : FuncId} {l : List SV} {L R : List Blk} {v : α → Value} {L' : α → List Blk} (hs : Sel H L R)
    (h : ∀ ms w, Kn c.W c.S ms H w → FrZ c.P g (denL l).toArray w (AssL L) v (fun z => AssL (L' z))) (hn : ∀ z, layF R (L' z) fun H' => nx (.v (v z)) H') : CallK c g l H nx := by
  refine CallK.gen fun ms w hk => ?_
  have hk2 : Kn c.W c.S ms (assB 0 L :: R) w := hk.hsub (HSub.trans (HSub.app2 (A' := [assB 0 L]) HSub.join (HSub.refl R)) (HSub.perm hs.spec))
  obtain ⟨T, h1, h2, _, h3⟩ := hk2.upd1 (At.head)
  refine (h ms w hk T h1 h2).mono ?_
  rintro e w' ⟨z, rfl, hp⟩
  refine ⟨.v (v z), R ++ L' z, rfl, ?_, layF_spec (hn z)⟩
  exact ((h3 (assB 0 (L' z)) w' hp).hsub (HSub.app2 (A := [assB 0 (L' z)]) HSub.unjoin (HSub.refl R))).hsub (HSub.perm List.perm_append_comm)
theorem CallK.s1 {α : Type} {g : FuncId} {l : List SV} {i q : Nat} {A : Ass} {R : List Blk} {v : α → Value} {A' : α → Ass} {M : α → List Blk} (h1 : Rm H (.ext i A) R)
    (h : ∀ ms w, Kn c.W c.S ms H w → FrZ c.P g (denL l).toArray w (AssL [.ext q A]) v (fun z => AssL (.ext q (A' z) :: M z))) (hn : ∀ z, layF R (.ext i (A' z) :: M z) fun H' => nx (.v (v z)) H') : CallK c g l H nx := by
  refine CallK.selR (L := [.ext i A]) (v := v) (L' := fun z => .ext i (A' z) :: M z) (Sel.cons h1 Sel.nil) (fun ms w hk S hS hlt => (h ms w hk S (AssL.re1 hS) hlt).mono ?_) hn
  rintro e w' ⟨z, rfl, he, S', h1, h2⟩
  exact ⟨z, rfl, he, S', AssL.re1 h1, h2⟩
theorem CallK.s1V {g : FuncId} {l : List SV} {i q : Nat} {A A' : Ass} {R M : List Blk} {v : Value} (h1 : Rm H (.ext i A) R)
    (h : ∀ ms w, Kn c.W c.S ms H w → Fr c.P g (denL l).toArray w (AssL [.ext q A]) v (AssL (.ext q A' :: M))) (hn : layF R (.ext i A' :: M) fun H' => nx (.v v) H') : CallK c g l H nx := by
  refine CallK.s1 (α := Unit) (q := q) (v := fun _ => v) (A' := fun _ => A') (M := fun _ => M) h1 (fun ms w hk S hS hlt => (h ms w hk S hS hlt).mono ?_) (fun _ => hn)
  rintro e w' ⟨rfl, hp⟩
  exact ⟨(), rfl, hp⟩
theorem CallK.s2 {α : Type} {g : FuncId} {l : List SV} {i q j p : Nat} {A B : Ass} {H1 R : List Blk} {v : α → Value} {A' B' : α → Ass} {M : α → List Blk} (h1 : Rm H (.ext i A) H1) (h2 : Rm H1 (.ext j B) R)
    (h : ∀ ms w, Kn c.W c.S ms H w → FrZ c.P g (denL l).toArray w (AssL [.ext q A, .ext p B]) v (fun z => AssL (.ext q (A' z) :: .ext p (B' z) :: M z))) (hn : ∀ z, layF R (.ext i (A' z) :: .ext j (B' z) :: M z) fun H' => nx (.v (v z)) H') : CallK c g l H nx := by
  refine CallK.selR (L := [.ext i A, .ext j B]) (v := v) (L' := fun z => .ext i (A' z) :: .ext j (B' z) :: M z) (Sel.cons h1 (Sel.cons h2 Sel.nil)) (fun ms w hk S hS hlt => (h ms w hk S (AssL.re2 hS) hlt).mono ?_) hn
  rintro e w' ⟨z, rfl, he, S', h1, h2⟩
  exact ⟨z, rfl, he, S', AssL.re2 h1, h2⟩
theorem CallK.s2V {g : FuncId} {l : List SV} {i q j p : Nat} {A B A' B' : Ass} {H1 R M : List Blk} {v : Value} (h1 : Rm H (.ext i A) H1) (h2 : Rm H1 (.ext j B) R)
    (h : ∀ ms w, Kn c.W c.S ms H w → Fr c.P g (denL l).toArray w (AssL [.ext q A, .ext p B]) v (AssL (.ext q A' :: .ext p B' :: M))) (hn : layF R (.ext i A' :: .ext j B' :: M) fun H' => nx (.v v) H') : CallK c g l H nx := by
  refine CallK.s2 (α := Unit) (q := q) (p := p) (v := fun _ => v) (A' := fun _ => A') (B' := fun _ => B') (M := fun _ => M) h1 h2 (fun ms w hk S hS hlt => (h ms w hk S hS hlt).mono ?_) (fun _ => hn)
  rintro e w' ⟨rfl, hp⟩
  exact ⟨(), rfl, hp⟩
end
end Go.X

namespace Go.X
open Go
theorem RdS.pre {w : World} {e k : Nat} {a : Option Addr} {n cap u : Nat} {cs : List Value} (h : RdS w e k a n cap cs) (hu : u ≤ n) : RdS w e k a u cap (cs.take (u * k)) := by
  obtain ⟨T, h1, h2⟩ := h
  have h3 := SlA.part h1 (Nat.zero_le u) hu
  have h4 := SlA.spot h1
  refine ⟨T, ?_, h2⟩
  simp only [Nat.sub_zero, Nat.zero_mul, List.drop_zero] at h3
  by_cases hc : cap = 0
  · rw [if_pos hc] at h3; exact h3
  · rw [if_neg hc, h4] at h3; exact h3
theorem RdS.suf {w : World} {e k : Nat} {a : Option Addr} {n cap l : Nat} {cs : List Value} (h : RdS w e k a n cap cs) (hl : l ≤ n) : RdS w e k (if cap = l then a else a.map (·.add (l * k))) (n - l) (cap - l) (cs.drop (l * k)) := by
  have hlen := h.len
  obtain ⟨T, h1, h2⟩ := h
  have h3 := SlA.part h1 hl (Nat.le_refl n)
  rw [List.take_of_length_le (by rw [List.length_drop, hlen, ← Nat.sub_mul]; exact Nat.le_refl _)] at h3
  exact ⟨T, h3, h2⟩
theorem RdS.ofGot {w : World} {b t n k : Nat} {cs : List SV} (h : w.heap[b]? = some (.cells (denL cs).toArray t (0, 0))) (hl : cs.length = n * k) : RdS w t k (some ⟨b, 0, none⟩) n n (denL cs) :=
  ⟨fun j => j = b, .inr ⟨b, rfl, [], [], (0, 0), rfl, by simpa using h, by rw [denL_length]; exact hl, Nat.le_refl _, by simp, by simp⟩, fun j hj => by subst hj; exact (Array.getElem?_eq_some_iff.1 h).1⟩
theorem run_append_zeros {P : Program} {w : World} (t tx ty e : TypeId) (i : TypeInfo) (z : Value) (ht : P.underlying t = some (.slice e)) (hx : P.underlying tx = some (.int .i64)) (hi : P.info? e = some i) (hz : i.zero = some z) (n : Nat) (hn : 0 < n) (hn2 : n ≤ 1000000) (hs : 0 < i.size) (hb : i.bytes ≤ 100000) :
    (Builtin.append_ #[t, tx] ty #[.slice none 0 0, .int .i64 n]).run P w =
      .ok (.slice (some ⟨w.heap.size, 0, none⟩) n (grownCap w n 0 e)) (w.drew.alloc (.cells (Builtin.zeroCells z.cells n ++ Builtin.zeroCells z.cells (grownCap w n 0 e - n)) e)) := by
  have hw : IntKind.i64.wrap (n : Int) = n := IntWalk.i64_in _ (by omega)
  have h0 : ¬ ((n : Int) < 0) := by omega
  have hmul : n * i.bytes ≤ 1000000 * 100000 := Nat.mul_le_mul hn2 hb
  have h1 : ¬ ((281474976710656 : Int) < (n : Int) * (i.bytes : Int)) := by
    have : (n : Int) * (i.bytes : Int) = ((n * i.bytes : Nat) : Int) := by push_cast; rfl
    rw [this]; omega
  have h2 : ¬ (n ≤ 0) := by omega
  have h3 : ¬ ((9223372036854775807 : Int) < (n : Int)) := by omega
  have hnc : Builtin.nextslicecap n 0 = n := by unfold Builtin.nextslicecap; rw [if_pos (by omega)]
  have h4 : ¬ (281474976710656 < n * i.bytes) := by omega
  have h5 : ¬ (n * i.size = 0) := by
    have := Nat.mul_pos hn hs; omega
  simp [Builtin.append_, run_underlying ht, run_underlying hx, sizeOf, typeInfo, zeroValue, hi, hz, hw, h0, h1, h2, h3, h4, hnc, asInt, asIntOf, Question.forced, Builtin.firstCells, newRow, grownCap, hn, h5]
  omega
section
variable {c : Cx} {o : Oper} {E : Env} {H : List Blk} {nx : K1}
theorem OpK.slP {t e : Nat} {x y : Operand} {ti j : TI} (ho : o.op = .slice t x none (some y) none) {a : Option Addr} {n cap : Nat} {q : IntKind} {u : Nat} (hx : opd E x = some (.v (.slice a n cap))) (hy : opd E y = some (.v (.int q (u : Nat))))
    (hti : c.T.get t = some ti) (hd : ti.desc = .slice e) (hj : c.T.get e = some j) {k N : Nat} {i : Nat} {cs : List Value} {f : Blk → List Blk} (hu : At H (.ext i (SlA e k a N cap cs)) f) (hN : u ≤ N)
    (h : nx (.v (.slice a u cap)) H) : OpK c o E H nx := by
  have hnd : ∀ cl, o.op ≠ .defer cl := by rw [ho]; intro cl e; cases e
  refine OpK.val hnd _ (fun ms ac w ha hk => ?_) h
  obtain ⟨T, h3, _⟩ := hk.upd1 hu
  have h4 := SlA.spot h3
  have h5 := SlA.le h3
  rw [run_sl (l := 0) (u := u) ho hx hti hd hj (.inl ⟨rfl, rfl⟩) (.inr ⟨y, q, rfl, hy⟩) (by omega) (by omega) (by omega) ha]
  simp [den, h4]
theorem OpK.slT {t e : Nat} {x y : Operand} {ti j : TI} (ho : o.op = .slice t x (some y) none none) {a : Option Addr} {n cap : Nat} {q : IntKind} {l : Nat} (hx : opd E x = some (.v (.slice a n cap))) (hy : opd E y = some (.v (.int q (l : Nat))))
    (hti : c.T.get t = some ti) (hd : ti.desc = .slice e) (hj : c.T.get e = some j) {k : Nat} (hkk : j.size = k) {i : Nat} {cs : List Value} {f : Blk → List Blk} (hu : At H (.ext i (SlA e k a n cap cs)) f) (hl : l ≤ n)
    (h : nx (.v (.slice (if cap = l then a else a.map (·.add (l * k))) (n - l) (cap - l))) H) : OpK c o E H nx := by
  subst hkk
  have hnd : ∀ cl, o.op ≠ .defer cl := by rw [ho]; intro cl e; cases e
  refine OpK.val hnd _ (fun ms ac w ha hk => ?_) h
  obtain ⟨T, h3, _⟩ := hk.upd1 hu
  have h5 := SlA.le h3
  rw [run_sl (l := l) (u := n) ho hx hti hd hj (.inr ⟨y, q, rfl, hy⟩) (.inl ⟨rfl, rfl⟩) (by omega) (by omega) (by omega) ha]
  simp [den]
theorem OpK.maxI {x y : Operand} {t t' : Nat} (ho : o.op = .call { callee := .builtin .max, args := #[x, y], argTypes := #[t, t'] }) {q : IntKind} {a b : Int} (hx : opd E x = some (.v (.int q a))) (hy : opd E y = some (.v (.int q b)))
    (h : nx (.v (.int q (Max.max a b))) H) : OpK c o E H nx := by
  have hnd : ∀ cl, o.op ≠ .defer cl := by rw [ho]; intro cl e; cases e
  refine OpK.val hnd _ (fun ms ac w ha hk => ?_) h
  have e1 := ha.opd hx
  have e2 := ha.opd hy
  simp only [den] at e1 e2
  have e : (if b > a then b else a) = Max.max a b := by split <;> omega
  simp [execOp, ho, resolve, invoke, builtin, e1, e2, den, Builtin.max_, Builtin.max2]
  omega
theorem OpK.minI {x y : Operand} {t t' : Nat} (ho : o.op = .call { callee := .builtin .min, args := #[x, y], argTypes := #[t, t'] }) {q : IntKind} {a b : Int} (hx : opd E x = some (.v (.int q a))) (hy : opd E y = some (.v (.int q b)))
    (h : nx (.v (.int q (Min.min a b))) H) : OpK c o E H nx := by
  refine OpK.min ho hx hy ?_
  rw [show (if b < a then b else a) = Min.min a b by split <;> omega]
  exact h
theorem OpK.capS {t e : Nat} {x : Operand} {ti : TI} (ho : o.op = .call { callee := .builtin .cap, args := #[x], argTypes := #[t] }) {a : Option Addr} {n cap : Nat} (hx : opd E x = some (.v (.slice a n cap))) (hti : c.T.get t = some ti) (hd : ti.desc = .slice e) (h : nx (.v (.int .i64 (cap : Nat))) H) : OpK c o E H nx := by
  have hnd : ∀ cl, o.op ≠ .defer cl := by rw [ho]; intro cl e; cases e
  refine OpK.run hnd fun ms ac w ha hk => ?_
  have hu := (c.ok t ti hti).1
  rw [hd] at hu
  have e1 := ha.opd hx
  simp only [den] at e1
  exact ⟨.v (.int .i64 (cap : Nat)), _, w, by simp [execOp, ho, resolve, invoke, builtin, e1, Builtin.cap_, run_underlying hu, goInt, den], hk, h⟩
theorem OpK.appZ {x y : Operand} {t tx e : Nat} {ti tj j : TI} (ho : o.op = .call { callee := .builtin .append, args := #[x, y], argTypes := #[t, tx] })
    {n : Nat} (hx : opd E x = some (.v (.slice none 0 0))) (hy : opd E y = some (.v (.int .i64 (n : Nat)))) (hti : c.T.get t = some ti) (hd : ti.desc = .slice e) (htj : c.T.get tx = some tj) (hdj : tj.desc = .int .i64) (hj : c.T.get e = some j) (hz : j.zero.cells.size = j.size) {k : Nat} (hkk : j.size = k) (h0 : 0 < k)
    (hn : 0 < n) (hn2 : n ≤ 1000000) (hb : j.bytes ≤ 100000)
    (h : nextF H fun i => ∀ a' cap', nx (.v (.slice a' n cap')) (.ext i (SlA e k a' n cap' (Builtin.zeroCells j.zero.cells n).toList) :: H)) : OpK c o E H nx := by
  subst hkk
  have hnd : ∀ cl, o.op ≠ .defer cl := by rw [ho]; intro cl e; cases e
  obtain ⟨q, h⟩ := nextF_spec h
  refine OpK.run hnd fun ms ac w ha hk => ?_
  obtain ⟨T, h1, h2, h3, h4⟩ := (hk.free q (A := SlA e j.size none 0 0 []) (.inl ⟨rfl, rfl, rfl, rfl⟩)).upd1 .head
  have hu := (c.ok t ti hti).1
  rw [hd] at hu
  have hu2 := (c.ok tx tj htj).1
  rw [hdj] at hu2
  obtain ⟨i, hi, hi1, hi2, hi3⟩ := info_of (c.ok e j hj)
  have hr := run_append_zeros (P := c.P) (w := w) t tx o.type e i j.zero hu hu2 hi hi3 n hn hn2 (by rw [hi1]; exact h0) (by rw [hi2]; exact hb)
  have hge := grownCap_ge w n 0 e
  have hsz : (w.drew.alloc (.cells (Builtin.zeroCells j.zero.cells n ++ Builtin.zeroCells j.zero.cells (grownCap w n 0 e - n)) e)).heap.size = w.heap.size + 1 := by
    rw [heap_alloc, Array.size_push]; rfl
  have e1 := ha.opd hx
  have e2 := ha.opd hy
  simp only [den] at e1 e2
  refine ⟨.v (.slice (some ⟨w.heap.size, 0, none⟩) n (grownCap w n 0 e)), _, w.drew.alloc (.cells (Builtin.zeroCells j.zero.cells n ++ Builtin.zeroCells j.zero.cells (grownCap w n 0 e - n)) e), ?_, h4 (.ext q (SlA e j.size (some ⟨w.heap.size, 0, none⟩) n (grownCap w n 0 e) (Builtin.zeroCells j.zero.cells n).toList)) _ ⟨⟨rfl, rfl, rfl, by rw [hsz]; omega, fun k hk _ => ?_⟩, fun k => k = w.heap.size, .inr ⟨w.heap.size, rfl, [], (Builtin.zeroCells j.zero.cells (grownCap w n 0 e - n)).toList, (0, 0), rfl, ?_, ?_, hge, ?_, ?_⟩, ?_⟩, h _ _⟩
  · simp [execOp, ho, resolve, invoke, builtin, e1, e2, hr, den]
  · rw [heap_alloc, Array.getElem?_push]
    rw [if_neg (by show ¬ k = w.heap.size; omega)]
    rfl
  · rw [heap_alloc]
    have : w.drew.heap.size = w.heap.size := rfl
    rw [← this, Array.getElem?_push_size]
    congr 2
    apply Array.ext'
    simp
  · rw [Array.length_toList, size_zeroCells, hz]
  · rw [Array.length_toList, size_zeroCells, hz]
    exact Nat.le_refl _
  · simp
  · rintro k rfl
    exact ⟨by rw [hsz]; omega, .inr (Nat.le_refl _)⟩
end
end Go.X

namespace Go.X
open Go
theorem rmG {H R : List Blk} {x : Blk} (h : Rm H x R := by repeat (first | with_reducible apply Rm.head | apply Rm.tail)) : Rm H x R := h
theorem atG {H : List Blk} {x : Blk} {f : Blk → List Blk} (h : At H x f := by repeat (first | with_reducible apply At.head | apply At.tail)) : At H x f := h
theorem suG {A B : Env} (h : Sub A B := by repeat' (first | exact Sub.nil | (refine Sub.cons rfl rfl ?_))) : Sub A B := h
theorem sdG {A B : Env} (h : SubD A B := by repeat' (first | exact SubD.nil | (refine SubD.cons rfl rfl ?_))) : SubD A B := h
theorem sdH {A B : Env} (h : SubD A B := by repeat' (first | exact SubD.nil | (refine SubD.cons rfl rfl ?_) | (refine SubD.cons rfl (by simp [den]) ?_))) : SubD A B := h
theorem seI {A B : List Blk} (h : SelI A B := by (repeat (first | refine SelI.blk rmG ?_ | refine SelI.ext rmG ?_ | (refine SelI.blk' rmG ?_ ?_; focus rfl) | (refine SelI.ext' rmG ?_ ?_; focus rfl))); exact SelI.nil) : SelI A B := h
theorem seG {A B : List Blk} (h : Go.X.HSub B A := by (try dsimp only [List.cons_append, List.nil_append, den, denL]); refine SelI.spec ?_; exact seI) : Go.X.HSub B A := h
theorem seZ {A B : List Blk} (h : Go.X.HSub B A := by (try dsimp only [mapZ, List.cons_append, List.nil_append, den, denL]); refine SelI.spec ?_; exact seI) : Go.X.HSub B A := h
theorem lmG {α : Type} {x : α} {l : List α} (h : x ∈ l := by repeat (first | constructor | apply List.Mem.tail)) : x ∈ l := h
theorem sl1 {A : Blk} {H R : List Blk} (h : Sel H [A] R := by apply Sel.cons; (case h => exact rmG); exact Sel.nil) : Sel H [A] R := h
abbrev nq {β : Type} (i : Nat) (l : List Nat) (v : SV) : PN β := ⟨i, l, none, fun _ _ => v, fun _ _ => []⟩
end Go.X

namespace Go.X.OM
open Go Go.X
theorem busy_none {o : St} {x : Item} {c : Cmd} (hx : (x, c) ∈ o.effs) {j : Nat} {m : Mv} (hm : o.moves[j]? = some m) (ho : m.st ≠ 3) : m.r.has c.key = false := by
  obtain ⟨id, s, _, _, hb, _, rfl⟩ := effs_spec hx
  cases hh : m.r.has s.stepAt.key with
  | false => rfl
  | true =>
    have : o.busy s.stepAt.key = true := List.any_eq_true.2 ⟨_, openF_mem.2 ⟨j, hm, rfl, ho⟩, hh⟩
    rw [this] at hb; cases hb
end Go.X.OM

namespace Go.X.OM
open Go Go.X
def nameB (n : Nat) : Str := ⟨#[UInt8.ofNat (97 + n % 16)]⟩
def stepsF (a b c : Nat) : List Stp := (List.range (1 + a)).map fun i => ⟨nameB (b + i * (1 + c)), ((1 + i : Nat) : Int)⟩
def sS : Str := ⟨#[115]⟩
def defOf (n : Nat) : Dfn := ⟨sS, ((n / 4096 % 4 : Nat) : Int), ((n / 1024 % 4 * 20 : Nat) : Int), stepsF (n % 4) (n / 4 % 16) (n / 64 % 3)⟩
def toB (n : Nat) : Str := if ltS (nameB n) (nameB (n / 16 + 1)) then nameB (n / 16 + 1) else eps
def rgB (n : Nat) : Rg := ⟨nameB n, toB n⟩
def resOf (k : Nat) : Int := match k with | 25 => 16 | 26 => 17 | 27 => 18 | 28 => 7 | 29 => 5 | 30 => 9 | 31 => 4 | _ => 0
def dataS : Str := ⟨#[100, 97, 116, 97]⟩
def cmdOf (o : St) (kind n : Nat) : Cmd :=
  if kind % 32 < 6 then { zCmd with kind := 11, saga := ((1 + n % 12 : Nat) : Int), d := defOf n }
  else if kind % 32 = 6 then { zCmd with kind := 12, saga := ((1 + n % 12 : Nat) : Int) }
  else if kind % 32 = 7 then { zCmd with kind := 13, saga := ((1 + n % 12 : Nat) : Int) }
  else if kind % 32 < 11 then { zCmd with kind := 14, r := rgB n, group := ((1 + n / 512 % 3 : Nat) : Int) }
  else match o.items[n % o.items.length]? with | none => zCmd | some x => resC x (resOf (kind % 32)) dataS
theorem nmOk_nameB : ∀ n, nmOk (nameB n) = true := by
  intro n
  unfold nmOk nameB
  have h : ∀ k : Fin 16, alnumB (UInt8.ofNat (97 + k.val)) = true := by decide
  have := h ⟨n % 16, Nat.mod_lt _ (by decide)⟩
  simp only [Bool.and_eq_true, decide_eq_true_eq]
  refine ⟨⟨by show 1 ≤ 1; decide, by show 1 ≤ 16; decide⟩, ?_⟩
  simpa using this
theorem stepsF_ok : ∀ (a : Fin 4) (b : Fin 16) (c : Fin 3), stepsOk [] (stepsF a.val b.val c.val) = true := by decide
theorem defOf_ok (n : Nat) : (defOf n).ok = true := by
  have h1 := stepsF_ok ⟨n % 4, Nat.mod_lt _ (by decide)⟩ ⟨n / 4 % 16, Nat.mod_lt _ (by decide)⟩ ⟨n / 64 % 3, Nat.mod_lt _ (by decide)⟩
  have h2 : nmOk sS = true := by decide
  have h3 := Nat.mod_lt (n / 4096) (show 4 > 0 by decide)
  have h4 := Nat.mod_lt (n / 1024) (show 4 > 0 by decide)
  have h5 := Nat.mod_lt n (show 4 > 0 by decide)
  have h6 : (stepsF (n % 4) (n / 4 % 16) (n / 64 % 3)).length = 1 + n % 4 := by unfold stepsF; simp
  unfold Dfn.ok
  simp only [Bool.and_eq_true, decide_eq_true_eq]
  refine ⟨⟨⟨⟨⟨⟨⟨h2, ?_⟩, ?_⟩, ?_⟩, ?_⟩, ?_⟩, ?_⟩, h1⟩
  · show (0 : Int) ≤ ((n / 4096 % 4 : Nat) : Int); omega
  · show ((n / 4096 % 4 : Nat) : Int) ≤ 20; omega
  · show (0 : Int) ≤ ((n / 1024 % 4 * 20 : Nat) : Int); omega
  · show ((n / 1024 % 4 * 20 : Nat) : Int) ≤ 100000; omega
  · show 1 ≤ (stepsF (n % 4) (n / 4 % 16) (n / 64 % 3)).length; omega
  · show (stepsF (n % 4) (n / 4 % 16) (n / 64 % 3)).length ≤ 8; omega
theorem rgB_ok (n : Nat) : (rgB n).ok = true := by
  unfold Rg.ok rgB toB
  simp only [Bool.and_eq_true, Bool.or_eq_true]
  refine ⟨⟨.inr (nmOk_nameB _), ?_⟩, ?_⟩
  · split
    · exact .inr (nmOk_nameB _)
    · exact .inl (by decide)
  · split
    · rename_i h; exact .inr h
    · exact .inl (by decide)
theorem resOf_bd (k : Nat) : 0 ≤ resOf k ∧ resOf k ≤ 18 := by unfold resOf; split <;> decide
theorem cmdOf_ok {o : St} (h : Inv o) (kind n : Nat) : (cmdOf o kind n).ok = true := by
  have hid : (1 : Int) ≤ ((1 + n % 12 : Nat) : Int) ∧ ((1 + n % 12 : Nat) : Int) ≤ 9999 := by
    have := Nat.mod_lt n (show 12 > 0 by decide); omega
  unfold cmdOf
  split
  · unfold Cmd.ok
    show (if (11 : Int) = 0 then _ else if (11 : Int) = 11 then _ else _) = true
    rw [if_neg (by decide), if_pos rfl]
    simp only [Bool.and_eq_true, decide_eq_true_eq, beq_self_eq_true, and_true]
    exact ⟨⟨⟨⟨by decide, by decide⟩, hid.1⟩, hid.2⟩, defOf_ok n⟩
  · split
    · unfold Cmd.ok
      show (if (12 : Int) = 0 then _ else if (12 : Int) = 11 then _ else if (12 : Int) = 12 ∨ (12 : Int) = 13 then _ else _) = true
      rw [if_neg (by decide), if_neg (by decide), if_pos (.inl rfl)]
      simp only [Bool.and_eq_true, decide_eq_true_eq, beq_self_eq_true, and_true]
      exact ⟨⟨⟨by decide, by decide⟩, hid.1⟩, hid.2⟩
    · split
      · unfold Cmd.ok
        show (if (13 : Int) = 0 then _ else if (13 : Int) = 11 then _ else if (13 : Int) = 12 ∨ (13 : Int) = 13 then _ else _) = true
        rw [if_neg (by decide), if_neg (by decide), if_pos (.inr rfl)]
        simp only [Bool.and_eq_true, decide_eq_true_eq, beq_self_eq_true, and_true]
        exact ⟨⟨⟨by decide, by decide⟩, hid.1⟩, hid.2⟩
      · split
        · unfold Cmd.ok
          show (if (14 : Int) = 0 then _ else if (14 : Int) = 11 then _ else if (14 : Int) = 12 ∨ (14 : Int) = 13 then _ else if (14 : Int) = 14 then _ else _) = true
          rw [if_neg (by decide), if_neg (by decide), if_neg (by decide), if_pos rfl]
          simp only [Bool.and_eq_true, decide_eq_true_eq, beq_self_eq_true, and_true]
          have := Nat.mod_lt (n / 512) (show 3 > 0 by decide)
          exact ⟨⟨⟨⟨by decide, by decide⟩, rgB_ok n⟩, by omega⟩, by omega⟩
        · split
          · decide
          · rename_i x hx
            have hm := List.mem_of_getElem? hx
            unfold St.items at hm
            obtain ⟨⟨y, c⟩, h1, rfl⟩ := List.mem_map.1 hm
            exact resC_ok (item_ok h h1) (resOf_bd _) (by decide)
def playF (o : St) (l : List (Nat × Nat)) : St := l.foldl (fun o m => (o.apply (cmdOf o m.1 m.2)).1) o
theorem Reach.play {o o' : St} (h : Reach o o') (l : List (Nat × Nat)) : Reach o (playF o' l) := by
  induction l generalizing o' with
  | nil => exact h
  | cons m l ih => exact ih (.step _ h)
theorem playF_take {o : St} {l : List (Nat × Nat)} {i : Nat} {m : Nat × Nat} (h : l[i]? = some m) : playF o (l.take (i + 1)) = ((playF o (l.take i)).apply (cmdOf (playF o (l.take i)) m.1 m.2)).1 := by
  unfold playF
  have hlt := (List.getElem?_eq_some_iff.1 h).1
  have he := (List.getElem?_eq_some_iff.1 h).2
  rw [List.take_succ, h, List.foldl_append]
  rfl
theorem Inv.play {o : St} (h : Inv o) (l : List (Nat × Nat)) : Inv (playF o l) := (Reach.play (.refl o) l).inv h
end Go.X.OM

namespace Go.X.OM
open Go Go.X
def sA : Str := ⟨#[97]⟩
def sB : Str := ⟨#[98]⟩
def sC : Str := ⟨#[99]⟩
def sX : Str := ⟨#[120]⟩
def payD : Dfn := ⟨⟨#[112, 97, 121]⟩, 0, 0, [⟨sA, 3⟩, ⟨sB, -4⟩]⟩
def effI (id step phase group : Int) : Item := ⟨⟨id, step, phase⟩, 0, false, group⟩
def outI : Item := ⟨zEff, 1, false, 1⟩
def inI : Item := ⟨zEff, 1, true, 2⟩
def wkC : List Cmd := [{ zCmd with kind := 11, saga := 7, d := payD }, { zCmd with kind := 14, r := ⟨sB, sC⟩, group := 2 }, resC (effI 7 0 1 1) 0 eps, resC (effI 7 0 1 1) 0 eps, resC outI 0 sX, resC inI 0 eps, resC (effI 7 1 1 2) 7 eps, { zCmd with kind := 12, saga := 7 }]
def wkS (i : Nat) : St := (wkC.take i).foldl (fun o c => (o.apply c).1) (init 3)
theorem wk_end : (wkS 8).command (effI 7 0 2 1) = some { zCmd with kind := 1, eff := ⟨7, 0, 2⟩, key := sA, delta := 3 } ∧ (wkS 8).done = 8 ∧ (wkS 8).wanted.length = 1 := by decide +kernel
end Go.X.OM

namespace Go.X
open Go
section
variable {c : Cx} {o : Oper} {E : Env} {H : List Blk} {nx : K1}
theorem OpK.lkV {t kt et : Nat} {x ix : Operand} {ti tk te : TI} {q : IntKind} {m : Nat} {z : Int} {f : Int → Option Value} (ho : o.op = .lookup t x ix false) (hx : opd E x = some (.v (.map (some m)))) (hi : opd E ix = some (.v (.int .i64 z)))
    (hti : c.T.get t = some ti) (hd : ti.desc = .map kt et) (htk : c.T.get kt = some tk) (hdk : tk.desc = .int q) (hte : c.T.get et = some te) (hM : SeesM c H m f) {s : SV} (hv : (f z).getD te.zero = den s)
    (h : nx s H) : OpK c o E H nx := by
  have hnd : ∀ cl, o.op ≠ .defer cl := by rw [ho]; intro cl e; cases e
  refine OpK.val hnd _ (fun ms ac w ha hk => ?_) h
  rw [run_lkM ho hx hi hti hd htk hdk hte hM ha hk, hv]
  rfl
end
end Go.X

namespace Go.X
open Go
section
variable {c : Cx} {o : Oper} {E : Env} {H : List Blk} {nx : K1}
theorem SeesB.oldX {a cs} (h : RdB c.W a cs) (hS : ∀ (i : Nat) v b off, cs[i]? = some v → a = some ⟨b, off, none⟩ → ¬ c.S b) : SeesB c H a cs := fun ms w hk i v hi => by
  obtain ⟨b, off, C, t, f, h1, h2, h3⟩ := h i v hi
  exact ⟨b, off, C, t, f, h1, hk.oldO h2 (hS i v b off hi h1), h3⟩
theorem OpK.idxBk {t e : Nat} {x ix : Operand} {ti j : TI} (ho : o.op = .indexAddr t x ix) {a : Option Addr} {n cap : Nat} {q : IntKind} {z : Nat} (hx : opd E x = some (.v (.slice a n cap))) (hi : opd E ix = some (.v (.int q (z : Nat))))
    (hti : c.T.get t = some ti) (hd : ti.desc = .slice e) (hj : c.T.get e = some j) {k : Nat} (hkk : j.size = k) {cs : List Value} (hs : SeesB c H a cs) (hlt : z < n) {ecs : List SV} (h0 : 0 < ecs.length) (hc : (cs.drop (z * k)).take k = denL ecs)
    (h : ∀ b off, PC c H b off ecs → nx (.v (.pointer (some ⟨b, off, none⟩))) H) : OpK c o E H nx := by
  subst hkk
  have hnd : ∀ cl, o.op ≠ .defer cl := by rw [ho]; intro cl e; cases e
  have hat : ∀ m v, (denL ecs)[m]? = some v → cs[z * j.size + m]? = some v := by
    intro m v hm
    rw [← hc, List.getElem?_take] at hm
    split at hm
    · rw [List.getElem?_drop] at hm; exact hm
    · cases hm
  obtain ⟨v0, hv0⟩ : ∃ v, (denL ecs)[0]? = some v := ⟨_, List.getElem?_eq_getElem (by rw [denL_length]; exact h0)⟩
  refine OpK.run hnd fun ms ac w hac hk => ?_
  have hu := (c.ok t ti hti).1
  rw [hd] at hu
  obtain ⟨b, off, C, t', f, rfl, h2, h3⟩ := hs ms w hk (z * j.size + 0) _ (hat 0 v0 hv0)
  have e1 := hac.opd hx
  have e2 := hac.opd hi
  simp only [den] at e1 e2
  refine ⟨_, H, w, ?_, hk, h b (off + z * j.size) ?_⟩
  · simp [execOp, ho, e1, e2, Instr.indexAt, asIntOf, run_underlying hu, r_sizeOf (c.ok e j hj) w, hlt, add_none, den]
  · intro ms' w' hk'
    obtain ⟨b', off', C', t'', f', he, h4, h5⟩ := hs ms' w' hk' _ _ (hat 0 v0 hv0)
    simp only [Option.some.injEq, Addr.mk.injEq, and_true] at he
    obtain ⟨rfl, rfl⟩ := he
    refine ⟨C', t'', f', h4, fun m v hm => ?_⟩
    obtain ⟨b2, off2, C2, t2, f2, he2, h6, h7⟩ := hs ms' w' hk' _ _ (hat m v hm)
    simp only [Option.some.injEq, Addr.mk.injEq, and_true] at he2
    obtain ⟨rfl, rfl⟩ := he2
    rw [h4] at h6
    cases h6
    rw [Nat.add_assoc]; exact h7
end
end Go.X

namespace Go.X
open Go
section
variable {c : Cx} {o : Oper} {E : Env} {H : List Blk} {nx : K1}
theorem QK.shr {kk : SV → Prop} {t t' : Nat} {x y : Operand} (ho : o.op = .binOp .shr t x y t') {k q : IntKind} {a b : Int} (hx : opd E x = some (.v (.int k a))) (hy : opd E y = some (.v (.int q b))) (h0 : 0 ≤ b) {z : Int}
    (hz : a.fdiv (2 ^ min b.toNat k.bits) = z) (h : kk (.v (.int k z))) : QK c o E H kk := by
  refine QK.val _ (fun ms ac w ha hk => ?_) h
  have e1 := ha.opd hx
  have e2 := ha.opd hy
  simp only [den] at e1 e2
  subst hz
  simp [execOp, ho, e1, e2, eqGuard, Go.binOp, Op.shift, show ¬ b < 0 by omega, den]
theorem Sees.blk {i b t n k : Nat} {cs : List SV} (hm : .blk i b cs t ∈ H) (hl : cs.length = n * k) : Sees c H t k (some ⟨b, 0, none⟩) n n (denL cs) := fun ms w hk => RdS.ofGot (hk.got hm) hl
theorem OpK.cvBL {q t e : Nat} {x : Operand} {qi ti j : TI} (ho : o.op = .convert q t x) {b i n : Nat} (hx : opd E x = some (.slc b i 0 n n))
    (hq : c.T.get q = some qi) (hqd : qi.desc = .slice e) (hti : c.T.get t = some ti) (hd : ti.desc = .string) (hj : c.T.get e = some j) (hjd : j.desc = .int .u8) {cs : List SV} (hm : .blk i b cs e ∈ H) (hn : cs.length = n * 1) {l : List UInt8} (hcs : denL cs = bcells l)
    (h : nx (.v (.string ⟨l.toArray⟩)) H) : OpK c o E H nx := by
  have hnd : ∀ cl, o.op ≠ .defer cl := by rw [ho]; intro cl e; cases e
  refine OpK.val hnd _ (fun ms ac w ha hk => ?_) h
  have hqu := (c.ok q qi hq).1
  rw [hqd] at hqu
  have htu := (c.ok t ti hti).1
  rw [hd] at htu
  have hju := (c.ok e j hj).1
  rw [hjd] at hju
  have e1 := ha.opd hx
  simp only [den] at e1
  have hgot := hk.got hm
  have hlen : l.length = n := by
    have := congrArg List.length hcs
    rw [denL_length, bcells_length] at this
    omega
  rw [hcs] at hgot
  subst hlen
  have := run_convert_bytes_back (P := c.P) w q t e ⟨b, 0, none⟩ l.length l hqu hju htu (fun j hj => by
    rw [add_none, cell_of hgot]
    simp [bcells, hj, bcell])
  simp [execOp, ho, e1, this, den]
end
theorem tmN (x k : Nat) : ((x : Nat) : Int).tmod ((k : Nat) : Int) = ((x % k : Nat) : Int) := by
  rw [Int.tmod_eq_emod_of_nonneg (by omega)]; rfl
theorem tm3 (x : Nat) : ((x : Nat) : Int).tmod 3 = ((x % 3 : Nat) : Int) := tmN x 3
theorem tm4 (x : Nat) : ((x : Nat) : Int).tmod 4 = ((x % 4 : Nat) : Int) := tmN x 4
theorem tm12 (x : Nat) : ((x : Nat) : Int).tmod 12 = ((x % 12 : Nat) : Int) := tmN x 12
theorem tm16 (x : Nat) : ((x : Nat) : Int).tmod 16 = ((x % 16 : Nat) : Int) := tmN x 16
theorem tm32 (x : Nat) : ((x : Nat) : Int).tmod 32 = ((x % 32 : Nat) : Int) := tmN x 32
theorem shN (x a b : Nat) : ((x : Nat) : Int).fdiv (2 ^ min ((a : Nat) : Int).toNat b) = ((x / 2 ^ min a b : Nat) : Int) := by
  rw [Int.toNat_natCast, Int.fdiv_eq_ediv_of_nonneg _ (Int.le_of_lt (Int.pow_pos (by decide)))]
  rw [show (2 : Int) ^ min a b = ((2 ^ min a b : Nat) : Int) by push_cast; rfl]
  rfl
theorem sh2 (x : Nat) : ((x : Nat) : Int).fdiv (2 ^ min (2 : Int).toNat IntKind.u16.bits) = ((x / 4 : Nat) : Int) := shN x 2 16
theorem sh4 (x : Nat) : ((x : Nat) : Int).fdiv (2 ^ min (4 : Int).toNat IntKind.u16.bits) = ((x / 16 : Nat) : Int) := shN x 4 16
theorem sh6 (x : Nat) : ((x : Nat) : Int).fdiv (2 ^ min (6 : Int).toNat IntKind.u16.bits) = ((x / 64 : Nat) : Int) := shN x 6 16
theorem sh9 (x : Nat) : ((x : Nat) : Int).fdiv (2 ^ min (9 : Int).toNat IntKind.u16.bits) = ((x / 512 : Nat) : Int) := shN x 9 16
theorem sh10 (x : Nat) : ((x : Nat) : Int).fdiv (2 ^ min (10 : Int).toNat IntKind.u16.bits) = ((x / 1024 : Nat) : Int) := shN x 10 16
theorem sh12 (x : Nat) : ((x : Nat) : Int).fdiv (2 ^ min (12 : Int).toNat IntKind.u16.bits) = ((x / 4096 : Nat) : Int) := shN x 12 16
end Go.X

namespace Go.X.OM
open Go Go.X
inductive OkC : Cmd → Prop
  | noop : OkC zCmd
  | start (x y : Int) (d : Dfn) (hx : 0 ≤ x ∧ x ≤ 2147483648) (hy : 1 ≤ y ∧ y ≤ 9999) (hd : d.ok = true) : OkC { zCmd with kind := 11, call := x, saga := y, d := d }
  | status (x y : Int) (hx : 0 ≤ x ∧ x ≤ 2147483648) (hy : 1 ≤ y ∧ y ≤ 9999) : OkC { zCmd with kind := 12, call := x, saga := y }
  | cancel (x y : Int) (hx : 0 ≤ x ∧ x ≤ 2147483648) (hy : 1 ≤ y ∧ y ≤ 9999) : OkC { zCmd with kind := 13, call := x, saga := y }
  | move (x : Int) (r : Rg) (g : Int) (hx : 0 ≤ x ∧ x ≤ 2147483648) (hr : r.ok = true) (hg : 1 ≤ g ∧ g ≤ 7) : OkC { zCmd with kind := 14, call := x, r := r, group := g }
  | result (i : Item) (e : Int) (s : Str) (hi : i.ok = true) (he : 0 ≤ e ∧ e ≤ 18) (hs : s.size ≤ 65536) : OkC { zCmd with kind := 15, item := i, res := e, data := s }
theorem ok_cases {c : Cmd} (h : c.ok = true) : OkC c := by
  unfold Cmd.ok at h
  split at h
  · rw [eq_of_beq h]; exact .noop
  · split at h
    · simp only [Bool.and_eq_true, decide_eq_true_eq] at h
      obtain ⟨⟨⟨⟨⟨h1, h2⟩, h3⟩, h4⟩, h5⟩, h6⟩ := h
      rw [eq_of_beq h6]
      exact .start _ _ _ ⟨h1, h2⟩ ⟨h3, h4⟩ h5
    · split at h
      · rename_i hk
        simp only [Bool.and_eq_true, decide_eq_true_eq] at h
        obtain ⟨⟨⟨⟨h1, h2⟩, h3⟩, h4⟩, h6⟩ := h
        rw [eq_of_beq h6]
        rcases hk with hk | hk
        · rw [hk]; exact .status _ _ ⟨h1, h2⟩ ⟨h3, h4⟩
        · rw [hk]; exact .cancel _ _ ⟨h1, h2⟩ ⟨h3, h4⟩
      · split at h
        · simp only [Bool.and_eq_true, decide_eq_true_eq] at h
          obtain ⟨⟨⟨⟨⟨h1, h2⟩, h3⟩, h4⟩, h5⟩, h6⟩ := h
          rw [eq_of_beq h6]
          exact .move _ _ _ ⟨h1, h2⟩ h3 ⟨h4, h5⟩
        · split at h
          · simp only [Bool.and_eq_true, decide_eq_true_eq] at h
            obtain ⟨⟨⟨⟨h1, h2⟩, h3⟩, h4⟩, h6⟩ := h
            rw [eq_of_beq h6]
            exact .result _ _ _ h1 ⟨h2, h3⟩ h4
          · cases h
theorem dox_noop (o : St) : o.dox zCmd = (o, ⟨0, 0⟩) := by unfold St.dox; rw [show zCmd.ok = true by decide]; rfl
theorem dox_start (o : St) (x y : Int) (d : Dfn) (h : Cmd.ok { zCmd with kind := 11, call := x, saga := y, d := d } = true) : o.dox { zCmd with kind := 11, call := x, saga := y, d := d } = o.doStart { zCmd with kind := 11, call := x, saga := y, d := d } := by
  unfold St.dox; rw [h]; rfl
theorem dox_status (o : St) (x y : Int) (h : Cmd.ok { zCmd with kind := 12, call := x, saga := y } = true) : o.dox { zCmd with kind := 12, call := x, saga := y } = (o, o.told y) := by
  unfold St.dox; rw [h]; rfl
theorem dox_cancel (o : St) (x y : Int) (h : Cmd.ok { zCmd with kind := 13, call := x, saga := y } = true) : o.dox { zCmd with kind := 13, call := x, saga := y } = o.doCancel { zCmd with kind := 13, call := x, saga := y } := by
  unfold St.dox; rw [h]; rfl
theorem dox_move (o : St) (x : Int) (r : Rg) (g : Int) (h : Cmd.ok { zCmd with kind := 14, call := x, r := r, group := g } = true) : o.dox { zCmd with kind := 14, call := x, r := r, group := g } = o.doMove { zCmd with kind := 14, call := x, r := r, group := g } := by
  unfold St.dox; rw [h]; rfl
theorem dox_result (o : St) (i : Item) (e : Int) (s : Str) (h : Cmd.ok { zCmd with kind := 15, item := i, res := e, data := s } = true) : o.dox { zCmd with kind := 15, item := i, res := e, data := s } = o.doResult { zCmd with kind := 15, item := i, res := e, data := s } := by
  unfold St.dox; rw [h]; rfl
def sameD (o : St) (x : St × Rep) : Prop := x.1.done = o.done ∧ x.1.groups = o.groups
theorem dox_done (o : St) (c : Cmd) : sameD o (o.dox c) := by
  have r : ∀ e, sameD o (o, e) := fun e => ⟨rfl, rfl⟩
  have h1 : sameD o (o.doStart c) := by
    unfold St.doStart
    split
    · exact r _
    · split
      · exact r _
      · exact ⟨rfl, rfl⟩
  have h2 : sameD o (o.doCancel c) := by
    unfold St.doCancel
    split
    · exact r _
    · split
      · exact ⟨rfl, rfl⟩
      · exact r _
  have h3 : sameD o (o.doMove c) := by
    unfold St.doMove
    split
    · exact r _
    · split
      · exact r _
      · split
        · exact r _
        · split
          · exact r _
          · split
            · exact r _
            · split
              · exact r _
              · exact ⟨rfl, rfl⟩
  have h4 : sameD o (o.doResult c) := by
    unfold St.doResult
    split
    · exact r _
    · split
      · split
        · exact r _
        · exact ⟨rfl, rfl⟩
      · split
        · exact ⟨rfl, rfl⟩
        · split
          · exact r _
          · exact ⟨rfl, rfl⟩
  unfold St.dox
  split
  · exact r _
  · split
    · exact r _
    · split
      · exact h1
      · split
        · exact r _
        · split
          · exact h2
          · split
            · exact h3
            · exact h4
end Go.X.OM

namespace Go.X
open Go
section
variable {c : Cx} {o : Oper} {E : Env} {H : List Blk} {nx : K1}
theorem OpK.stB {t : Nat} {x y : Operand} {ti : TI} (ho : o.op = .store t x y) {b off : Nat} {s : SV} (hx : opd E x = some (.v (.pointer (some ⟨b, off, none⟩)))) (hy : opd E y = some s)
    (hti : c.T.get t = some ti) {vs : List Value} (hv : (den s).cells = vs.toArray) (h1 : vs.length = ti.size) (hone : ∀ u ∈ vs, u.oneCell' = true) {cs cs' : List SV} {t' i : Nat} {f : Blk → List Blk} (hu : At H (.blk i b cs t') f) (hl : off + vs.length ≤ cs.length)
    (hc : denL cs' = (denL cs).take off ++ vs ++ (denL cs).drop (off + vs.length))
    (h : nx (.v undef) (f (.blk i b cs' t'))) : OpK c o E H nx := by
  have hnd : ∀ cl, o.op ≠ .defer cl := by rw [ho]; intro cl e; cases e
  obtain ⟨A, B, rfl, hf⟩ := hu.spec
  rw [hf] at h
  refine ⟨?_⟩
  intro ms a w ha hk Q
  have e1 := ha.opd hx
  have e2 := ha.opd hy
  simp only [den] at e1
  have hg := hk.got (i := i) (b := b) (cs := cs) (t := t') (by simp)
  have hr := r_storeVar (c.ok t ti hti) (off := off) hg hv h1 hone (by rw [denL_length]; exact hl)
  rw [← hc] at hr
  refine wpIn_of_skip hnd (w' := w.setRow b (denL cs').toArray) (by simp [execOp, ho, e1, e2, Instr.storeAt, Instr.sureAddr, hr]) ⟨.v undef, _, rfl, hk.setRow _, h⟩
end
theorem r_stopE (id : Nat) {c : Cx} {l : Array Oper} {E : Env} {H : List Blk} {k : KC} (h : StopR (Run c (.region id l true) E H k)) : Run c (.region id l true) E H k := h.get
def GlX (o0 o1 : Obj) : Ass := ⟨fun w S => (∀ k, S k → k = 0 ∨ k = 1) ∧ (GlA o0 o1).holds w S, fun w w' S h hx => ⟨hx.1, (GlA o0 o1).loc w w' S h hx.2⟩⟩
theorem GlX.only {o0 o1 : Obj} {w : World} {S : Nat → Prop} {i : Nat} (h : (AssL [.ext i (GlX o0 o1)]).holds w S) : (∀ k, S k → k = 0 ∨ k = 1) ∧ w.heap[0]? = some o0 ∧ w.heap[1]? = some o1 := by
  have h : Holds w [.ext i (GlX o0 o1)] S := h
  cases h with
  | @cons _ _ S1 T1 hx hb hH hd =>
    cases hH
    exact ⟨fun k hk => hk.elim (hx.1 k) False.elim, hx.2.2.1, hx.2.2.2⟩
end Go.X

namespace Go.X
open Go
section
variable {c : Cx} {o : Oper} {E : Env} {H : List Blk} {nx : K1}
theorem OpK.inK {t kt et : Nat} {x ix y : Operand} {ti tk : TI} {q : IntKind} {m i : Nat} {z : Int} {s : SV} {f : Int → Option Value} {fn : Blk → List Blk} (ho : o.op = .insert t x ix y) (hx : opd E x = some (.v (.map (some m)))) (hi : opd E ix = some (.v (.int .i64 z))) (hy : opd E y = some s)
    (hti : c.T.get t = some ti) (hd : ti.desc = .map kt et) (htk : c.T.get kt = some tk) (hdk : tk.desc = .int q) (hu : At H (.ext i (MpK m f)) fn) (hz : Zok z)
    (h : nx (.v undef) (fn (.ext i (MpK m (putK f z (den s)))))) : OpK c o E H nx := by
  have hnd : ∀ cl, o.op ≠ .defer cl := by rw [ho]; intro cl e; cases e
  refine ⟨?_⟩
  intro ms a w ha hk Q
  have h1 := (c.ok t ti hti).1
  rw [hd] at h1
  have h2 := (c.ok kt tk htk).1
  rw [hdk] at h2
  have e1 := ha.opd hx
  have e2 := ha.opd hi
  have e3 := ha.opd hy
  simp only [den] at e1 e2
  obtain ⟨es, clk, hr, hb, hset⟩ := hk.setK hu
  have hg := getObj_ran (P := c.P) hb (by intro _ _ _ e; cases e)
  rcases hr.find (P := c.P) h2 z w with ⟨n, e, g1, g2, g3, g4⟩ | ⟨g1, g2, g3⟩
  · obtain ⟨ek, ev, eb⟩ := e
    simp only at g2
    subst g2
    have hk' := hset _ _ _ (hr.set g1 rfl (den s))
    have hs := setObj_run (P := c.P) (o' := .map (es.set n ⟨.int .i64 z, den s, eb⟩).toArray clk) hb (by intro _ _ _ e; cases e)
    have hst : Instr.keyThatStays (.int .i64 z) (.int .i64 z) = pure (.int .i64 z) := by simp [Instr.keyThatStays, Instr.sameBits]
    have hlt : n < es.length := (List.getElem?_eq_some_iff.1 g1).1
    have hm : (es.modify n fun e => { key := .int .i64 z, val := den s, born := e.born }) = es.set n ⟨.int .i64 z, den s, eb⟩ := by
      apply List.ext_getElem?
      intro k
      rw [List.getElem?_modify, List.getElem?_set]
      by_cases hnk : n = k
      · subst hnk
        have := (List.getElem?_eq_some_iff.1 g1).2
        simp [g1, hlt, this]
      · simp [hnk]
    exact wpIn_of_skip hnd (w' := { w with heap := w.heap.setIfInBounds m (.map (es.set n ⟨.int .i64 z, den s, eb⟩).toArray clk) }) (by simp [execOp, ho, e1, e2, e3, Instr.mapUpdate, run_underlying h1, hg, run_checkKey _ h2, g4, g1, hst, hm, hs]) ⟨.v undef, _, rfl, hk', h⟩
  · have hk' := hset _ _ _ (hr.push hz g1 (den s))
    have hs := setObj_run (P := c.P) (o' := .map (es ++ [(⟨.int .i64 z, den s, clk⟩ : MapEntry)]).toArray (clk + 1)) hb (by intro _ _ _ e; cases e)
    exact wpIn_of_skip hnd (w' := { w with heap := w.heap.setIfInBounds m (.map (es ++ [(⟨.int .i64 z, den s, clk⟩ : MapEntry)]).toArray (clk + 1)) }) (by simp [execOp, ho, e1, e2, e3, Instr.mapUpdate, run_underlying h1, hg, run_checkKey _ h2, g3, hs]) ⟨.v undef, _, rfl, hk', h⟩
end
end Go.X

namespace Go.X
open Go
section
variable {c : Cx} {o : Oper} {E : Env} {H : List Blk} {nx : K1}
theorem QK.ixA {kk : SV → Prop} {t e len : Nat} {x ix : Operand} {ti j : TI} (ho : o.op = .indexAddr t x ix) {b i off : Nat} {q : IntKind} {z : Int} (hx : opd E x = some (.loc b i off)) (hi : opd E ix = some (.v (.int q z)))
    (hti : c.T.get t = some ti) (hd : ti.desc = .array len e) (hj : c.T.get e = some j) (h0 : 0 ≤ z) (hlt : z < len) (h : kk (.v (.pointer (some ⟨b, off + z.toNat * j.size, none⟩)))) : QK c o E H kk := by
  refine QK.val _ (fun ms ac w ha hk => ?_) h
  have hu := (c.ok t ti hti).1
  rw [hd] at hu
  have e1 := ha.opd hx
  have e2 := ha.opd hi
  simp only [den] at e1 e2
  simp [execOp, ho, e1, e2, Instr.indexAt, asIntOf, Instr.sureAddr, run_underlying hu, r_sizeOf (c.ok e j hj) w, hlt, h0, add_none, den]
end
section
variable {α β : Type} {g : α → List β} {k : Nat}
theorem fl_congr {g' : α → List β} : ∀ {L : List α}, (∀ x ∈ L, g x = g' x) → L.flatMap g = L.flatMap g'
  | [], _ => rfl
  | x :: l, h => by rw [List.flatMap_cons, List.flatMap_cons, h x (by simp), fl_congr fun y hy => h y (by simp [hy])]
end
end Go.X

namespace Go.X
open Go
section
variable {c : Cx} {o : Oper} {E : Env} {H : List Blk} {nx : K1}
theorem CallK.selS {g : FuncId} {l : List SV} {L R : List Blk} {v : Value} {L' : List Blk} (s : SV) (hv : den s = v) (hs : Sel H L R)
    (h : ∀ ms w, Kn c.W c.S ms H w → Fr c.P g (denL l).toArray w (AssL L) v (AssL L')) (hn : layF L' R fun H' => nx s H') : CallK c g l H nx := by
  subst hv
  refine CallK.gen fun ms w hk => ?_
  have hk2 : Kn c.W c.S ms (assB 0 L :: R) w := hk.hsub (HSub.trans (HSub.app2 (A' := [assB 0 L]) HSub.join (HSub.refl R)) (HSub.perm hs.spec))
  obtain ⟨T, h1, h2, _, h3⟩ := hk2.upd1 (At.head)
  refine (h ms w hk T h1 h2).mono ?_
  rintro e w' ⟨rfl, hp⟩
  refine ⟨s, L' ++ R, rfl, ?_, layF_spec hn⟩
  exact (h3 (assB 0 L') w' hp).hsub (HSub.app2 (A := [assB 0 L']) HSub.unjoin (HSub.refl R))
theorem SrcK.rdb {tx e' k : Nat} {ti : TI} (hti : c.T.get tx = some ti) (hd : ti.desc = .slice e') {a : Option Addr} {n cap : Nat} {cs : List Value} (hs : SeesB c H a cs) (hl : cs.length = n * k) (h0 : 0 < k) (h1 : ∀ u ∈ cs, u.oneCell' = true) : SrcK c H k tx (.v (.slice a n cap)) n cs := fun ms w hk => by
  have hu := (c.ok tx ti hti).1
  rw [hd] at hu
  have hr := hs ms w hk
  cases a with
  | none =>
    have hn : cs = [] := by
      cases cs with
      | nil => rfl
      | cons v cs =>
        obtain ⟨_, _, _, _, _, h, _⟩ := hr 0 v rfl
        cases h
    subst hn
    have : n = 0 := by
      have : n * k = 0 := by rw [← hl]; rfl
      rcases Nat.mul_eq_zero.1 this with h | h
      · exact h
      · omega
    subst this
    exact Src.ofNil w hu cap
  | some ad =>
    refine Src.ofSlice w hu ad n cap cs hl (fun j v hj => ?_) h1
    obtain ⟨b, off, C, t, f, h2, h3, h4⟩ := hr j v hj
    cases h2
    have ha : (⟨b, off, none⟩ : Addr).add j = ⟨b, off + j, none⟩ := by
      unfold Addr.add
      split
      · rename_i e; subst e; rfl
      · rfl
    rw [ha]
    simp only [World.cell?, h3]
    simpa using h4
end
end Go.X

namespace Go.X.OM
open Go Go.X
def bump (o : St) : Int := min (o.done + 1) 1099511627776
structure Mid (o s : St) (r : Rg) (fr to st : Int) (d : Str) : Prop where
  inv : Inv s
  parts : s.parts = o.parts
  at_ : s.moves[o.moves.length]? = some ⟨r, fr, to, st, d⟩
theorem Mid.start {o : St} {r : Rg} {fr to : Int} (h : Inv { o with moves := o.moves ++ [⟨r, fr, to, 1, eps⟩], done := bump o }) : Mid o { o with moves := o.moves ++ [⟨r, fr, to, 1, eps⟩], done := bump o } r fr to 1 eps :=
  ⟨h, rfl, by simp⟩
theorem Mid.route {o s : St} {r : Rg} {fr to st : Int} {d : Str} (h : Mid o s r fr to st d) (k : Str) : s.route k = o.route k := by
  unfold St.route St.part
  rw [h.parts]
theorem Mid.free {o s : St} {r : Rg} {fr to st : Int} {d : Str} (h : Mid o s r fr to st d) (hs : st ≠ 3) {y : Item} {z : Cmd} (hy : (y, z) ∈ s.wanted) (hm : y.move = 0) : r.has z.key = false := by
  unfold St.wanted at hy
  rcases List.mem_append.1 hy with hy | hy
  · exact busy_none hy h.at_ hs
  · obtain ⟨⟨n, m⟩, hm1, hm2⟩ := List.mem_map.1 hy
    obtain ⟨j, _, h2, _⟩ := openF_mem.1 hm1
    have e : y = (mvItem n m).1 := by rw [hm2]
    rw [e, mvItem_fst] at hm
    split at hm
    · dsimp only at hm; omega
    · dsimp only at hm; omega
theorem Mid.key {o s : St} {r : Rg} {fr to st : Int} {d : Str} (h : Mid o s r fr to st d) {y : Item} {z : Cmd} (hy : (y, z) ∈ s.wanted) (hm : y.move = 0) : nmOk z.key = true := by
  unfold St.wanted at hy
  rcases List.mem_append.1 hy with hy | hy
  · obtain ⟨id, s2, h1, h2, _, _, h3⟩ := effs_spec hy
    subst h3
    exact stepAt_name (h.inv.sok _ h1).2.2 h2
  · obtain ⟨⟨n, m⟩, hm1, hm2⟩ := List.mem_map.1 hy
    obtain ⟨j, _, h2, _⟩ := openF_mem.1 hm1
    have e : y = (mvItem n m).1 := by rw [hm2]
    rw [e, mvItem_fst] at hm
    split at hm
    · dsimp only at hm; omega
    · dsimp only at hm; omega
def outX (o : St) (fr : Int) : Item := ⟨zEff, o.moves.length + 1, false, fr⟩
def inX (o : St) (to : Int) : Item := ⟨zEff, o.moves.length + 1, true, to⟩
theorem Mid.mem {o s : St} {r : Rg} {fr to st : Int} {d : Str} (h : Mid o s r fr to st d) (hs : st ≠ 3) : mvItem (o.moves.length + 1) ⟨r, fr, to, st, d⟩ ∈ s.wanted := by
  unfold St.wanted
  refine List.mem_append.2 (.inr (List.mem_map.2 ⟨(o.moves.length + 1, ⟨r, fr, to, st, d⟩), openF_mem.2 ⟨o.moves.length, h.at_, by omega, hs⟩, rfl⟩))
theorem Mid.out {o s : St} {r : Rg} {fr to : Int} {d : Str} (h : Mid o s r fr to 1 d) : ∃ c, (outX o fr, c) ∈ s.wanted := ⟨_, h.mem (by decide)⟩
theorem Mid.in_ {o s : St} {r : Rg} {fr to : Int} {d : Str} (h : Mid o s r fr to 2 d) : ∃ c, (inX o to, c) ∈ s.wanted := ⟨_, h.mem (by decide)⟩
end Go.X.OM

namespace Go.X.OM
open Go Go.X
def Low (o : St) : Prop := ∀ x ∈ o.sagas, x.1 ≤ 12
theorem Low.put {o : St} (h : Low o) {id : Int} {s : Sg} (hid : id ≤ 12) : ∀ x ∈ putS id s o.sagas, x.1 ≤ 12 := by
  intro x hx
  rcases putS_mem hx with rfl | hx
  · exact hid
  · exact h x hx
theorem Low.dox {o : St} (h : Low o) {c : Cmd} (hc : c.kind = 11 → c.saga ≤ 12) : Low (o.dox c).1 := by
  unfold St.dox
  split
  · exact h
  · split
    · exact h
    · split
      · rename_i hk
        unfold St.doStart
        split
        · exact h
        · split
          · exact h
          · exact h.put (hc hk)
      · split
        · exact h
        · split
          · unfold St.doCancel
            split
            · exact h
            · rename_i s hs
              split
              · exact h.put (h _ (get_spec hs))
              · exact h
          · split
            · unfold St.doMove
              split
              · exact h
              · split
                · exact h
                · split
                  · exact h
                  · split
                    · exact h
                    · split
                      · exact h
                      · split <;> exact h
            · unfold St.doResult
              split
              · exact h
              · split
                · split
                  · exact h
                  · rename_i s hs
                    exact h.put (h _ (get_spec hs))
                · split
                  · exact h
                  · split <;> exact h
theorem cmdOf_low (o : St) (k n : Nat) : (cmdOf o k n).kind = 11 → (cmdOf o k n).saga ≤ 12 := by
  have hm := Nat.mod_lt n (show 12 > 0 by decide)
  unfold cmdOf
  split
  · intro _; show ((1 + n % 12 : Nat) : Int) ≤ 12; omega
  · split
    · intro h; exact absurd h (by show ¬ (12 : Int) = 11; decide)
    · split
      · intro h; exact absurd h (by show ¬ (13 : Int) = 11; decide)
      · split
        · intro h; exact absurd h (by show ¬ (14 : Int) = 11; decide)
        · split
          · intro h; exact absurd h (by decide)
          · intro h; exact absurd h (by show ¬ (15 : Int) = 11; decide)
theorem Low.apply {o : St} (h : Low o) {c : Cmd} (hc : c.kind = 11 → c.saga ≤ 12) : Low (o.apply c).1 := h.dox hc
theorem Low.play {o : St} (h : Low o) (l : List (Nat × Nat)) : Low (playF o l) := by
  induction l generalizing o with
  | nil => exact h
  | cons m l ih => exact ih (h.apply (cmdOf_low o m.1 m.2))
def St.alike (o s : St) : Prop := s.groups = o.groups ∧ s.sagas = o.sagas ∧ s.moves = o.moves ∧ s.parts = o.parts
end Go.X.OM

namespace Go.X.OM
open Go Go.X
structure Inv2 (o : St) : Prop where
  dat : ∀ m ∈ o.moves, m.st ≠ 2 → m.data = eps
  before : ∀ (i j : Nat) (m m' : Mv), o.moves[i]? = some m → o.moves[j]? = some m' → i < j → m.st ≠ 3 → meets m.r m'.r = false
theorem Inv2.init (g : Int) : Inv2 (OM.init g) := ⟨by simp [OM.init], by simp [OM.init]⟩
theorem Inv2.modify {l : List Mv} (h1 : ∀ m ∈ l, m.st ≠ 2 → m.data = eps) (h2 : ∀ (i j : Nat) (m m' : Mv), l[i]? = some m → l[j]? = some m' → i < j → m.st ≠ 3 → meets m.r m'.r = false) {n : Nat} {f : Mv → Mv}
    (hr : ∀ m, (f m).r = m.r) (hd : ∀ m, (f m).st ≠ 2 → (f m).data = eps) (ho : ∀ m, l[n]? = some m → (f m).st ≠ 3 → m.st ≠ 3) :
    (∀ m ∈ l.modify n f, m.st ≠ 2 → m.data = eps) ∧ ∀ (i j : Nat) (m m' : Mv), (l.modify n f)[i]? = some m → (l.modify n f)[j]? = some m' → i < j → m.st ≠ 3 → meets m.r m'.r = false := by
  have hg : ∀ (i : Nat) (m : Mv), (l.modify n f)[i]? = some m → ∃ m0, l[i]? = some m0 ∧ (m = m0 ∨ (n = i ∧ m = f m0)) := by
    intro i m hm
    rw [List.getElem?_modify] at hm
    split at hm
    · rename_i e
      cases hl : l[i]? with
      | none => rw [hl] at hm; cases hm
      | some m0 =>
        rw [hl] at hm
        simp only [Option.map_eq_map, Option.map_some, Option.some.injEq] at hm
        exact ⟨m0, rfl, .inr ⟨e, hm.symm⟩⟩
    · cases hl : l[i]? with
      | none => rw [hl] at hm; cases hm
      | some m0 =>
        rw [hl] at hm
        simp only [Option.map_eq_map, Option.map_some, Option.some.injEq, id_eq] at hm
        exact ⟨m0, rfl, .inl hm.symm⟩
  refine ⟨fun m hm hs => ?_, fun i j m m' hm hm' hij hs => ?_⟩
  · obtain ⟨i, hi⟩ := List.mem_iff_getElem?.1 hm
    obtain ⟨m0, k1, k2⟩ := hg i m hi
    rcases k2 with rfl | ⟨_, rfl⟩
    · exact h1 _ (List.mem_of_getElem? k1) hs
    · exact hd m0 hs
  · obtain ⟨m0, k1, k2⟩ := hg i m hm
    obtain ⟨m1, k3, k4⟩ := hg j m' hm'
    have e1 : m.r = m0.r := by rcases k2 with rfl | ⟨_, rfl⟩; rfl; exact hr _
    have e2 : m'.r = m1.r := by rcases k4 with rfl | ⟨_, rfl⟩; rfl; exact hr _
    have e3 : m0.st ≠ 3 := by
      rcases k2 with rfl | ⟨e, rfl⟩
      · exact hs
      · subst e; exact ho m0 k1 hs
    rw [e1, e2]
    exact h2 i j m0 m1 k1 k3 hij e3
theorem Inv2.push {o : St} (h : Inv2 o) {r : Rg} {fr to : Int} (hb : o.openM.any (fun x => meets x.2.r r) = false) : Inv2 { o with moves := o.moves ++ [⟨r, fr, to, 1, eps⟩] } where
  dat := by
    intro m hm hs
    rcases List.mem_append.1 hm with hm | hm
    · exact h.dat m hm hs
    · simp only [List.mem_singleton] at hm; subst hm; rfl
  before := by
    intro i j m m' hm hm' hij hs
    have hm : (o.moves ++ [⟨r, fr, to, 1, eps⟩])[i]? = some m := hm
    have hm' : (o.moves ++ [⟨r, fr, to, 1, eps⟩])[j]? = some m' := hm'
    have hj : j < o.moves.length + 1 := by
      have := (List.getElem?_eq_some_iff.1 hm').1
      rw [List.length_append] at this
      exact this
    rw [List.getElem?_append_left (by omega)] at hm
    by_cases hjl : j < o.moves.length
    · rw [List.getElem?_append_left hjl] at hm'
      exact h.before i j m m' hm hm' hij hs
    · have : j = o.moves.length := by omega
      subst this
      rw [List.getElem?_append_right (Nat.le_refl _), Nat.sub_self] at hm'
      simp only [List.getElem?_cons_zero, Option.some.injEq] at hm'
      subst hm'
      have := List.any_eq_false.1 hb (1 + i, m) (openF_mem.2 ⟨i, hm, rfl, hs⟩)
      simpa using this
theorem Inv2.dox {o : St} (h : Inv2 o) (hi : Inv o) (c : Cmd) : Inv2 (o.dox c).1 := by
  unfold St.dox
  split
  · exact h
  · split
    · exact h
    · split
      · unfold St.doStart
        split
        · exact h
        · split
          · exact h
          · exact ⟨h.dat, h.before⟩
      · split
        · exact h
        · split
          · unfold St.doCancel
            split
            · exact h
            · split
              · exact ⟨h.dat, h.before⟩
              · exact h
          · split
            · unfold St.doMove
              split
              · exact h
              · split
                · exact h
                · split
                  · exact h
                  · split
                    · exact h
                    · rename_i hb
                      split
                      · exact h
                      · split
                        · exact h
                        · exact h.push (by simpa using hb)
            · unfold St.doResult
              split
              · exact h
              · rename_i hc
                split
                · split
                  · exact h
                  · exact ⟨h.dat, h.before⟩
                · split
                  · rename_i hmv hin
                    have hopen : ∀ m, o.moves[(c.item.move - 1).toNat]? = some m → ({ m with st := 2, data := c.data } : Mv).st ≠ 3 → m.st ≠ 3 := by
                      intro m hm _
                      obtain ⟨cc, hcc⟩ : ∃ cc, o.command c.item = some cc := by
                        cases hx : o.command c.item with
                        | none => exact absurd (.inl (by rw [hx]; rfl)) hc
                        | some cc => exact ⟨cc, rfl⟩
                      rcases wanted_spec (command_spec hcc) with ⟨id, s2, _, _, _, h4, _⟩ | ⟨j, m1, h1, h2, h3⟩
                      · exact absurd h4 hmv
                      · have hfst : c.item = (mvItem (1 + j) m1).1 := by rw [← h3]
                        have e1 : c.item.move = 1 + j := by rw [hfst, mvItem_fst]; split <;> rfl
                        rw [show (c.item.move - 1).toNat = j by omega, h1] at hm
                        cases hm
                        exact h2
                    obtain ⟨k1, k2⟩ := Inv2.modify h.dat h.before (n := (c.item.move - 1).toNat) (f := fun m => { m with st := 2, data := c.data }) (fun _ => rfl) (fun _ hs => absurd rfl hs) hopen
                    exact ⟨k1, k2⟩
                  · split
                    · exact h
                    · obtain ⟨k1, k2⟩ := Inv2.modify h.dat h.before (n := (c.item.move - 1).toNat) (f := fun m => { m with st := 3, data := eps }) (fun _ => rfl) (fun _ _ => rfl) (fun _ _ hs => absurd rfl hs)
                      exact ⟨k1, k2⟩
theorem Inv2.apply {o : St} (h : Inv2 o) (hi : Inv o) (c : Cmd) : Inv2 (o.apply c).1 := ⟨(h.dox hi c).dat, (h.dox hi c).before⟩
theorem Inv2.play {o : St} (h : Inv2 o) (hi : Inv o) (l : List (Nat × Nat)) : Inv2 (playF o l) := by
  induction l generalizing o with
  | nil => exact h
  | cons m l ih => exact ih (h.apply hi _) (hi.apply _)
end Go.X.OM

namespace Go.X.OM
open Go Go.X
def befP (l : List Pt) (x : Str) : Nat → Str
  | 0 => x
  | j + 1 => match l[j]? with | some p => p.r.hi | none => eps
theorem seg_at : ∀ {l : List Pt} {x : Str}, Seg x l eps → ∀ (i : Nat) (p : Pt), l[i]? = some p → p.r.ok = true ∧ p.r.lo = befP l x i ∧ (p.r.hi = eps ↔ i + 1 = l.length)
  | [], x, _, i, p, hp => by simp at hp
  | q :: l, x, h, i, p, hp => by
    obtain ⟨h1, h2, h3, h4⟩ := h.inv
    cases i with
    | zero =>
      simp only [List.getElem?_cons_zero, Option.some.injEq] at hp
      subst hp
      refine ⟨ok_iff.2 h2, h1.symm, ?_⟩
      constructor
      · intro he
        rw [h3 he]; rfl
      · intro hl
        have : l = [] := List.eq_nil_of_length_eq_zero (by simpa using hl)
        subst this
        exact h4.nil_inv
    | succ i =>
      rw [List.getElem?_cons_succ] at hp
      obtain ⟨k1, k2, k3⟩ := seg_at h4 i p hp
      refine ⟨k1, ?_, ?_⟩
      · rw [k2]
        cases i with
        | zero => simp [befP]
        | succ j => simp [befP]
      · rw [k3, List.length_cons]; omega
theorem Cover.at_ix {l : List Pt} (h : Cover l) {i : Nat} {p : Pt} (hp : l[i]? = some p) : p.r.ok = true ∧ p.r.lo = befP l eps i ∧ (p.r.hi = eps ↔ i + 1 = l.length) := seg_at h.1 i p hp
theorem ownerF_all {r : Rg} {g : Int} (hg : 1 ≤ g) : ∀ {l : List Pt} {own : Int}, (own = 0 ∨ own = g) → (∀ p ∈ l, meets p.r r = true → p.group = g) → ownerF r own l = some (if own = g ∨ l.any (fun p => meets p.r r) = true then g else own)
  | [], own, ho, _ => by
    unfold ownerF
    rcases ho with rfl | rfl
    · rw [if_neg]
      rintro (h | h)
      · omega
      · simp at h
    · rw [if_pos (.inl rfl)]
  | p :: l, own, ho, hl => by
    unfold ownerF
    by_cases hm : meets p.r r = true
    · have hpg := hl p (.head _) hm
      rw [if_pos hm, if_neg (by rintro ⟨h1, h2⟩; rcases ho with rfl | rfl; exact h1 rfl; exact h2 hpg), hpg, ownerF_all hg (.inr rfl) (fun q hq => hl q (.tail _ hq)), if_pos (.inl rfl), if_pos]
      right
      simp [hm]
    · rw [if_neg hm, ownerF_all hg ho (fun q hq => hl q (.tail _ hq))]
      have : (p :: l).any (fun p => meets p.r r) = l.any (fun p => meets p.r r) := by simp [hm]
      rw [this]
theorem Inv.owner {o : St} (h : Inv o) {m : Mv} (hm : m ∈ o.moves) (hs : m.st ≠ 3) : o.owner m.r = some m.fr := by
  obtain ⟨k1, k2, _⟩ := h.mok m hm
  unfold St.owner
  rw [ownerF_all k2 (.inl rfl) (fun p hp hmt => h.own m hm hs p hp hmt), if_pos]
  right
  obtain ⟨p, hp, hin⟩ := h.cov.at m.r.lo
  exact List.any_eq_true.2 ⟨p, hp, (meets_iff (h.cov.ok p hp) k1).2 ⟨m.r.lo, hin, inR_lo k1⟩⟩
end Go.X.OM
