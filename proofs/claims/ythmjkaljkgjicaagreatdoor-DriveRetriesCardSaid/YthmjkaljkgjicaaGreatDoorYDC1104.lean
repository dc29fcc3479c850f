/- Contracts and lemmas for the claim (part 4); no condition of its own. -/
import Derived.Test.YthmjkaljkgjicaaGreatDoorYDC1103
set_option linter.all false
set_option linter.unusedVariables false
set_option linter.unusedSimpArgs false
set_option linter.unnecessarySimpa false
set_option linter.all false
namespace Go.X
open Go
section
variable {c : Cx}
def tailB1 (all : List Oper) (m : Nat) : Bool :=
  noDef all && (List.range all.length).all (fun i => Nat.blt i m || (List.range m).all (fun j => j == 0 || depB all all.length i j)) &&
  (List.range m).all (fun i => match all[i]? with
    | some o => o.after.toList.all (fun e => !Region.binds .any e || Nat.blt e.on i) && (match o.guard with | none => true | some (j, _) => Nat.blt j i)
    | none => true)
theorem any_prefix1 {all l1 l2 : List Oper} {C : World → Prop} {Q : Exit → Act → World → Prop} {Qf : Act → Prop} {fuel2 : Nat} (hall : all = l1 ++ l2) (ht : tailB1 all l1.length = true)
    (hfin : ∀ a w, C w → Qf a → wpAnyIn c.F 0 c.P .any all.toArray Q fuel2 (List.replicate l1.length true ++ List.replicate l2.length false).toArray a w) :
    ∀ (fuel : Nat) (listed : List Bool) (a : Act) (w : World), listed.length = l1.length → listed.getD 0 false = true → closedL all (listed ++ List.replicate l2.length false).toArray → C w →
      wpAnyQ c.P .any l1.toArray C Qf fuel listed.toArray a → wpAnyIn c.F 0 c.P .any all.toArray Q (fuel + fuel2) (listed ++ List.replicate l2.length false).toArray a w := by
  simp only [tailB1, Bool.and_eq_true] at ht
  obtain ⟨⟨hnd, hdep⟩, hback⟩ := ht
  simp only [List.all_eq_true, List.mem_range, Bool.or_eq_true] at hdep hback
  have hlt : ∀ {i m : Nat}, Nat.blt i m = true → i < m := fun h => Nat.le_of_ble_eq_true h
  have h1 : ∀ i, i < l1.length → all[i]? = l1[i]? := fun i hi => by rw [hall, List.getElem?_append_left hi]
  have hbk : ∀ i o, i < l1.length → all[i]? = some o → (∀ e ∈ o.after, Region.binds .any e = true → e.on < i) ∧ ∀ j b, o.guard = some (j, b) → j < i := by
    intro i o hi ho
    have := hback i hi
    simp only [ho, Bool.and_eq_true, List.all_eq_true, Bool.or_eq_true, Bool.not_eq_true'] at this
    refine ⟨fun e he hb => ?_, fun j b hg => ?_⟩
    · rcases this.1 e (by simpa using he) with h | h
      · rw [hb] at h; cases h
      · exact hlt h
    · have := this.2; rw [hg] at this; exact hlt this
  -- below m, both see the same
  have hrd : ∀ (listed : List Bool), listed.length = l1.length → ∀ i, i < l1.length → (i ∈ Region.ready .any all.toArray (listed ++ List.replicate l2.length false).toArray ↔ i ∈ Region.ready .any l1.toArray listed.toArray) := by
    intro listed hl i hi
    rw [mem_ready, mem_ready, getD_app (by omega)]
    refine and_congr Iff.rfl ?_
    simp only [List.getElem?_toArray, h1 i hi]
    constructor
    · rintro ⟨o, ho, h⟩
      exact ⟨o, ho, fun e he hb => by have := h e he hb; rwa [getD_app (by have := (hbk i o hi (by rw [h1 i hi]; exact ho)).1 e he hb; omega)] at this⟩
    · rintro ⟨o, ho, h⟩
      exact ⟨o, ho, fun e he hb => by have := h e he hb; rwa [getD_app (by have := (hbk i o hi (by rw [h1 i hi]; exact ho)).1 e he hb; omega)]⟩
  -- nothing is ready: all is listed
  have hdone : ∀ (listed : List Bool), listed.length = l1.length → Region.ready .any l1.toArray listed.toArray = [] → listed = List.replicate l1.length true := by
    intro listed hl hr
    have key : ∀ i, i < l1.length → listed[i]? = some true := by
      intro i
      induction i using Nat.strongRecOn with
      | _ i ih =>
        intro hi
        cases hb : listed[i]? with
        | none => rw [List.getElem?_eq_none_iff] at hb; omega
        | some b =>
          cases b with
          | true => rfl
          | false =>
            exfalso
            have : i ∈ Region.ready .any l1.toArray listed.toArray := by
              rw [mem_ready]
              refine ⟨by simp [Array.getD_eq_getD_getElem?, hb], l1[i], by simp [hi], fun e he hbd => ?_⟩
              have h2 := (hbk i l1[i] hi (by rw [h1 i hi]; simp [hi])).1 e he hbd
              have h3 := ih e.on h2 (by omega)
              simp [Array.getD_eq_getD_getElem?, h3]
            rw [hr] at this; cases this
    refine List.ext_getElem? fun i => ?_
    rcases Nat.lt_or_ge i l1.length with h | h
    · rw [key i h, List.getElem?_replicate, if_pos h]
    · rw [List.getElem?_eq_none (by omega), List.getElem?_eq_none (by simp; omega)]
  intro fuel
  induction fuel with
  | zero =>
    intro listed a w hl hz hc hw h
    have h3 := hdone listed hl h.1
    subst h3
    simpa using hfin a w hw h.2
  | succ fuel ih =>
    intro listed a w hl hz hc hw h
    by_cases he : Region.ready .any l1.toArray listed.toArray = []
    · have h3 := hdone listed hl he
      subst h3
      have := wpAnyIn_add (hfin a w hw (h.1 he)) (fuel + 1)
      exact this
    · obtain ⟨i0, hi0⟩ := List.exists_mem_of_ne_nil _ he
      have hi0m : i0 < l1.length := by
        obtain ⟨_, o, ho, _⟩ := mem_ready.1 hi0
        rcases Nat.lt_or_ge i0 l1.length with h | h
        · exact h
        · simp [List.getElem?_eq_none h] at ho
      rw [show fuel + 1 + fuel2 = (fuel + fuel2) + 1 from by omega]
      refine ⟨fun h0 => ?_, fun i hi => ?_⟩
      · have := (hrd listed hl i0 hi0m).2 hi0
        rw [h0] at this; cases this
      · obtain ⟨hun, o, ho, hr⟩ := mem_ready.1 hi
        have ho : all[i]? = some o := by simpa using ho
        have him : i < l1.length := by
          rcases Nat.lt_or_ge i l1.length with h | h
          · exact h
          · exfalso
            have hlen : i < all.length := by
              rcases Nat.lt_or_ge i all.length with h | h
              · exact h
              · rw [List.getElem?_eq_none h] at ho; cases ho
            have h4 := hdep i hlen
            have h5 : ¬ Nat.blt i l1.length = true := fun h' => by have := hlt h'; omega
            have h60 := h4.resolve_left h5 i0 hi0m
            have h6 := h60.resolve_left (by
              intro e0
              have e0 : i0 = 0 := by simpa using e0
              subst e0
              have h8 := (mem_ready.1 hi0).1
              have : listed[0]? = some listed[0] := by simp
              rw [List.getD_eq_getElem?_getD, this] at hz
              simp [Array.getD_eq_getD_getElem?, this] at h8
              simp at hz
              rw [hz] at h8; cases h8)
            have h7 := dep_listed hc _ _ _ h6 ⟨o, ho, hr⟩
            rw [getD_app (by omega)] at h7
            have h8 := (mem_ready.1 hi0).1
            have : listed[i0]? = some listed[i0] := by simp
            simp [Array.getD_eq_getD_getElem?, this] at h7 h8
            rw [h7] at h8; cases h8
        have hq := h.2 i ((hrd listed hl i him).1 hi)
        have hset : (listed ++ List.replicate l2.length false).toArray.setIfInBounds i true = (listed.set i true ++ List.replicate l2.length false).toArray := by
          simp [List.set_append_left, hl, him]
        have hc' : closedL all (listed.set i true ++ List.replicate l2.length false).toArray := by
          rw [← hset]
          intro i' o' ho' hl' e he hb
          by_cases hii : i = i'
          · subst hii
            rw [ho] at ho'; cases ho'
            exact getD_set_true (hr e he hb)
          · rw [getD_set_ne false hii] at hl'
            exact getD_set_true (hc i' o' ho' hl' e he hb)
        have hnext : ∀ a' w', C w' → wpAnyQ c.P .any l1.toArray C Qf fuel (listed.toArray.setIfInBounds i true) a' →
            wpAnyIn c.F 0 c.P .any all.toArray Q (fuel + fuel2) ((listed ++ List.replicate l2.length false).toArray.setIfInBounds i true) a' w' := by
          intro a' w' hw' h'
          rw [hset]
          exact ih (listed.set i true) a' w' (by simpa using hl) (by
            rw [List.getD_eq_getElem?_getD, List.getElem?_set]
            split
            · rename_i e0
              subst e0
              rw [if_pos (by omega)]
              rfl
            · rw [← List.getD_eq_getElem?_getD]; exact hz) hc' hw' (by simpa using h')
        unfold qOp at hq
        unfold wpOpIn
        have ho1 : l1[i]? = some o := by rw [← h1 i him]; exact ho
        simp only [List.getElem?_toArray, ho, ho1] at hq ⊢
        have hwant : Region.wanted o (yielded all.toArray a.tmps) = Region.wanted o (yielded l1.toArray a.tmps) := by
          unfold Region.wanted
          cases hg : o.guard with
          | none => rfl
          | some p =>
            obtain ⟨j, b⟩ := p
            have hj := (hbk i o him ho).2 j b hg
            have : yielded all.toArray a.tmps j = yielded l1.toArray a.tmps j := by
              unfold yielded
              simp only [List.getElem?_toArray, h1 j (by omega)]
            simp only [this]
        rw [hwant]
        split
        · rename_i hw1
          rw [if_pos hw1] at hq
          obtain ⟨v, h2, h3⟩ := hq
          have h4 := h2 w hw
          refine ⟨fun _ _ => trivial, ?_⟩
          rw [Oper.semAt_eq _ _ _ (noDef_spec hnd ho)]
          unfold Oper.quietAt at h4
          generalize (execOp a.eval o).run c.P w = r at *
          cases r with
          | ok n w' =>
            cases n <;> simp only [Oper.quietUpon] at h4 <;> simp only [Oper.uponIn]
            case value u =>
              obtain ⟨rfl, rfl⟩ := h4
              exact hnext _ _ hw h3
            case skip =>
              obtain ⟨rfl, rfl⟩ := h4
              exact hnext _ _ hw h3
            case enter f args =>
              obtain ⟨rfl, hcl⟩ := h4
              refine ⟨fun h => by simp [Cx.F, Fence.wide] at h, (callsIn_of_calls hcl).mono ?_⟩
              rintro e w'' ⟨rfl, hw''⟩
              exact hnext _ _ hw'' h3
          | halt x w' => simp only [Oper.quietUpon] at h4
        · rename_i hw1
          rw [if_neg hw1] at hq
          exact ⟨fun _ _ => trivial, hnext _ _ hw hq⟩
theorem r_split1 (m : Nat) {c : Cx} {id : Nat} {o0 : Oper} {all' : List Oper} {E : Env} {H : List Blk} {k : KC} (hm : c.P.follows .mixedOrders = true) (hin : (isInert o0.op && o0.after.isEmpty) = true)
    (hB : Region.lexB .any (o0 :: all'.take m).toArray = true) (ht : tailB1 (o0 :: all') (o0 :: all'.take m).length = true) (hfr : freeB (o0 :: all') = true)
    (h : ∀ K : Env → Prop, (∀ E', anyF c (o0 :: all') (k .nrm) (all'.drop m).length (List.replicate (o0 :: all'.take m).length true ++ List.replicate (all'.drop m).length false) E' H → K E') → InAt c (o0 :: all') o0 E (fun E1 => qopsF c (o0 :: all'.take m) (all'.take m) E1 H K)) :
    Run c (.region id (o0 :: all').toArray true) E H k := by
  obtain ⟨l1, hl1⟩ : ∃ l1, all'.take m = l1 := ⟨_, rfl⟩
  obtain ⟨l2, hl2⟩ : ∃ l2, all'.drop m = l2 := ⟨_, rfl⟩
  have hall : o0 :: all' = (o0 :: l1) ++ l2 := by rw [List.cons_append, ← hl1, ← hl2, List.take_append_drop]
  rw [hl1] at hB ht h
  rw [hl2] at h
  have hnd : noDef (o0 :: all') = true := by simp only [tailB1, Bool.and_eq_true] at ht; exact ht.1.1
  have hin' : isInert o0.op = true := by simp only [Bool.and_eq_true] at hin; exact hin.1
  have haf : o0.after = #[] := by simp only [Bool.and_eq_true] at hin; simpa using hin.2
  refine .of fun ms a w ha hk => ?_
  refine wpIn_region_any hm ?_
  have hkd : Kn c.W c.S ms H { w with drawn := w.drawn + 1 } := Kn.drawn hk
  obtain ⟨v, E1, h1, h2, h3⟩ := iG_spec c.ok hin' ((h _ fun _ h => h).get _ fun _ h => h) ha
  have hq := qopsF_spec c.ok h3 h2
  have hlex : Region.lexFrom .any (o0 :: l1).toArray l1.length 1 ((Array.replicate (o0 :: l1).length false).setIfInBounds 0 true) = true := by
    simp only [Region.lexB, Bool.and_eq_true] at hB
    have := hB.2
    simp only [List.size_toArray, List.length_cons, Region.lexFrom, Bool.and_eq_true] at this
    exact this.2
  have hns : Region.noSelect (o0 :: l1).toArray = true := by
    simp only [Region.lexB, Bool.and_eq_true] at hB
    exact hB.1
  have hst := wpAnyQ_lex (C := fun w => Kn c.W c.S ms H w) (P := c.P) (md := .any) hns l1 1 _ _ (fun j => by simp [Nat.add_comm 1 j]) hlex hq
  have e1 : (Array.replicate (o0 :: l1).length false).setIfInBounds 0 true = (true :: List.replicate l1.length false).toArray := by
    simp [List.replicate_succ, ← List.toArray_replicate]
  rw [e1] at hst
  have hnext := any_prefix1 (c := c) (fuel2 := l2.length) (Q := QC c k) hall ht (C := fun w => Kn c.W c.S ms H w) (Qf := fun a => ∃ E', Has c.n ms E' a ∧ anyF c (o0 :: all') (k .nrm) l2.length (List.replicate (o0 :: l1).length true ++ List.replicate l2.length false) E' H)
    (fun a w hw ⟨E', h1, h2⟩ => anyF_sound c.ok hnd hfr (kc := k) (fun ms E H a w h ha hk => ⟨ms, E, H, ha, hk, h⟩) _ _ _ _ h2 ms a w h1 hw)
    l1.length (true :: List.replicate l1.length false) (a.put o0.dst v) _ (by simp) rfl ?_ hkd hst
  · have e : (o0 :: all').toArray.size = (l1.length + l2.length) + 1 := by rw [List.size_toArray, hall]; simp
    rw [e]
    have h4 := (wpAnyIn_round hnd _ _ _ _).1 hnext
    refine (wpAnyIn_round hnd _ _ _ _).2 (wpAnyIn_first (i := 0) (oi := o0) rfl (by simp) (fun j o cs b hj => Region.noSelect_spec (by have := hfr; simp only [freeB, Bool.and_eq_true] at this; exact this.1) j o cs b hj) ?_ _ _ a _ ?_ ?_ h1 ?_)
    · intro c a w h; exact h
    · intro j oj hj hji hunj hno
      exact freeB_spec hfr (i := 0) (by simp) hin' (by simpa using hj) hji hno fun e he => by rw [haf] at he; simp at he
    · rw [mem_ready]
      refine ⟨by simp, o0, by simp, fun e he => by rw [haf] at he; simp at he⟩
    · have e2 : (Array.replicate (l1.length + l2.length + 1) false).setIfInBounds 0 true = (true :: List.replicate l1.length false ++ List.replicate l2.length false).toArray := by
        rw [Array.replicate_succ']
        simp [← List.toArray_replicate, List.replicate_append_replicate]
      rw [e2]; exact h4
  · intro i o ho hl e he
    by_cases hi : i = 0
    · subst hi
      have : o = o0 := by simpa using ho.symm
      subst this
      rw [haf] at he; simp at he
    · exfalso
      obtain ⟨i', rfl⟩ : ∃ i', i = i' + 1 := ⟨i - 1, by omega⟩
      rw [List.cons_append, List.replicate_append_replicate, Array.getD_eq_getD_getElem?, List.getElem?_toArray, List.getElem?_cons_succ, List.getElem?_replicate] at hl
      split at hl <;> cases hl
end
end Go.X

set_option linter.all false
namespace Go.X
open Go
/-- cells behind an address (one each), wherever they lie -/
def RdB (w : World) (a : Option Addr) (cs : List Value) : Prop := ∀ i v, cs[i]? = some v → ∃ b off C t f, a = some ⟨b, off, none⟩ ∧ w.heap[b]? = some (.cells C t f) ∧ C[off + i]? = some v
def SeesB (c : Cx) (H : List Blk) (a : Option Addr) (cs : List Value) : Prop := ∀ ms w, Kn c.W c.S ms H w → RdB w a cs
theorem RdB.take {w a cs} (h : RdB w a cs) (u : Nat) : RdB w a (cs.take u) := fun i v hi => by
  rw [List.getElem?_take] at hi
  split at hi
  · exact h i v hi
  · cases hi
section
variable {c : Cx} {o : Oper} {E : Env} {H : List Blk} {nx : K1}
theorem SeesB.old {a cs} (h : RdB c.W a cs) (hS : ∀ k, ¬ c.S k) : SeesB c H a cs := fun ms w hk i v hi => by
  obtain ⟨b, off, C, t, f, h1, h2, h3⟩ := h i v hi
  exact ⟨b, off, C, t, f, h1, hk.oldO h2 (hS b), h3⟩
theorem OpK.slB {t e : Nat} {x y : Operand} {ti j : TI} (ho : o.op = .slice t x none (some y) none) {a : Option Addr} {n cap : Nat} {q : IntKind} {u : Nat} (hx : opd E x = some (.v (.slice a n cap))) (hy : opd E y = some (.v (.int q (u : Nat))))
    (hti : c.T.get t = some ti) (hd : ti.desc = .slice e) (hj : c.T.get e = some j) (hN : u ≤ cap)
    (h : nx (.v (.slice a u cap)) H) : OpK c o E H nx := by
  have hnd : ∀ cl, o.op ≠ .defer cl := by rw [ho]; intro cl e; cases e
  refine OpK.val hnd _ (fun ms ac w ha hk => ?_) h
  rw [run_sl (l := 0) (u := u) ho hx hti hd hj (.inl ⟨rfl, rfl⟩) (.inr ⟨y, q, rfl, hy⟩) (by omega) (by omega) (by omega) ha]
  have h4 : a.map (·.add 0) = a := by cases a <;> simp [Addr.add]
  simp [den, h4]
theorem OpK.idxB {t e : Nat} {x ix : Operand} {ti j : TI} (ho : o.op = .indexAddr t x ix) {a : Option Addr} {n cap : Nat} {q : IntKind} {z : Nat} (hx : opd E x = some (.v (.slice a n cap))) (hi : opd E ix = some (.v (.int q (z : Nat))))
    (hti : c.T.get t = some ti) (hd : ti.desc = .slice e) (hj : c.T.get e = some j) (hkk : j.size = 1) {cs : List Value} (hs : SeesB c H a cs) (hlt : z < n) {s : SV} (hc : cs[z]? = some (den s))
    (h : ∀ b off, PC c H b off [s] → nx (.v (.pointer (some ⟨b, off, none⟩))) H) : OpK c o E H nx := by
  have hnd : ∀ cl, o.op ≠ .defer cl := by rw [ho]; intro cl e; cases e
  refine OpK.run hnd fun ms ac w hac hk => ?_
  have hu := (c.ok t ti hti).1
  rw [hd] at hu
  obtain ⟨b, off, C, t', f, rfl, h2, h3⟩ := hs ms w hk z _ hc
  have e1 := hac.opd hx
  have e2 := hac.opd hi
  simp only [den] at e1 e2
  refine ⟨_, H, w, ?_, hk, h b (off + z) ?_⟩
  · simp [execOp, ho, e1, e2, Instr.indexAt, asIntOf, run_underlying hu, r_sizeOf (c.ok e j hj) w, hlt, hkk, add_none, den]
  · intro ms' w' hk'
    obtain ⟨b', off', C', t'', f', he, h4, h5⟩ := hs ms' w' hk' z _ hc
    simp only [Option.some.injEq, Addr.mk.injEq, and_true] at he
    obtain ⟨rfl, rfl⟩ := he
    refine ⟨C', t'', f', h4, fun m v hm => ?_⟩
    match m, hm with
    | 0, hm =>
      have : den s = v := by simpa [denL] using hm
      subst this
      exact h5
    | m + 1, hm => simp [denL] at hm
end
end Go.X

set_option linter.all false
namespace Go.X
open Go
/-- an item of the statements -/
structure It where
  s : Nat
  t : Nat
  p : Nat
  m : Nat
  i : Bool
  g : Nat
deriving DecidableEq
namespace It
def cells (x : It) : List Value := [.int .i64 x.s, .int .i64 x.t, .int .i64 x.p, .int .i64 x.m, .bool x.i, .int .i64 x.g]
def eff (x : It) : Prop := 1 ≤ x.s ∧ x.s ≤ 50 ∧ x.t < 8 ∧ 1 ≤ x.p ∧ x.p ≤ 3 ∧ x.m = 0 ∧ x.i = false ∧ 1 ≤ x.g ∧ x.g ≤ 2
def mov (x : It) : Prop := x.s = 0 ∧ x.t = 0 ∧ x.p = 0 ∧ 1 ≤ x.m ∧ x.m ≤ 64 ∧ 1 ≤ x.g ∧ x.g ≤ 2
def Ok (x : It) : Prop := x.eff ∨ x.mov
def num (x : It) : Nat := if x.m = 0 then (((x.s - 1) * 8 + x.t) * 3 + x.p - 1) * 7 + x.g else (239976 + 2 * x.m - (if x.i then 1 else 2)) * 7 + x.g
def of (k : Nat) : It := if k % 4 = 3 then ⟨0, 0, 0, 1 + k / 4 % 64, k / 256 % 2 == 1, 1 + k / 512 % 2⟩ else ⟨1 + k / 4 % 50, k / 200 % 8, 1 + k % 3, 0, false, 1 + k / 1600 % 2⟩
theorem of_ok (k : Nat) : (of k).Ok := by
  unfold of Ok eff mov
  split
  · right; simp; omega
  · left; simp; omega
theorem num_lt {x : It} (h : x.Ok) : x.num < 2000000 := by
  unfold num
  rcases h with h | h
  · unfold eff at h; rw [if_pos h.2.2.2.2.2.1]; omega
  · unfold mov at h; rw [if_neg (by omega)]; split <;> omega
theorem num_inj {x y : It} (hx : x.Ok) (hy : y.Ok) (h : x.num = y.num) : x = y := by
  obtain ⟨s, t, p, m, i, g⟩ := x
  obtain ⟨s', t', p', m', i', g'⟩ := y
  unfold num at h
  rcases hx with hx | hx <;> rcases hy with hy | hy
  · unfold eff at hx hy
    obtain ⟨h1, h2, h3, h4, h5, rfl, rfl, h8, h9⟩ := hx
    obtain ⟨k1, k2, k3, k4, k5, rfl, rfl, k8, k9⟩ := hy
    simp only [if_true] at *
    have : s = s' ∧ t = t' ∧ p = p' ∧ g = g' := by omega
    obtain ⟨rfl, rfl, rfl, rfl⟩ := this
    rfl
  · unfold eff at hx; unfold mov at hy
    obtain ⟨h1, h2, h3, h4, h5, rfl, rfl, h8, h9⟩ := hx
    obtain ⟨rfl, rfl, rfl, k4, k5, k8, k9⟩ := hy
    simp only [if_true] at *
    rw [if_neg (show ¬ m' = 0 by omega)] at h
    split at h <;> omega
  · unfold mov at hx; unfold eff at hy
    obtain ⟨h1, h2, h3, h4, h5, rfl, rfl, h8, h9⟩ := hy
    obtain ⟨rfl, rfl, rfl, k4, k5, k8, k9⟩ := hx
    simp only [if_true] at *
    rw [if_neg (show ¬ m = 0 by omega)] at h
    split at h <;> omega
  · unfold mov at hx hy
    obtain ⟨rfl, rfl, rfl, k4, k5, k8, k9⟩ := hx
    obtain ⟨rfl, rfl, rfl, j4, j5, j8, j9⟩ := hy
    simp only at *
    rw [if_neg (show ¬ m = 0 by omega), if_neg (show ¬ m' = 0 by omega)] at h
    have : m = m' ∧ i = i' ∧ g = g' := by
      cases i <;> cases i' <;> simp at h ⊢ <;> omega
    obtain ⟨rfl, rfl, rfl⟩ := this
    rfl
end It
abbrev OI := {x : It // x.Ok}
instance : Inhabited OI := ⟨⟨It.of 0, It.of_ok 0⟩⟩
def OI.cells (x : OI) : List Value := x.1.cells
def OI.num (x : OI) : Nat := x.1.num
theorem OI.cells_length (x : OI) : x.cells.length = 6 := rfl
theorem OI.inj {x y : OI} (h : x.num = y.num) : x = y := Subtype.ext (It.num_inj x.2 y.2 h)
/-- items in the order of their numbers -/
def Asc (X : List OI) : Prop := X.Pairwise fun x y => x.num < y.num
def keys (X : List OI) : List Int := X.map fun x => (x.num : Int)
theorem Asc.keysLt {X : List OI} (h : Asc X) : (keys X).Pairwise (· < ·) := by
  unfold keys
  exact List.pairwise_map.2 (h.imp fun h => by omega)
end Go.X
