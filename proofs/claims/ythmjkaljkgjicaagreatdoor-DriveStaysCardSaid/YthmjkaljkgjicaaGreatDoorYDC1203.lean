/- Contracts and lemmas for the claim (part 3); no condition of its own. -/
import Derived.Test.YthmjkaljkgjicaaGreatDoorYDC1202
import Derived.Shelf.SlIterI.Nil
import Derived.Shelf.SortM.Plain
import Derived.Shelf.SortM.SortNone
import Derived.Shelf.SlMaps.DeleteFunc
import Derived.Shelf.SlMaps.Clone
import Derived.Shelf.SlSortCmp.WholeK
import Derived.Shelf.SlSortCmp.NoneTotal
import Derived.Sort.Grow
import Derived.Deep.Draws
set_option linter.all false
set_option linter.unusedVariables false
set_option linter.unusedSimpArgs false
set_option linter.unnecessarySimpa false
namespace Go.X
open Go
theorem OpK.id {c : Cx} {o : Oper} {E : Env} {H : List Blk} {nx : K1} (h : OpK c o E H nx) : OpK c o E H nx := h
theorem QK.id {c : Cx} {o : Oper} {E : Env} {H : List Blk} {k : SV → Prop} (h : QK c o E H k) : QK c o E H k := h
theorem IK.id {c : Cx} {o : Oper} {E : Env} {k : SV → Prop} (h : IK c o E k) : IK c o E k := h
theorem CallK.id {c : Cx} {g : FuncId} {l : List SV} {H : List Blk} {nx : K1} (h : CallK c g l H nx) : CallK c g l H nx := h
theorem CallQ.id {c : Cx} {g : FuncId} {l : List SV} {H : List Blk} {k : SV → Prop} (h : CallQ c g l H k) : CallQ c g l H k := h
theorem CallK.at (g : FuncId) {c : Cx} {l : List SV} {H : List Blk} {nx : K1} (h : CallK c g l H nx) : CallK c g l H nx := h
theorem CallQ.at (g : FuncId) {c : Cx} {l : List SV} {H : List Blk} {k : SV → Prop} (h : CallQ c g l H k) : CallQ c g l H k := h
theorem CallV.id {c : Cx} {fv : Value} {l : List SV} {H : List Blk} {nx : K1} (h : CallV c fv l H nx) : CallV c fv l H nx := h
theorem RemK.id {x y : Int} {nx : Int → Prop} (h : RemK x y nx) : RemK x y nx := h
theorem QuoK.id {q : IntKind} {x y : Int} {nx : Int → Prop} (h : QuoK q x y nx) : QuoK q x y nx := h
theorem WrapK.id {q : IntKind} {x : Int} {nx : Int → Prop} (h : WrapK q x nx) : WrapK q x nx := h
theorem QK.val {c : Cx} {o : Oper} {E : Env} {H : List Blk} {k : SV → Prop} (s : SV)
    (h : ∀ ms a w, Has c.n ms E a → Kn c.W c.S ms H w → (execOp a.eval o).run c.P w = .ok (.value (den s)) w) (hn : k s) : QK c o E H k := ⟨s, h, hn⟩
theorem IK.eqV {c : Cx} {o : Oper} {E : Env} {k : SV → Prop} {L : List Nat} (hL : SOk c.P L) {t t' : Nat} {x y : Operand} {s s' : SV} (ho : o.op = .binOp .eql t x y t') (hx : opd E x = some s) (hy : opd E y = some s')
    (h : X.eqV c L t s s' (fun b => k (.v (.bool b)))) : IK c o E k := by
  obtain ⟨b, h1, h2⟩ := eqV_spec c.ok hL h
  refine ⟨.v (.bool b), fun ms a ha w => ?_, h2⟩
  simp [execOp, ho, ha.opd hx, ha.opd hy, (h1 w).1, (h1 w).2.2, den]
theorem QK.eqV {c : Cx} {o : Oper} {E : Env} {H : List Blk} {k : SV → Prop} {L : List Nat} (hL : SOk c.P L) {t t' : Nat} {x y : Operand} {s s' : SV} (ho : o.op = .binOp .eql t x y t') (hx : opd E x = some s) (hy : opd E y = some s')
    (h : X.eqV c L t s s' (fun b => k (.v (.bool b)))) : QK c o E H k := by
  obtain ⟨b, h1, h2⟩ := eqV_spec c.ok hL h
  refine QK.val _ (fun ms a w ha hk => ?_) h2
  simp [execOp, ho, ha.opd hx, ha.opd hy, (h1 w).1, (h1 w).2.2, den]
end Go.X

namespace Go.X
open Go
theorem Run.hsub {c : Cx} {x : Code} {E : Env} {H H' : List Blk} {k : KC} (hs : HSub H' H) (h : Run c x E H' k) : Run c x E H k :=
  .of fun ms a w ha hk => h.out ms a w ha (hk.hsub hs)
structure LaxK (k : KC) (e : Ex) (E : Env) (H : List Blk) : Prop where mk ::
  get : ∃ H', HSub H' H ∧ k e E H'
/-- the end may be weakened first -/
theorem Run.lax {c : Cx} {x : Code} {E : Env} {H : List Blk} {k : KC} (h : Run c x E H (LaxK k)) : Run c x E H k := by
  refine .of fun ms a w ha hk => wpIn_mono (h.out ms a w ha hk) ?_
  intro e a' w' hq
  unfold QC at hq ⊢
  split at hq
  · obtain ⟨ms, E, H, h1, h2, ⟨H', h3, h4⟩⟩ := hq
    exact ⟨ms, E, H', h1, h2.hsub h3, h4⟩
  · exact hq
end Go.X

namespace Go.X
open Go
def bldF (c : Cx) (t : Nat) (parts : List (Nat × Operand)) (E : Env) (k : SV → Prop) : Prop := match c.T.get t with
  | some i => match i.desc with
    | .struct fs => cond (knownF c fs.toList) (valsF i.zero.cells.toList (fun z => partsF E parts (fun ps => fillF (structPl c fs.toList) ps z (fun cs => k (.agg cs))))) False
    | _ => False
  | none => False
theorem partsF_spec' {E : Env} : ∀ {l : List (Nat × Operand)} {k : List (Nat × SV) → Prop}, partsF E l k →
    ∃ r, (∀ n ms a, Has n ms E a → (l.map fun p => (p.1, a.eval p.2)) = (r.map fun p => (p.1, den p.2))) ∧ k r
  | [], _, h => ⟨[], fun _ _ _ _ => rfl, h⟩
  | (i, x) :: l, k, h => by
    simp only [partsF] at h
    split at h
    · rename_i s hs
      obtain ⟨r, h1, h2⟩ := partsF_spec' (l := l) h
      exact ⟨(i, s) :: r, fun n ms a ha => by simp [h1 n ms a ha, ha.opd hs], h2⟩
    · exact h.elim
theorem bldF_spec {c : Cx} {o : Oper} {E : Env} {k : SV → Prop} {t : Nat} {parts : Array (Nat × Operand)} (ho : o.op = .build t parts) (h : bldF c t parts.toList E k) :
    ∃ s, (∀ ms a, Has c.n ms E a → ∀ w, (execOp a.eval o).run c.P w = .ok (.value (den s)) w) ∧ k s := by
  unfold bldF at h
  split at h
  · rename_i i hi
    split at h
    · rename_i fs hd
      cases hkn : knownF c fs.toList with
      | false => rw [hkn] at h; exact h.elim
      | true =>
        rw [hkn] at h
        have h := valsF_spec h
        obtain ⟨ps, h1', h2⟩ := partsF_spec' h
        obtain ⟨r, h3, h4⟩ := fillF_spec (place := fun x => (fs.toList.map fun f => (f.offset, ((c.T.get f.type).map (·.size)).getD 0)).toArray[x]?) (by
          intro x k hk
          unfold structPl at hk
          split at hk
          · rename_i fd hfd
            split at hk
            · rename_i j hj
              exact ⟨fd.offset, j.size, by simp only [nth_array, List.getElem?_map, hfd]; simp [hj], hk⟩
            · exact hk.elim
          · exact hk.elim) h2
        refine ⟨.agg r, fun ms a ha w => ?_, h4⟩
        have h1 := h1' _ _ _ ha
        have hpl := run_mapM_places c.ok w fs.toList hkn
        have hps : (parts.map fun (i, x) => (i, a.eval x)).toList = ps.map fun p => (p.1, den p.2) := by rw [← h1]; simp
        have hz : (denL (i.zero.cells.toList.map .v)).toArray = i.zero.cells := by rw [denL_map_v]
        rw [hz] at h3
        simp only [execOp, ho, Instr.build]
        rw [Sem.run_bind, Sem.run_bind, r_zeroValue (c.ok t i hi) w]
        simp only [Result.andThen_ok]
        rw [Sem.run_bind, r_underlying (c.ok t i hi) w]
        simp only [Result.andThen_ok, hd, Sem.run_bind]
        rw [Array.mapM_eq_mapM_toList]
        simp only [Sem.run_map, hpl, Result.andThen_ok, hps]
        rw [h3]
        simp [den]
    · exact h.elim
  · exact h.elim
theorem IK.bld {c : Cx} {o : Oper} {E : Env} {k : SV → Prop} {t : Nat} {parts : Array (Nat × Operand)} (ho : o.op = .build t parts) (h : bldF c t parts.toList E k) : IK c o E k :=
  ⟨bldF_spec ho h⟩
theorem QK.bld {c : Cx} {o : Oper} {E : Env} {H : List Blk} {k : SV → Prop} {t : Nat} {parts : Array (Nat × Operand)} (ho : o.op = .build t parts) (h : bldF c t parts.toList E k) : QK c o E H k := by
  obtain ⟨s, h1, h2⟩ := bldF_spec ho h
  exact ⟨s, fun ms a w ha _ => h1 ms a ha w, h2⟩
end Go.X
namespace Go.X
open Go
theorem SelI.blk' {H H' L : List Blk} {i j b : Nat} {cs cs' : List SV} {t : TypeId} (h : Rm H (.blk j b cs' t) H') (e : cs' = cs) (hs : SelI H' L) : SelI H (.blk i b cs t :: L) := .blk (e ▸ h) hs
theorem SelI.ext' {H H' L : List Blk} {i : Nat} {A A' : Ass} (h : Rm H (.ext i A') H') (e : A' = A) (hs : SelI H' L) : SelI H (.ext i A :: L) := .ext (e ▸ h) hs
end Go.X

namespace Go.X
open Go
def allBlk : List Blk → Prop
  | [] => True
  | .blk _ _ _ _ :: H => allBlk H
  | .ext _ _ :: _ => False
/-- what reads the blocks of L, and no more, keeps exactly these -/
def Rdd (w : World) (L : List Blk) (S : Nat → Prop) : Prop := match L with
  | [] => ∀ k, ¬ S k
  | .blk _ b cs t :: H => w.heap[b]? = some (.cells (denL cs).toArray t (0, 0)) ∧ ∃ T, Rdd w H T ∧ ¬ T b ∧ ∀ k, S k ↔ k = b ∨ T k
  | .ext _ _ :: _ => False
theorem Rdd.holds {w : World} : ∀ {L : List Blk} {S : Nat → Prop}, Rdd w L S → Holds w L S
  | [], S, h => by
    have : S = fun _ => False := by funext k; exact propext ⟨h k, False.elim⟩
    rw [this]; exact .nil
  | .blk i b cs t :: H, S, ⟨h1, T, h2, h3, h4⟩ => by
    have : S = fun k => (k = b) ∨ T k := by funext k; exact propext (h4 k)
    rw [this]
    exact .cons (S := fun k => k = b) (x := .blk i b cs t) ⟨rfl, h1⟩ (fun k hk => hk ▸ (Array.getElem?_eq_some_iff.1 h1).1) (Rdd.holds h2) (fun k hk hk' => h3 (hk ▸ hk'))
  | .ext _ _ :: _, _, h => h.elim
theorem Rdd.of {w : World} : ∀ {L : List Blk} {S : Nat → Prop}, allBlk L → Holds w L S → ∃ S', Rdd w L S' ∧ ∀ k, S' k → S k
  | [], _, _, h => ⟨fun _ => False, fun _ h => h, fun _ h => h.elim⟩
  | .blk i b cs t :: H, S, ha, h => by
    cases h with
    | @cons _ _ S1 T1 hx hb hH hd =>
      obtain ⟨S2, h1, h2⟩ := Rdd.of (L := H) ha hH
      exact ⟨fun k => k = b ∨ S2 k, ⟨hx.2, S2, h1, fun h => hd b hx.1 (h2 b h), fun _ => Iff.rfl⟩, fun k hk => hk.elim (fun e => .inl (e ▸ hx.1)) (fun h => .inr (h2 k h))⟩
  | .ext _ _ :: _, _, h, _ => h.elim
theorem Rdd.lt {w : World} {L : List Blk} {S : Nat → Prop} (h : Rdd w L S) : ∀ k, S k → k < w.heap.size := h.holds.lt
theorem Rdd.same {W w' : World} : ∀ {L : List Blk} {S T : Nat → Prop}, Rdd W L S → Holds w' L T → ∀ k, S k → w'.heap[k]? = W.heap[k]? ∧ T k
  | [], _, _, h, _, k, hk => (h k hk).elim
  | .blk i b cs t :: H, S, T, ⟨h1, T', h2, h3, h4⟩, h, k, hk => by
    cases h with
    | @cons _ _ S1 T1 hx hb hH hd =>
      rcases (h4 k).1 hk with rfl | hk
      · exact ⟨by rw [hx.2, h1], .inl hx.1⟩
      · obtain ⟨h5, h6⟩ := Rdd.same h2 hH k hk
        exact ⟨h5, .inr h6⟩
  | .ext _ _ :: _, _, _, h, _, _, _ => h.elim
def RoL {α : Type} (W : World) (S : Nat → Prop) (L : List Blk) (v : α → Value) (A' : α → Ass) : Ending → World → Prop := fun e w' =>
  ∃ z, e = .returned (v z) ∧ Eff S W w' ∧ ∃ T, Holds w' (L ++ [.ext 0 (A' z)]) T ∧ ∀ k, T k → S k ∨ W.heap.size ≤ k
theorem enter_roL {α : Type} {P : Program} {T : TR} (hT : TOk P T) {f : FuncId} {fn : Func} {x : Code} {W : World} {A' : α → Ass} {v : α → Value} {n : Nat} {L : List Blk} {S0 : Nat → Prop}
    (hb : Rdd W L S0)
    (hf : P.funcs[f]? = some fn) (hbd : fn.body = some x) (hnm : (fn.name == "runtime.NumGoroutine") = false) (hn : fn.ntmps = n)
    (args : List SV) (hlen : Nat.ble (lenL args) n = true) {rs : List ResultVar} (hrs : fn.results.toList = rs)
    (h' : envF 0 args (fun E => Run ⟨P, T, n, W, S0, none, hT⟩ x E L (endF ⟨P, T, n, W, S0, none, hT⟩ rs (RoL W S0 L v A')))) :
    FrZ P f (denL args).toArray W emp v A' := by
  intro S hS _
  refine (enter_sound hT hf hbd hnm hn args (Kn.init hb.holds (fun k hk => hk)) hlen hrs h').mono ?_
  intro e w' h
  obtain ⟨z, h1, h2, T, h3, h4⟩ := h
  have : S = noS := by funext k; exact propext ⟨fun h => hS k h, fun h => h.elim⟩
  subst this
  obtain ⟨TA, TB, p1, p2, p3, p4⟩ := h3.split _ _
  cases p2 with
  | @cons _ _ S2 T2 hx2 hb2 hH2 hd2 =>
    refine ⟨z, h1, ⟨h2.os, h2.tape, h2.output, h2.size, fun k hk _ => ?_⟩, S2, hx2, fun k hk => ⟨hb2 k hk, .inr ?_⟩⟩
    · by_cases hkb : S0 k
      · exact (hb.same p1 k hkb).1
      · exact h2.old k hk hkb
    · rcases h4 k ((p4 k).2 (.inr (.inl hk))) with h5 | h5
      · exact absurd (.inl hk) (p3 k (hb.same p1 k h5).2)
      · exact h5
theorem FinK.roL0 {P : Program} {T : TR} {n : Nat} {W : World} {r : Option Nat} {hT : TOk P T} {v : Value} {s : SV} {H L : List Blk} {S0 : Nat → Prop} (hs : den s = v) (hH : HSub L H) :
    FinK ⟨P, T, n, W, S0, r, hT⟩ (RoL W S0 L (fun _ : Unit => v) (fun _ => emp)) s H := by
  refine FinK.mk fun w hk => ⟨(), by rw [hs], ⟨Kn0.os hk, Kn0.tape hk, Kn0.output hk, Kn0.size hk, Kn0.old hk⟩, ?_⟩
  obtain ⟨T, h1, h2⟩ := Kn0.foot (hk.hsub hH)
  obtain ⟨T', h3, h4⟩ := Holds.glue L [.ext 0 emp] h1 (TB := fun k => False ∨ False) (.cons (S := fun _ => False) (x := .ext 0 emp) (fun _ h => h) (fun _ h => h.elim) .nil (fun _ h _ => h)) (fun _ _ h => h.elim id id)
  exact ⟨T', h3, fun k hk => ((h4 k).1 hk).elim (h2 k) (fun h => h.elim False.elim False.elim)⟩
theorem Kn.rdd {W S ms H w} {L : List Blk} (hk : Kn W S ms H w) (ha : allBlk L) (hs : HSub L H) : ∃ S', Rdd w L S' := by
  obtain ⟨T, h1, _⟩ := Kn0.foot (hk.hsub hs)
  obtain ⟨TA, TB, _, h1, _, _⟩ := h1.split _ _
  obtain ⟨S', h2, _⟩ := Rdd.of ha h1
  exact ⟨S', h2⟩
end Go.X
namespace Go.X
open Go
section
variable {c : Cx} {o : Oper} {E : Env} {H : List Blk}
theorem QK.ldp {k : SV → Prop} {t : Nat} {x : Operand} (ho : o.op = .load t x) {b off : Nat} {cs : List SV} (hx : opd E x = some (.v (.pointer (some ⟨b, off, none⟩)))) (hp : PC c H b off cs) (hne : cs ≠ []) (h : loadF c t cs 0 k) : QK c o E H k := by
  unfold loadF at h
  split at h
  · rename_i i hi
    have hti := c.ok t i hi
    cases ha : TypeDesc.isAgg i.desc with
    | true =>
      rw [ha] at h
      obtain ⟨h1, h2⟩ := takeF_spec (show takeF i.size cs (fun l => k (.agg l)) from h)
      refine QK.val _ (fun ms ac w hac hk => ?_) h2
      obtain ⟨C, t', f, h3, h4⟩ := hp ms w hk
      have e1 := hac.opd hx
      simp only [den] at e1
      have hsz : ∀ j, j < i.size → C[off + j]? = (denL cs)[j]? := fun j hj => by
        have : j < (denL cs).length := by rw [denL_length]; omega
        rw [h4 j _ (List.getElem?_eq_getElem this), List.getElem?_eq_getElem this]
      have hC : off + i.size ≤ C.size := by
        cases hz : i.size with
        | zero =>
          have h0 : 0 < (denL cs).length := by rw [denL_length]; exact List.length_pos_iff.2 hne
          have := h4 0 _ (List.getElem?_eq_getElem h0)
          have := (Array.getElem?_eq_some_iff.1 this).1
          omega
        | succ m =>
          have := hsz m (by omega)
          rw [List.getElem?_eq_getElem (by rw [denL_length]; omega)] at this
          have := (Array.getElem?_eq_some_iff.1 this).1
          omega
      have h5 := (r_loadVar hti h3).1 ha hC
      have h6 : (C.toList.drop off).take i.size = denL (cs.take i.size) := by
        apply List.ext_getElem?
        intro j
        rw [denL_take, List.getElem?_take, List.getElem?_take]
        split
        · rename_i hj
          rw [List.getElem?_drop, Array.getElem?_toList, hsz j hj]
        · rfl
      simp [execOp, ho, e1, Instr.loadAt, Instr.sureAddr, h5, den, h6]
    | false =>
      rw [ha] at h
      obtain ⟨s, h1, h2⟩ := nthF_spec (show nthF 0 cs k from h)
      refine QK.val _ (fun ms ac w hac hk => ?_) h2
      obtain ⟨C, t', f, h3, h4⟩ := hp ms w hk
      have e1 := hac.opd hx
      simp only [den] at e1
      have h5 := (r_loadVar hti h3 (off := off)).2 ha (den s) (by simpa using h4 0 _ (by rw [denL_getElem?, h1]; rfl))
      simp [execOp, ho, e1, Instr.loadAt, Instr.sureAddr, h5]
  · exact h.elim
theorem QK.idx {kk : SV → Prop} {t e : Nat} {x ix : Operand} {ti j : TI} (ho : o.op = .indexAddr t x ix) {a : Option Addr} {n cap : Nat} {q : IntKind} {z : Int} (hx : opd E x = some (.v (.slice a n cap))) (hi : opd E ix = some (.v (.int q z)))
    (hti : c.T.get t = some ti) (hd : ti.desc = .slice e) (hj : c.T.get e = some j) {k : Nat} (hkk : j.size = k) {cs : List Value} (hs : Sees c H e k a n cap cs) (h0 : 0 ≤ z) (hlt : z < n) {ecs : List SV} (hc : (cs.drop (z.toNat * k)).take k = denL ecs)
    (h : ∀ b off, PC c H b off ecs → kk (.v (.pointer (some ⟨b, off, none⟩)))) : QK c o E H kk := by
  subst hkk
  have hu := (c.ok t ti hti).1
  rw [hd] at hu
  match a with
  | none =>
    have hno : ∀ ms w, Kn c.W c.S ms H w → False := fun ms w hk => by
      obtain ⟨S, hS, _⟩ := hs ms w hk
      rcases hS with ⟨_, rfl, _, _⟩ | ⟨b, hb, pre, post, fr, he, _⟩
      · omega
      · cases he
    exact QK.val _ (fun ms ac w hac hk => (hno ms w hk).elim) (h 0 0 fun ms w hk => (hno ms w hk).elim)
  | some ⟨b, off, p⟩ =>
    refine QK.val _ (fun ms ac w hac hk => ?_) (h b (off + z.toNat * j.size) ?_)
    · obtain ⟨S, hS, _⟩ := hs ms w hk
      rcases hS with ⟨_, rfl, _, _⟩ | ⟨b', hb, pre, post, fr, he, hh, hl, hnc, hp, hf⟩
      · omega
      · have e1 := hac.opd hx
        have e2 := hac.opd hi
        simp only [den, he] at e1 e2
        have he' := he
        simp only [Option.some.injEq, Addr.mk.injEq] at he'
        obtain ⟨rfl, rfl, rfl⟩ := he'
        simp [execOp, ho, e1, e2, Instr.indexAt, asIntOf, run_underlying hu, r_sizeOf (c.ok e j hj) w, hlt, h0, add_none, den]
    · intro ms' w' hk'
      obtain ⟨S', hS', _⟩ := hs ms' w' hk'
      rcases hS' with ⟨hn, _⟩ | ⟨b', hb', pre', post', fr', he, hh', hl', hnc', hp', hf'⟩
      · cases hn
      · simp only [Option.some.injEq, Addr.mk.injEq] at he
        obtain ⟨rfl, rfl, _⟩ := he
        refine ⟨_, _, _, hh', fun m v hm => ?_⟩
        rw [← hc, List.getElem?_take] at hm
        split at hm
        · rw [List.getElem?_drop] at hm
          have hlt : z.toNat * j.size + m < cs.length := (List.getElem?_eq_some_iff.1 hm).1
          simp only [List.getElem?_toArray]
          rw [List.append_assoc, List.getElem?_append_right (by omega), List.getElem?_append_left (by omega)]
          rw [show pre'.length + z.toNat * j.size + m - pre'.length = z.toNat * j.size + m by omega]
          exact hm
        · cases hm
end
end Go.X

namespace Go.X
open Go
structure StopR (p : Prop) : Prop where mk ::
  get : p
/-- the walk stands still ahead of the region with this number -/
theorem r_stop (id : Nat) {c : Cx} {l : Array Oper} {d : Bool} {y : Code} {E : Env} {H : List Blk} {k : KC} (h : StopR (Run c (.seq (.region id l d) y) E H k)) : Run c (.seq (.region id l d) y) E H k := h.get
end Go.X

namespace Go.X
open Go
/-- E' as far as it goes, up to the blocks' indices -/
inductive SubD : Env → Env → Prop
  | nil {E : Env} : SubD [] E
  | cons {t : Nat} {s s' : SV} {I E : Env} (h : look t E = some s') (e : den s' = den s) (hr : SubD I E) : SubD ((t, s) :: I) E
theorem SubD.spec {I E : Env} (h : SubD I E) : ∀ t s, look t I = some s → ∃ s', look t E = some s' ∧ den s' = den s := by
  induction h with
  | nil => intro t s h; cases h
  | @cons t s s' I E h e hr ih =>
    intro t' s1 h1
    simp only [look] at h1
    cases hb : Nat.beq t t' with
    | true =>
      rw [hb] at h1
      simp only [cond_true, Option.some.injEq] at h1
      subst h1
      exact ⟨s', Nat.eq_of_beq_eq_true hb ▸ h, e⟩
    | false => rw [hb] at h1; exact ih t' s1 h1
theorem Has.subD {n ds E I a} (h : Has n ds E a) (hs : SubD I E) : Has n ds I a :=
  ⟨h.size, h.defers, fun t s hl => by obtain ⟨s', h1, h2⟩ := hs.spec t s hl; rw [← h2]; exact h.get t s' h1⟩
theorem IK.fap {c : Cx} {o : Oper} {E : Env} {k : SV → Prop} {t f : Nat} {x : Operand} (ho : o.op = .fieldAddr t x f) {b off : Nat} (hx : opd E x = some (.v (.pointer (some ⟨b, off, none⟩)))) (h : fieldF c t f (fun m => k (.v (.pointer (some ⟨b, off + m, none⟩))))) : IK c o E k := by
  obtain ⟨m, h1, h2⟩ := r_fieldAt2 c.ok h b off
  refine ⟨_, fun ms a ha w => ?_, h2⟩
  have e1 := ha.opd hx
  simp only [den] at e1
  simp [execOp, ho, e1, h1 w, den]
theorem PC.drop {c : Cx} {x : Blk} {H : List Blk} {b off : Nat} {cs : List SV} (h : PC c H b off cs) : PC c (x :: H) b off cs := fun ms w hk => h ms w (hk.hsub (HSub.drop (HSub.refl _)))
end Go.X

namespace Go.X
open Go
/-- a node of a region's orders: what is left to do, what is done, and what is known there -/
structure Node (α : Type) where
  fuel : Nat
  done : List Bool
  env : α → Env
  mem : α → List Blk
/-- what the rest of the orders comes to -/
def AnyR (c : Cx) (all : List Oper) (kc : KC) (n : Nat) (l : List Bool) (E : Env) (H : List Blk) : Prop := ∀ ms a w, Has c.n ms E a → Kn c.W c.S ms H w → wpAnyIn c.F 0 c.P .any all.toArray (QC c kc) n l.toArray a w
theorem AnyR.weaken {c : Cx} {all : List Oper} {kc : KC} {n : Nat} {l : List Bool} {E E' : Env} {H H' : List Blk} (h : AnyR c all kc n l E' H') (hE : SubD E' E) (hH : HSub H' H) : AnyR c all kc n l E H :=
  fun ms a w ha hk => h ms a w (ha.subD hE) (hk.hsub hH)
end Go.X

namespace Go.X
open Go
/-- what one operation of a region does by itself: its number, those that it waits for, its value, and the blocks that it makes -/
structure PN (β : Type) where
  i : Nat
  deps : List Nat
  use : Option Nat
  val : List β → β → SV
  mem : List β → β → List Blk
def mapZ {β : Type} (z : Nat → β) : List Nat → List β
  | [] => []
  | j :: js => z j :: mapZ z js
def PN.v {β : Type} (p : PN β) (z : Nat → β) : SV := p.val (mapZ z p.deps) (z p.i)
def PN.m {β : Type} (p : PN β) (z : Nat → β) : List Blk := p.mem (mapZ z p.deps) (z p.i)
end Go.X

namespace Go.X
open Go
section
variable {c : Cx} {H : List Blk} {E : Env} {nx : K1} {o : Oper}
theorem PC.sl {i e m : Nat} {b off n cap : Nat} {cs : List Value} {f : Blk → List Blk} (j : Nat) (hu : At H (.ext i (SlA e m (some ⟨b, off, none⟩) n cap cs)) f) {ecs : List SV} (hc : (cs.drop (j * m)).take m = denL ecs) : PC c H b (off + j * m) ecs := by
  intro ms' w' hk'
  obtain ⟨S', hS', _⟩ := (Sees.ext (c := c) hu) ms' w' hk'
  rcases hS' with ⟨hn, _⟩ | ⟨b', hb', pre', post', fr', he, hh', hl', hnc', hp', hf'⟩
  · cases hn
  · simp only [Option.some.injEq, Addr.mk.injEq, and_true] at he
    obtain ⟨rfl, rfl⟩ := he
    refine ⟨_, _, _, hh', fun q v hm => ?_⟩
    rw [← hc, List.getElem?_take] at hm
    split at hm
    · rw [List.getElem?_drop] at hm
      have hlt : j * m + q < cs.length := (List.getElem?_eq_some_iff.1 hm).1
      simp only [List.getElem?_toArray]
      rw [List.append_assoc, List.getElem?_append_right (by omega), List.getElem?_append_left (by omega)]
      rw [show pre'.length + j * m + q - pre'.length = j * m + q by omega]
      exact hm
    · cases hm
theorem PC.blk {i b t : Nat} {cs : List SV} {f : Blk → List Blk} (hu : At H (.blk i b cs t) f) : PC c H b 0 cs := by
  intro ms w hk
  obtain ⟨A, B, rfl, hf⟩ := hu.spec
  obtain ⟨T, hT, ho⟩ := Kn0.foot hk
  obtain ⟨TX, TY, h1, h2, h3, h4⟩ := hT.split _ _
  obtain ⟨TA, TB, g1, g2, g3, g4⟩ := h2.split A (.blk i b cs t :: B)
  cases g2 with
  | cons hx hb hH hd => exact ⟨_, _, _, hx.2, fun j v hj => by simpa using hj⟩
end
end Go.X

namespace Go.X
open Go
/-- a call that changes nothing, and returns some value that Q lets (it may speak of new memory that nobody looks at) -/
def PuE (P : Program) (f : FuncId) (args : Array Value) (w : World) (Q : Value → Prop) : Prop :=
  CT P f args w fun e w' => ∃ v, e = .returned v ∧ Q v ∧ Go.RowKit.Below w.heap.size w w'
theorem PuE.of {P : Program} {f : FuncId} {args : Array Value} {w : World} {Q : Value → Prop} {v : Value} (h : Pu P f args w v) (hv : Q v) : PuE P f args w Q :=
  CT.mono h fun _ _ ⟨h1, h2⟩ => ⟨v, h1, hv, h2⟩
theorem PuE.mono {P : Program} {f : FuncId} {args : Array Value} {w : World} {Q Q' : Value → Prop} (h : PuE P f args w Q) (hq : ∀ v, Q v → Q' v) : PuE P f args w Q' :=
  CT.mono h fun _ _ ⟨v, h1, h2, h3⟩ => ⟨v, h1, hq v h2, h3⟩
theorem CallK.puE {c : Cx} {g : FuncId} {l : List SV} {H : List Blk} {nx : K1} {Q : Value → Prop} (h : ∀ ms w, Kn c.W c.S ms H w → PuE c.P g (denL l).toArray w Q) (hn : ∀ v, Q v → nx (.v v) H) : CallK c g l H nx := by
  refine CallK.gen fun ms w hk => CT.mono (h ms w hk) ?_
  rintro e w' ⟨v, rfl, hv, hb⟩
  exact ⟨.v v, H, rfl, hk.below hb, hn v hv⟩
theorem FinK.puE {P : Program} {T : TR} {n : Nat} {W : World} {r : Option Nat} {hT : TOk P T} {Q : Value → Prop} {s : SV} {H : List Blk} (hs : Q (den s)) :
    FinK ⟨P, T, n, W, noS, r, hT⟩ (fun e w' => ∃ v, e = .returned v ∧ Q v ∧ Go.RowKit.Below W.heap.size W w') s H := by
  refine ⟨?_⟩
  intro w hk
  exact ⟨_, rfl, hs, hk.toBelow⟩
theorem PuE.ofFrZ {P : Program} {f : FuncId} {args : Array Value} {w : World} {Q : Value → Prop} (h : FrZ P f args w emp (fun v : {v // Q v} => v.1) (fun _ => emp)) : PuE P f args w Q := by
  refine (h noS (fun _ h => h) (fun _ h => h.elim)).mono ?_
  rintro e w' ⟨z, h1, h2, _⟩
  exact ⟨z.1, h1, z.2, h2.os, h2.tape, h2.output, h2.size, fun k hk => h2.old k hk id⟩
end Go.X

namespace Go.X
open Go
/-- cells that were there at a call's start and stay -/
def OldC (W : World) (b off : Nat) (cs : List SV) : Prop :=
  ∃ C t f, W.heap[b]? = some (.cells C t f) ∧ ∀ j v, (denL cs)[j]? = some v → C[off + j]? = some v
section
variable {c : Cx} {H : List Blk}
theorem OldC.pc {b off : Nat} {cs : List SV} (h : OldC c.W b off cs) (hb : ¬ c.S b) : PC c H b off cs := by
  intro ms w hk
  obtain ⟨C, t, f, h1, h2⟩ := h
  refine ⟨C, t, f, ?_, h2⟩
  rw [← h1]
  exact Kn0.old hk b (Array.getElem?_eq_some_iff.1 h1).1 hb
theorem PC.oldC {b off : Nat} {cs : List SV} {ms w} (h : PC c H b off cs) (hk : Kn c.W c.S ms H w) : OldC w b off cs := h ms w hk
end
end Go.X

namespace Go.X
open Go
section
variable {c : Cx} {o : Oper} {E : Env} {H : List Blk} {nx : K1}
/-- min of two numbers -/
theorem OpK.min {x y : Operand} {t t' : Nat} (ho : o.op = .call { callee := .builtin .min, args := #[x, y], argTypes := #[t, t'] }) {q : IntKind} {a b : Int} (hx : opd E x = some (.v (.int q a))) (hy : opd E y = some (.v (.int q b)))
    (h : nx (.v (.int q (if b < a then b else a))) H) : OpK c o E H nx := by
  have hnd : ∀ cl, o.op ≠ .defer cl := by rw [ho]; intro cl e; cases e
  refine OpK.val hnd _ (fun ms ac w ha hk => ?_) h
  have e1 := ha.opd hx
  have e2 := ha.opd hy
  simp only [den] at e1 e2
  simp [execOp, ho, resolve, invoke, builtin, e1, e2, den, Builtin.min_, Builtin.min2]
end
end Go.X

namespace Go.X
open Go
set_option linter.all false
/-- keys that are numbers: a map by what it holds -/
def Zok (z : Int) : Prop := 0 ≤ z ∧ z < 9223372036854775808
structure MRep (es : List MapEntry) (clk : Nat) (f : Int → Option Value) : Prop where
  sound : ∀ e ∈ es, ∃ z, e.key = .int .i64 z ∧ Zok z ∧ f z = some e.val
  full : ∀ z v, f z = some v → ∃ e ∈ es, e.key = .int .i64 z
  keys : (es.map (·.key)).Nodup
  borns : (es.map (·.born)).Nodup
  lt : ∀ e ∈ es, e.born < clk
theorem MRep.nil : MRep [] 0 fun _ => none := ⟨by simp, by simp, by simp, by simp, by simp⟩
theorem MRep.clear {es : List MapEntry} {clk : Nat} {f : Int → Option Value} (_ : MRep es clk f) : MRep [] clk fun _ => none := ⟨by simp, by simp, by simp, by simp, by simp⟩
theorem MRep.at {es : List MapEntry} {clk : Nat} {f : Int → Option Value} (h : MRep es clk f) {e : MapEntry} {z : Int} (he : e ∈ es) (hz : e.key = .int .i64 z) : Zok z ∧ f z = some e.val := by
  obtain ⟨z', h1, h2, h3⟩ := h.sound e he
  have : z' = z := by rw [hz] at h1; simpa using h1.symm
  subst this
  exact ⟨h2, h3⟩
theorem MRep.out {es : List MapEntry} {clk : Nat} {f : Int → Option Value} (h : MRep es clk f) {z : Int} (hn : ∀ e ∈ es, e.key ≠ .int .i64 z) : f z = none := by
  cases hf : f z with
  | none => rfl
  | some v => obtain ⟨e, h1, h2⟩ := h.full z v hf; exact absurd h2 (hn e h1)
theorem findNow_i64 {q : IntKind} {z : Int} : ∀ {es : List MapEntry} {i : Nat}, (∀ e ∈ es, ∃ z', e.key = .int .i64 z') →
    (∃ (n : Nat) (e : MapEntry), es[n]? = some e ∧ e.key = .int .i64 z ∧ Instr.findNow (.int q) (.int .i64 z) es i = some (some (i + n, e.val))) ∨ ((∀ e ∈ es, e.key ≠ .int .i64 z) ∧ Instr.findNow (.int q) (.int .i64 z) es i = some none)
  | [], i, _ => .inr ⟨by simp, rfl⟩
  | e :: es, i, h => by
    obtain ⟨z', hz⟩ := h e (by simp)
    by_cases hzz : z = z'
    · subst hzz
      exact .inl ⟨0, e, rfl, hz, by simp [Instr.findNow, Instr.sameNow, hz]⟩
    · have hb : (z == z') = false := by simpa using hzz
      have hs : Instr.sameNow (.int q) (.int .i64 z) e.key = some false := by simp [Instr.sameNow, hz, hzz]
      rcases findNow_i64 (q := q) (z := z) (es := es) (i := i + 1) (fun e he => h e (by simp [he])) with ⟨n, e', h1, h2, h3⟩ | ⟨h1, h2⟩
      · exact .inl ⟨n + 1, e', by simpa using h1, h2, by simp only [Instr.findNow, hs]; rw [h3]; simp only [Option.some.injEq, Prod.mk.injEq, and_true]; omega⟩
      · refine .inr ⟨fun e' he => ?_, by simp only [Instr.findNow, hs]; exact h2⟩
        simp only [List.mem_cons] at he
        rcases he with rfl | he
        · rw [hz]; simpa using fun e => hzz e.symm
        · exact h1 e' he
theorem MRep.find {es : List MapEntry} {clk : Nat} {f : Int → Option Value} (h : MRep es clk f) {q : IntKind} {P : Program} {kt : Nat} (ht : P.underlying kt = some (.int q)) (z : Int) (w : World) :
    (∃ (n : Nat) (e : MapEntry), es[n]? = some e ∧ e.key = .int .i64 z ∧ f z = some e.val ∧ (Instr.findKey kt (.int .i64 z) es).run P w = .ok (some (n, e.val)) w) ∨ ((∀ e ∈ es, e.key ≠ .int .i64 z) ∧ f z = none ∧ (Instr.findKey kt (.int .i64 z) es).run P w = .ok none w) := by
  rcases findNow_i64 (q := q) (z := z) (es := es) (i := 0) (fun e he => by obtain ⟨z', h1, _⟩ := h.sound e he; exact ⟨z', h1⟩) with ⟨n, e, h1, h2, h3⟩ | ⟨h1, h2⟩
  · refine .inl ⟨n, e, h1, h2, (h.at (List.mem_of_getElem? h1) h2).2, ?_⟩
    rw [Nat.zero_add] at h3
    simp [Instr.findKey, run_underlying ht, h3]
  · exact .inr ⟨h1, h.out h1, by simp [Instr.findKey, run_underlying ht, h2]⟩
def putK (f : Int → Option Value) (z : Int) (v : Value) : Int → Option Value := fun k => if k = z then some v else f k
theorem MRep.push {es : List MapEntry} {clk : Nat} {f : Int → Option Value} (h : MRep es clk f) {z : Int} (hz : Zok z) (hn : ∀ e ∈ es, e.key ≠ .int .i64 z) (v : Value) : MRep (es ++ [⟨.int .i64 z, v, clk⟩]) (clk + 1) (putK f z v) where
  sound := by
    intro e he
    simp only [List.mem_append, List.mem_singleton] at he
    rcases he with he | rfl
    · obtain ⟨z', h1, h2, h3⟩ := h.sound e he
      refine ⟨z', h1, h2, ?_⟩
      have : z' ≠ z := fun e' => hn e he (e' ▸ h1)
      simp [putK, this, h3]
    · exact ⟨z, rfl, hz, by simp [putK]⟩
  full := by
    intro z' v' hf
    by_cases e : z' = z
    · subst e; exact ⟨⟨.int .i64 z', v, clk⟩, by simp, rfl⟩
    · simp only [putK, e, if_false] at hf
      obtain ⟨x, h1, h2⟩ := h.full z' v' hf
      exact ⟨x, by simp [h1], h2⟩
  keys := by
    rw [List.map_append, List.nodup_append]
    refine ⟨h.keys, by simp, ?_⟩
    intro a ha b hb
    obtain ⟨e, h1, rfl⟩ := List.mem_map.1 ha
    have : b = .int .i64 z := by simpa using hb
    subst this
    exact hn e h1
  borns := by
    rw [List.map_append, List.nodup_append]
    refine ⟨h.borns, by simp, ?_⟩
    intro a ha b hb
    obtain ⟨e, h1, rfl⟩ := List.mem_map.1 ha
    have : b = clk := by simpa using hb
    have := h.lt e h1
    omega
  lt := by
    intro e he
    simp only [List.mem_append, List.mem_singleton] at he
    rcases he with he | rfl
    · have := h.lt e he; omega
    · exact Nat.lt_succ_self _
theorem nodup_key {es : List MapEntry} (h : (es.map (·.key)).Nodup) {n n' : Nat} {e e' : MapEntry} (h1 : es[n]? = some e) (h2 : es[n']? = some e') (hk : e.key = e'.key) : n = n' := by
  have g1 : (es.map (·.key))[n]? = some e.key := by simp [h1]
  have g2 : (es.map (·.key))[n']? = some e.key := by simp [h2, hk]
  obtain ⟨l1, g1⟩ := List.getElem?_eq_some_iff.1 g1
  obtain ⟨l2, g2⟩ := List.getElem?_eq_some_iff.1 g2
  exact (List.getElem_inj h).1 (g1.trans g2.symm)
theorem MRep.set {es : List MapEntry} {clk : Nat} {f : Int → Option Value} (h : MRep es clk f) {z : Int} {n : Nat} {e : MapEntry} (hn : es[n]? = some e) (hz : e.key = .int .i64 z) (v : Value) : MRep (es.set n { e with val := v }) clk (putK f z v) := by
  have hlt : n < es.length := (List.getElem?_eq_some_iff.1 hn).1
  have hmem : ∀ x ∈ es.set n { e with val := v }, (x = { e with val := v }) ∨ (x ∈ es ∧ x.key ≠ .int .i64 z) := by
    intro x hx
    obtain ⟨m, hm⟩ := List.mem_iff_getElem?.1 hx
    by_cases hmn : n = m
    · subst hmn
      rw [List.getElem?_set_self hlt] at hm
      exact .inl (by simpa using hm.symm)
    · rw [List.getElem?_set_ne hmn] at hm
      exact .inr ⟨List.mem_of_getElem? hm, fun hk => hmn (nodup_key h.keys hn hm (hz.trans hk.symm))⟩
  have hkeys : (es.set n { e with val := v }).map (·.key) = es.map (·.key) := by
    apply List.ext_getElem?
    intro m
    by_cases hmn : n = m
    · subst hmn; simp [hlt, hn]; 
      have := List.getElem?_eq_some_iff.1 hn
      simp [this.2]
    · simp [List.getElem?_set_ne hmn]
  have hborns : (es.set n { e with val := v }).map (·.born) = es.map (·.born) := by
    apply List.ext_getElem?
    intro m
    by_cases hmn : n = m
    · subst hmn; simp [hlt, hn]
      have := List.getElem?_eq_some_iff.1 hn
      simp [this.2]
    · simp [List.getElem?_set_ne hmn]
  refine ⟨?_, ?_, by rw [hkeys]; exact h.keys, by rw [hborns]; exact h.borns, ?_⟩
  · intro x hx
    rcases hmem x hx with rfl | ⟨h1, h2⟩
    · exact ⟨z, hz, (h.at (List.mem_of_getElem? hn) hz).1, by simp [putK]⟩
    · obtain ⟨z', g1, g2, g3⟩ := h.sound x h1
      refine ⟨z', g1, g2, ?_⟩
      have : z' ≠ z := fun e' => h2 (e' ▸ g1)
      simp [putK, this, g3]
  · intro z' v' hf
    have : (∃ x ∈ es, x.key = .int .i64 z') := by
      by_cases e1 : z' = z
      · subst e1; exact ⟨e, List.mem_of_getElem? hn, hz⟩
      · simp only [putK, e1, if_false] at hf; exact h.full z' v' hf
    obtain ⟨x, h1, h2⟩ := this
    have h3 : Value.int .i64 z' ∈ (es.set n { e with val := v }).map (·.key) := by rw [hkeys]; exact List.mem_map.2 ⟨x, h1, h2⟩
    obtain ⟨y, h4, h5⟩ := List.mem_map.1 h3
    exact ⟨y, h4, h5⟩
  · intro x hx
    rcases hmem x hx with rfl | ⟨h1, h2⟩
    · exact h.lt e (List.mem_of_getElem? hn)
    · exact h.lt x h1
/-- a map, by what it holds -/
def MpK (m : Nat) (f : Int → Option Value) : Ass := ⟨fun w S => ∃ es clk, MRep es clk f ∧ S m ∧ w.heap[m]? = some (.map es.toArray clk), fun _ _ _ h ⟨es, clk, h1, h2, h3⟩ => ⟨es, clk, h1, h2, by rw [h m h2]; exact h3⟩⟩
theorem Kn.getK {W S ms H w} {i m : Nat} {f : Int → Option Value} {fn : Blk → List Blk} (hu : At H (.ext i (MpK m f)) fn) (h : Kn W S ms H w) : ∃ es clk, MRep es clk f ∧ w.heap[m]? = some (.map es.toArray clk) := by
  obtain ⟨T, ⟨es, clk, h1, _, h3⟩, _⟩ := h.upd1 hu
  exact ⟨es, clk, h1, h3⟩
theorem Kn.setK {W S ms H w} {i m : Nat} {f : Int → Option Value} {fn : Blk → List Blk} (hu : At H (.ext i (MpK m f)) fn) (h : Kn W S ms H w) :
    ∃ es clk, MRep es clk f ∧ w.heap[m]? = some (.map es.toArray clk) ∧ ∀ es' clk' f', MRep es' clk' f' → Kn W S ms (fn (.ext i (MpK m f'))) { w with heap := w.heap.setIfInBounds m (.map es'.toArray clk') } := by
  obtain ⟨T, ⟨es, clk, g1, g2, g3⟩, h4, h5, h6⟩ := h.upd1 hu
  have hlt := h4 m g2
  refine ⟨es, clk, g1, g3, fun es' clk' f' hr => ?_⟩
  refine h6 (.ext i (MpK m f')) _ ⟨⟨rfl, rfl, rfl, by simp, fun k hk hn => ?_⟩, fun k => k = m, ⟨es', clk', hr, rfl, by simp [hlt]⟩, fun k hk => by subst hk; exact ⟨by simpa using hlt, .inl g2⟩⟩
  have : m ≠ k := fun e => hn (e ▸ g2)
  simp [this]
theorem MpA.toK {m clk : Nat} {es : List MapEntry} {f : Int → Option Value} (h : MRep es clk f) {w : World} {S : Nat → Prop} (hx : (MpA m es clk).holds w S) : (MpK m f).holds w S := ⟨es, clk, h, hx.1, hx.2⟩
section
variable {c : Cx} {o : Oper} {E : Env} {H : List Blk} {nx : K1}
theorem OpK.mkMK {t : Nat} (ho : o.op = .makeMap t none) (h : nextF H fun i => ∀ m, nx (.v (.map (some m))) (.ext i (MpK m fun _ => none) :: H)) : OpK c o E H nx := by
  have hnd : ∀ cl, o.op ≠ .defer cl := by rw [ho]; intro cl e; cases e
  obtain ⟨i, h⟩ := nextF_spec h
  refine OpK.run hnd fun ms ac w ha hk => ⟨.v (.map (some w.heap.size)), _, _, ?_, (hk.allocO i (.map #[] 0)).hsub (HSub.ext (fun w S hx => MpA.toK (es := []) MRep.nil hx) (HSub.refl _)), h w.heap.size⟩
  simp [execOp, ho, Instr.makeMap, den]
theorem OpK.upK {t kt et : Nat} {x ix y : Operand} {ti tk : TI} {q : IntKind} {m i : Nat} {z : Int} {s : SV} {f : Int → Option Value} {fn : Blk → List Blk} (ho : o.op = .mapUpdate t x ix y) (hx : opd E x = some (.v (.map (some m)))) (hi : opd E ix = some (.v (.int .i64 z))) (hy : opd E y = some s)
    (hti : c.T.get t = some ti) (hd : ti.desc = .map kt et) (htk : c.T.get kt = some tk) (hdk : tk.desc = .int q) (hu : At H (.ext i (MpK m f)) fn) (hz : Zok z)
    (h : nx (.v undef) (fn (.ext i (MpK m (putK f z (den s)))))) : OpK c o E H nx := by
  have hnd : ∀ cl, o.op ≠ .defer cl := by rw [ho]; intro cl e; cases e
  refine ⟨?_⟩
  intro ms a w ha hk Q
  have h1 := (c.ok t ti hti).1
  rw [hd] at h1
  have h2 := (c.ok kt tk htk).1
  rw [hdk] at h2
  have e1 := ha.opd hx
  have e2 := ha.opd hi
  have e3 := ha.opd hy
  simp only [den] at e1 e2
  obtain ⟨es, clk, hr, hb, hset⟩ := hk.setK hu
  have hg := getObj_ran (P := c.P) hb (by intro _ _ _ e; cases e)
  rcases hr.find (P := c.P) h2 z w with ⟨n, e, g1, g2, g3, g4⟩ | ⟨g1, g2, g3⟩
  · obtain ⟨ek, ev, eb⟩ := e
    simp only at g2
    subst g2
    have hk' := hset _ _ _ (hr.set g1 rfl (den s))
    have hs := setObj_run (P := c.P) (o' := .map (es.set n ⟨.int .i64 z, den s, eb⟩).toArray clk) hb (by intro _ _ _ e; cases e)
    have hst : Instr.keyThatStays (.int .i64 z) (.int .i64 z) = pure (.int .i64 z) := by simp [Instr.keyThatStays, Instr.sameBits]
    have hlt : n < es.length := (List.getElem?_eq_some_iff.1 g1).1
    have hm : (es.modify n fun e => { key := .int .i64 z, val := den s, born := e.born }) = es.set n ⟨.int .i64 z, den s, eb⟩ := by
      apply List.ext_getElem?
      intro k
      rw [List.getElem?_modify, List.getElem?_set]
      by_cases hnk : n = k
      · subst hnk
        have := (List.getElem?_eq_some_iff.1 g1).2
        simp [g1, hlt, this]
      · simp [hnk]
    exact wpIn_of_skip hnd (w' := { w with heap := w.heap.setIfInBounds m (.map (es.set n ⟨.int .i64 z, den s, eb⟩).toArray clk) }) (by simp [execOp, ho, e1, e2, e3, Instr.mapUpdate, run_underlying h1, hg, run_checkKey _ h2, g4, g1, hst, hm, hs]) ⟨.v undef, _, rfl, hk', h⟩
  · have hk' := hset _ _ _ (hr.push hz g1 (den s))
    have hs := setObj_run (P := c.P) (o' := .map (es ++ [(⟨.int .i64 z, den s, clk⟩ : MapEntry)]).toArray (clk + 1)) hb (by intro _ _ _ e; cases e)
    exact wpIn_of_skip hnd (w' := { w with heap := w.heap.setIfInBounds m (.map (es ++ [(⟨.int .i64 z, den s, clk⟩ : MapEntry)]).toArray (clk + 1)) }) (by simp [execOp, ho, e1, e2, e3, Instr.mapUpdate, run_underlying h1, hg, run_checkKey _ h2, g3, hs]) ⟨.v undef, _, rfl, hk', h⟩
theorem OpK.clK {t kt et : Nat} {x : Operand} {ti : TI} {m i : Nat} {f : Int → Option Value} {fn : Blk → List Blk} (ho : o.op = .call { callee := .builtin .clear, args := #[x], argTypes := #[t] }) (hx : opd E x = some (.v (.map (some m))))
    (hti : c.T.get t = some ti) (hd : ti.desc = .map kt et) (hu : At H (.ext i (MpK m f)) fn)
    (h : nx (.tup []) (fn (.ext i (MpK m fun _ => none)))) : OpK c o E H nx := by
  have hnd : ∀ cl, o.op ≠ .defer cl := by rw [ho]; intro cl e; cases e
  refine OpK.run hnd fun ms a w ha hk => ?_
  have h1 := (c.ok t ti hti).1
  rw [hd] at h1
  have e1 := ha.opd hx
  simp only [den] at e1
  obtain ⟨es, clk, hr, hb, hset⟩ := hk.setK hu
  have hg := getObj_ran (P := c.P) hb (by intro _ _ _ e; cases e)
  have hk' := hset _ _ _ hr.clear
  have hs := setObj_run (P := c.P) (o' := .map #[] clk) hb (by intro _ _ _ e; cases e)
  exact ⟨_, _, _, by simp [execOp, ho, resolve, invoke, builtin, e1, Builtin.clear_, run_underlying h1, hg, hs, den, denL], hk', h⟩
end
end Go.X

set_option linter.all false
namespace Go.X
open Go Go.RowKit Go.Maps Go.Sort Go.Shelf Go.Proofs Go.WideElems Go.WideShapes
def RV (v : Value) : Option (DataW Value × List MemPlace) := some (.held v, [])
theorem wf_i64 {z : Int} (h : Zok z) : (Lit.int .i64 z).wf = true := by
  have h2 : IntKind.i64.min = -9223372036854775808 := by decide
  have h3 : IntKind.i64.max = 9223372036854775807 := by decide
  obtain ⟨h0, h1⟩ := h
  simp only [Lit.wf, h2, h3, Bool.and_eq_true, decide_eq_true_eq]
  omega
section
variable {P : Program} {k : TypeId}
theorem rd_RV (hk : P.underlying k = some (.int .i64)) {z : Int} (h : Zok z) (v : Value) (b : Nat) : rd P k RV ⟨.int .i64 z, v, b⟩ = some (.int .i64 z, .held v) := by
  refine rd_mk (yv := (.held v, [])) ?_ rfl
  simp [keyOf, hk, mapKey, wf_i64 h]
theorem MRep.rd {es : List MapEntry} {clk : Nat} {f : Int → Option Value} (h : MRep es clk f) (hk : P.underlying k = some (.int .i64)) {e : MapEntry} (he : e ∈ es) : ∃ z, e.key = .int .i64 z ∧ Zok z ∧ f z = some e.val ∧ rd P k RV e = some (.int .i64 z, .held e.val) := by
  obtain ⟨z, h1, h2, h3⟩ := h.sound e he
  obtain ⟨ek, ev, eb⟩ := e
  simp only at h1
  subst h1
  exact ⟨z, rfl, h2, h3, rd_RV hk h2 ev eb⟩
def MpD (P : Program) (k : TypeId) (es : List MapEntry) : List (Lit × DataW Value) := (es.map (rg P k RV)).foldr DataW.insert []
theorem MRep.owns {es : List MapEntry} {clk : Nat} {f : Int → Option Value} (h : MRep es clk f) (hk : P.underlying k = some (.int .i64)) {w : World} {m : Nat} (hm : w.heap[m]? = some (.map es.toArray clk)) (hl : es.length ≤ 1000000) :
    w.ownsMap P k RV m es.length (.map (MpD P k es)) := by
  have hml : (1000000 : Nat) ≤ maxLen := by decide
  refine ⟨es.toArray, clk, hm, ⟨by simpa using Nat.le_trans hl hml, ⟨by simpa using h.lt, by simpa using h.borns, ?_⟩, fun x hx => ?_⟩, by simp, by simp [MpD]⟩
  · show (es.toArray.toList.map (·.key)).Nodup
    simpa using h.keys
  · obtain ⟨z, _, _, _, h4⟩ := h.rd hk (e := x) (by simpa using hx)
    exact ⟨_, h4⟩
/-- the keys, ascending -/
def KeysOf (f : Int → Option Value) (ks : List Int) : Prop := ks.Pairwise (· < ·) ∧ (∀ z, z ∈ ks ↔ (f z).isSome = true) ∧ ks.length ≤ 1000000
theorem KeysOf.nodup {f : Int → Option Value} {ks : List Int} (h : KeysOf f ks) : ks.Nodup := h.1.imp fun h => by omega
theorem MRep.perm {es : List MapEntry} {clk : Nat} {f : Int → Option Value} (h : MRep es clk f) {ks : List Int} (hks : KeysOf f ks) : ∃ zs : List Int, es.map (·.key) = zs.map (Value.int .i64) ∧ zs.Perm ks := by
  have : ∀ l : List MapEntry, (∀ e ∈ l, ∃ z, e.key = .int .i64 z) → ∃ zs : List Int, l.map (·.key) = zs.map (Value.int .i64) := by
    intro l
    induction l with
    | nil => exact fun _ => ⟨[], rfl⟩
    | cons e l ih =>
      intro hl
      obtain ⟨z, hz⟩ := hl e (by simp)
      obtain ⟨zs, hzs⟩ := ih fun e he => hl e (by simp [he])
      exact ⟨z :: zs, by simp [hz, hzs]⟩
  obtain ⟨zs, hzs⟩ := this es fun e he => by obtain ⟨z, h1, _⟩ := h.sound e he; exact ⟨z, h1⟩
  refine ⟨zs, hzs, ?_⟩
  have hnd : zs.Nodup := by
    have := h.keys
    rw [hzs] at this
    exact (List.pairwise_map.1 this).imp fun h e => h (by rw [e])
  refine (List.perm_ext_iff_of_nodup hnd hks.nodup).2 fun z => ?_
  rw [hks.2.1 z]
  constructor
  · intro hz
    have : Value.int .i64 z ∈ es.map (·.key) := by rw [hzs]; exact List.mem_map.2 ⟨z, hz, rfl⟩
    obtain ⟨e, he, hk⟩ := List.mem_map.1 this
    rw [(h.at he hk).2]; rfl
  · intro hz
    obtain ⟨v, hv⟩ := Option.isSome_iff_exists.1 hz
    obtain ⟨e, he, hk⟩ := h.full z v hv
    have : Value.int .i64 z ∈ zs.map (Value.int .i64) := by rw [← hzs]; exact List.mem_map.2 ⟨e, he, hk⟩
    obtain ⟨z', h1, h2⟩ := List.mem_map.1 this
    have : z' = z := by simpa using h2
    exact this ▸ h1
theorem sort_perm {zs ks : List Int} (h : zs.Perm ks) (hk : ks.Pairwise (· < ·)) : zs.mergeSort (fun x y => decide (x ≤ y)) = ks := by
  refine ((List.mergeSort_perm zs _).trans h).eq_of_pairwise (le := fun x y => decide (x ≤ y) = true) ?_ ?_ ?_
  · intro a b _ _ h1 h2; have h1 := of_decide_eq_true h1; have h2 := of_decide_eq_true h2; omega
  · exact List.pairwise_mergeSort (fun a b c h1 h2 => by simp at h1 h2 ⊢; omega) (fun a b => by simp; omega) zs
  · exact hk.imp fun h => decide_eq_true (by omega)
end
section
variable {P : Program}
/-- the keys of a map, sorted: what the call gives -/
def KeysOk (P : Program) (f g t : Nat) : Prop :=
  ∀ (w : World) (bx m : Nat) (C : Array Value) (tb : Nat) (fr : Nat × Nat) (es : List MapEntry) (clk : Nat) (fn : Int → Option Value) (ks : List Int), w.heap[bx]? = some (.cells C tb fr) → C[0]? = some (.map (some m)) →
    w.heap[m]? = some (.map es.toArray clk) → MRep es clk fn → KeysOf fn ks →
    FrZ P f #[.func (.func g) #[] #[.pointer (some ⟨bx, 0, none⟩)]] w emp (fun z : Option Addr × Nat => .slice z.1 ks.length z.2) (fun z => SlA t 1 z.1 ks.length z.2 (ks.map (Value.int .i64)))
theorem keysOk_of {P : Program} {ρk ρs : Ren} (Lk : SlLaysZI.n10 P ρk) (Ls : SlLaysZI.n6 P ρs) (hsort : ∀ m, AnyZI.SortsIn P ρs Fence.wide m) (e9 : ∀ args w, (callFunc (ρs.f 9) args).run P w = .ok (.enter (ρs.f 9) args) w)
    (eg : ∀ args w, (callFunc (ρk.f 10) args).run P w = .ok (.enter (ρk.f 10) args) w) (hb : Bodied P (ρs.f 6)) (hkt : P.underlying (ρk.t 26) = some (.int .i64)) : KeysOk P (ρs.f 6) (ρk.f 10) (ρs.t 26) := by
  intro w bb m C tb fr es clk fn ks hbb hC hm hr hks S hS _
  unfold CT
  refine ⟨hb, ?_⟩
  obtain ⟨zs, hzs, hperm⟩ := hr.perm hks
  have hlen : es.length = ks.length := by
    rw [← hperm.length_eq]; simpa using congrArg List.length hzs
  have hl : es.length ≤ 1000000 := by rw [hlen]; exact hks.2.2
  have hml : (1000000 : Nat) ≤ maxLen := by decide
  have hown := hr.owns hkt hm hl
  have hD : (intKeys (.map (MpD P (ρk.t 26) es))).Perm zs := by
    show ((MpD P (ρk.t 26) es).map fun p => intOf p.1).Perm zs
    refine ((sorted_perm _).map _).trans ?_
    have : ∀ (l : List MapEntry) (zs : List Int), (∀ e ∈ l, e ∈ es) → l.map (·.key) = zs.map (Value.int .i64) → (l.map (rg P (ρk.t 26) RV)).map (fun p => intOf p.1) = zs := by
      intro l
      induction l with
      | nil => intro zs _ h; cases zs with | nil => rfl | cons z zs => simp at h
      | cons x l ih =>
        intro zs hx h
        cases zs with
        | nil => simp at h
        | cons z zs =>
          simp only [List.map_cons, List.cons.injEq] at h
          obtain ⟨z', h1, _, _, h4⟩ := hr.rd hkt (hx x (by simp))
          have : z' = z := by rw [h.1] at h1; simpa using h1.symm
          subst this
          simp only [List.map_cons, rg_of h4]
          rw [ih zs (fun e he => hx e (by simp [he])) h.2]
          rfl
    rw [this es zs (fun _ h => h) hzs]
  have hsize : Maps.size (.map (MpD P (ρk.t 26) es)) = ks.length := by
    show (MpD P (ρk.t 26) es).length = _
    unfold MpD
    rw [(sorted_perm _).length_eq, List.length_map, hlen]
  have hbl : bb < w.heap.size := (Array.getElem?_eq_some_iff.1 hbb).1
  have hcell : w.cell? ⟨bb, 0, none⟩ = some (.map (some m)) := by simp [World.cell?, hbb, hC]
  have h6 := hks.2.2
  have hseq := AnyZI.keys_gives Lk Fence.wide 2 trivial rfl (by omega) bb m es.length _ w hbl hcell hown
  have cS := AnyZI.sorted_in Ls Fence.wide 5 trivial trivial trivial trivial rfl (by omega) (hsort _) e9 (ρk.f 10) #[.pointer (some ⟨bb, 0, none⟩)] trivial eg _ (Maps.size (.map (MpD P (ρk.t 26) es))) (by rw [hsize]; omega) (by rw [hsize]; omega) w hseq
  refine (callsIn_wide.1 cS).mono ?_
  rintro e w' ⟨v, ss, rfl, hp, hrow, hnil, hB⟩
  have hp2 : ss.Perm ks := (hp.trans hD).trans hperm
  have hms : ss.mergeSort (fun x y => decide (x ≤ y)) = ks := sort_perm hp2 hks.1
  have heff : Eff S w w' := ⟨hB.os, hB.tape, hB.output, hB.size, fun k hk _ => hB.block k hk⟩
  rcases hrow.2 with ⟨rfl, hz⟩ | ⟨g, cap, cur, rfl, hge, hg, h1, h2, h3, h4⟩
  · have : ks = [] := List.eq_nil_of_length_eq_zero (by rw [← hp2.length_eq]; exact hz)
    subst this
    exact ⟨(none, 0), rfl, heff, fun _ => False, .inl ⟨rfl, rfl, rfl, rfl⟩, fun _ h => h.elim⟩
  · have hl := hp2.length_eq
    rw [hl] at h1 h4 ⊢
    have hcur : cur = ((ks.map (Value.int .i64)) ++ cur.toList.drop ks.length).toArray := by
      apply Array.ext'
      simp only
      rw [hms] at h4
      have h4' : cur.toList.take ks.length = ks.map (Value.int .i64) := by
        rw [Nat.mul_one] at h4
        exact h4
      rw [← h4', List.take_append_drop]
    refine ⟨(some ⟨g, 0, none⟩, cap), rfl, heff, fun k => k = g, .inr ⟨g, rfl, [], cur.toList.drop ks.length, (0, 0), rfl, ?_, ?_, h1, ?_, ?_⟩, ?_⟩
    · rw [hg, List.nil_append]
      congr 2
    · rw [List.length_map, Nat.mul_one]
    · have : cur.toList.length = cap := by simp [h3]
      rw [List.length_drop, this]
      simp
    · simp
    · rintro k rfl
      exact ⟨(Array.getElem?_eq_some_iff.1 hg).1, .inr hge⟩
/-- the entries that a function lets stay -/
def keepK (p : Int → Bool) (f : Int → Option Value) : Int → Option Value := fun z => if p z then f z else none
end
end Go.X

set_option linter.all false
namespace Go.X
open Go Go.RowKit Go.Maps Go.Sort Go.Shelf Go.Proofs
section
variable {α : Type} {enc : α → List Value} {k : Nat}
theorem flat_length (hk : ∀ x, (enc x).length = k) : ∀ l : List α, (l.flatMap enc).length = l.length * k
  | [] => by simp
  | x :: l => by simp [List.flatMap_cons, flat_length hk l, hk, Nat.add_mul, Nat.add_comm]
theorem flat_get (hk : ∀ x, (enc x).length = k) (h0 : 0 < k) : ∀ (l : List α) (t : Nat), (l.flatMap enc)[t]? = (l[t / k]?).bind fun x => (enc x)[t % k]?
  | [], t => by simp
  | x :: l, t => by
    rw [List.flatMap_cons]
    by_cases h : t < k
    · rw [List.getElem?_append_left (by rw [hk]; exact h), Nat.div_eq_of_lt h, Nat.mod_eq_of_lt h]
      simp
    · rw [List.getElem?_append_right (by rw [hk]; omega), hk, flat_get hk h0 l]
      have e1 : t / k = (t - k) / k + 1 := by
        rw [show t = (t - k) + k by omega, Nat.add_div_right _ h0]; simp
      have e2 : t % k = (t - k) % k := by
        conv => lhs; rw [show t = (t - k) + k by omega, Nat.add_mod_right]
      rw [e1, e2]
      simp
variable [Inhabited α]
theorem flatK_list (hk : ∀ x, (enc x).length = k) (h0 : 0 < k) (d : Array α) : (flatK enc k d).toList = d.toList.flatMap enc := by
  apply List.ext_getElem?
  intro t
  rw [flat_get hk h0, Array.getElem?_toList]
  by_cases h : t < d.size * k
  · have h1 : t / k < d.size := Nat.div_lt_of_lt_mul (by rwa [Nat.mul_comm] at h)
    have h2 : t % k < k := Nat.mod_lt _ h0
    rw [Array.getElem?_eq_getElem (by simpa using h), ← getElem!_pos _ t (by simpa using h), get_flatK _ _ _ _ h, Array.getElem?_toList, Array.getElem?_eq_getElem h1, Option.bind_some, ← getElem!_pos d _ h1]
    rw [List.getElem?_eq_getElem (by rw [hk]; exact h2), getElem!_pos _ _ (by rw [hk]; exact h2)]
  · rw [Array.getElem?_eq_none (by simpa using h)]
    have : d.toList[t / k]? = none := by
      rw [List.getElem?_eq_none]
      rw [Array.length_toList]
      exact (Nat.le_div_iff_mul_le h0).2 (by omega)
    rw [this]; rfl
theorem putCells_mid (pre cs post : List Value) (F : Array Value) (h : cs.length = F.size) : putCells id pre.length F (pre ++ cs ++ post).toArray = (pre ++ F.toList ++ post).toArray := by
  apply Array.ext_getElem?
  intro i
  unfold putCells
  rw [Array.getElem?_mapIdx]
  simp only [List.getElem?_toArray]
  by_cases h1 : i < pre.length
  · rw [List.append_assoc, List.append_assoc, List.getElem?_append_left h1, List.getElem?_append_left h1, List.getElem?_eq_getElem h1]
    simp only [Option.map_some]
    rw [if_neg (by omega)]
  · by_cases h2 : i < pre.length + F.size
    · have e1 : (pre ++ cs ++ post)[i]? = some cs[i - pre.length] := by
        rw [List.append_assoc, List.getElem?_append_right (by omega), List.getElem?_append_left (by omega), List.getElem?_eq_getElem (by omega)]
      have e2 : (pre ++ F.toList ++ post)[i]? = some F[i - pre.length]! := by
        rw [List.append_assoc, List.getElem?_append_right (by omega), List.getElem?_append_left (by simp; omega), Array.getElem?_toList, Array.getElem?_eq_getElem (by omega), ← getElem!_pos F _ (by omega)]
      rw [e1, e2]
      simp only [Option.map_some]
      rw [if_pos ⟨by omega, by omega⟩]
      rfl
    · rw [List.getElem?_append_right (by simp; omega), List.getElem?_append_right (by simp; omega)]
      simp only [List.length_append, Array.length_toList, h]
      cases hp : post[i - (pre.length + F.size)]? with
      | none => rfl
      | some v =>
        simp only [Option.map_some]
        rw [if_neg (by omega)]
theorem sortK_heap {w : World} {b : Nat} {pre post : List Value} {e : TypeId} {fr : Nat × Nat} {d d' : Array α} (hk : ∀ x, (enc x).length = k) (h0 : 0 < k) (hs : d'.size = d.size) (n : Nat) (os : Array Obj)
    (hb : w.heap[b]? = some (.cells (pre ++ d.toList.flatMap enc ++ post).toArray e fr)) : (sortWorldK enc k w b pre.length n d' os).heap[b]? = some (.cells (pre ++ d'.toList.flatMap enc ++ post).toArray e fr) := by
  have hlt : b < w.heap.size := (Array.getElem?_eq_some_iff.1 hb).1
  show ((w.heap.modify b (onCells (putCells id pre.length (flatK enc k d')))) ++ os)[b]? = _
  rw [Array.getElem?_append_left (by simpa using hlt), Array.getElem?_modify, if_pos rfl, hb]
  simp only [Option.map_some, onCells]
  rw [putCells_mid _ _ _ _ (by rw [flat_length hk, size_flatK, hs, Array.length_toList]), flatK_list hk h0]
theorem sortK_old {w : World} {b off n : Nat} {d' : Array α} {os : Array Obj} {j : Nat} (hj : j < w.heap.size) (hn : b ≠ j) : (sortWorldK enc k w b off n d' os).heap[j]? = w.heap[j]? := by
  show ((w.heap.modify b (onCells (putCells id off (flatK enc k d')))) ++ os)[j]? = _
  rw [Array.getElem?_append_left (by simpa using hj), Array.getElem?_modify, if_neg hn]
/-- slices.SortFunc of parts of k cells -/
theorem sortOk_of {P : Program} {ρ : Ren} (L : SlLaysF0.n6 P ρ) (hb : Bodied P (ρ.f 6)) (aE : ∀ w, (isAgg (ρ.t 24)).run P w = .ok true w) (zE : ∀ w, (Go.sizeOf (ρ.t 24)).run P w = .ok k w) (hk : ∀ x, (enc x).length = k) (h0 : 1 < k) (h1 : ∀ x, ∀ v ∈ enc x, v.oneCell' = true) (cf : α → α → Int) (hO : SWO (ltOf cf)) (g : Nat) (cb : Array Value)
    (eg : ∀ args w, (callFunc g args).run P w = .ok (.enter g args) w) (hcmp : ∀ x y W, Calls P g (#[.agg (enc x).toArray, .agg (enc y).toArray] ++ cb) W fun e w' => e = .returned (.int .i64 (cf x y)) ∧ ∃ q os', w' = grow (W.drewN q) os')
    {T cap : Nat} {a : Option Addr} (l : List α) (hsz : l.length ≤ 1000000) (w : World) :
    FrZ P (ρ.f 6) #[.slice a l.length cap, .func (.func g) #[] cb] w (SlA T k a l.length cap (l.flatMap enc)) (fun _ : {l' : List α // l'.Perm l ∧ l'.Pairwise fun x y => ltOf cf y x = false} => .tuple #[]) (fun l' => SlA T k a l.length cap (l'.1.flatMap enc)) := by
  intro S hS hlt
  unfold CT
  refine ⟨hb, ?_⟩
  rcases hS with ⟨rfl, hl, rfl, _⟩ | ⟨b, hSb, pre, post, fr, rfl, hbl, hlen, hcap, hpost, hfr⟩
  · have : l = [] := List.eq_nil_of_length_eq_zero hl
    subst this
    refine (AnyF.slices_SortFunc_none { L with } none 0 (.func (.func g) #[] cb) w).mono ?_
    rintro e w' ⟨rfl, rfl⟩
    exact ⟨⟨[], .refl _, .nil⟩, rfl, ⟨rfl, rfl, rfl, Nat.le_refl _, fun _ _ _ => rfl⟩, fun _ => False, .inl ⟨rfl, rfl, rfl, rfl⟩, fun _ h => h.elim⟩
  · have hblt := hlt b hSb
    have hH : HoldsK enc k w b pre.length l.toArray := by
      intro j hj
      have hj' : j < l.length * k := by simpa using hj
      have hfl := flat_length hk l
      have hget : (pre ++ l.flatMap enc ++ post)[pre.length + j]? = some (flatK enc k l.toArray)[j]! := by
        rw [List.append_assoc, List.getElem?_append_right (by omega), List.getElem?_append_left (by omega), Nat.add_sub_cancel_left, show l.flatMap enc = l.toArray.toList.flatMap enc from by simp, ← flatK_list hk (by omega), Array.getElem?_toList, Array.getElem?_eq_getElem (by simpa using hj'), ← getElem!_pos _ j (by simpa using hj')]
      constructor
      · simp only [World.cell?, hbl, id]
        simpa using hget
      · have : fr.1 = fr.2 := by
          rcases Nat.decEq fr.1 fr.2 with h | h
          · exact absurd (hfr h).1 (by omega)
          · exact h
        simp only [World.frozen?, hbl]
        simp
        omega
    have hc : ({ L with } : SlLaysF0.n6 P ρ) = L := rfl
    have hs := AnyQ.slices_SortFunc L k aE zE enc hk h1 cf hO g cb b pre.length cap l.toArray w eg (fun m os dk _ x y => hcmp x y _) hH hblt (by simp; omega)
    have e1 : l.toArray.size = l.length := by simp
    rw [e1] at hs
    refine hs.mono ?_
    rintro e w' ⟨rfl, d', n, os, hp, hso, rfl⟩
    have hds : d'.size = l.length := by rw [hp.1]; simp
    have hperm : d'.toList.Perm l := by
      have := hp.2.2
      rw [← hds, Array.extract_size] at this
      rw [hds, ← e1, Array.extract_size] at this
      simpa using this
    refine ⟨⟨d'.toList, hperm, ?_⟩, rfl, ⟨rfl, rfl, rfl, ?_, fun j hj hn => ?_⟩, S, ?_, fun j hj => ⟨?_, .inl hj⟩⟩
    · refine List.pairwise_iff_getElem.2 fun i j hi hj hij => ?_
      have h2 := hso i j (Nat.zero_le _) hij (by rw [Array.length_toList] at hj; omega)
      rw [Array.length_toList] at hi hj
      rw [getElem!_pos d' j (by omega), getElem!_pos d' i (by omega)] at h2
      simpa using h2
    · show w.heap.size ≤ ((w.heap.modify b _) ++ os).size
      simp
    · exact sortK_old hj fun e => hn (e ▸ hSb)
    · refine .inr ⟨b, hSb, pre, post, fr, rfl, ?_, by rw [flat_length hk, Array.length_toList, hds], hcap, hpost, ?_⟩
      · exact sortK_heap (d := l.toArray) hk (by omega) (by simpa using hds) n os (by simpa using hbl)
      · exact fun h => absurd (hfr h).1 (by omega)
    · show j < ((w.heap.modify b _) ++ os).size
      have := hlt j hj
      simp; omega
end
end Go.X

set_option linter.all false
namespace Go.X
open Go Go.Sort
/-- a world that has come of another by draws and by new blocks alone -/
def Gr (W w : World) : Prop := ∃ q os', w = grow (W.drewN q) os'
theorem Gr.refl (W : World) : Gr W W := ⟨0, #[], by simp [World.drewN]⟩
theorem Gr.alloc {W w : World} (h : Gr W w) (o : Obj) : Gr W (w.alloc o) := by
  obtain ⟨q, os, rfl⟩ := h
  exact ⟨q, os ++ #[o], by rw [alloc_eq_grow, grow_grow]⟩
theorem Gr.step {W w : World} (h : Gr W w) (q : Nat) (os : Array Obj) : Gr W (grow (w.drewN q) os) := by
  obtain ⟨q', os', rfl⟩ := h
  refine ⟨q' + q, os' ++ os, ?_⟩
  rw [← grow_grow, ← World.drewN_drewN]
  rfl
theorem Gr.drewN {W w : World} (h : Gr W w) (q : Nat) : Gr W (w.drewN q) := by
  have := h.step q #[]
  rwa [grow_empty] at this
theorem Gr.drew {W w : World} (h : Gr W w) : Gr W w.drew := h.drewN 1
theorem Gr.trans {W w w' : World} (h : Gr W w) (h' : Gr w w') : Gr W w' := by
  obtain ⟨q, os, rfl⟩ := h'
  exact h.step q os
theorem cell_gr {w : World} {a : Addr} {v : Value} (hb : a.block < w.heap.size) (h : w.cell? a = some v) (n : Nat) (os : Array Obj) : (grow (w.drewN n) os).cell? a = some v := by
  have e : (grow (w.drewN n) os).heap[a.block]? = w.heap[a.block]? := by
    show (w.heap ++ os)[a.block]? = _
    rw [Array.getElem?_append_left hb]
  simp only [World.cell?, e]
  simpa only [World.cell?] using h
theorem Gr.cell {W w : World} (h : Gr W w) {a : Addr} {v : Value} (hb : a.block < W.heap.size) (hc : W.cell? a = some v) : w.cell? a = some v := by
  obtain ⟨q, os, rfl⟩ := h
  exact cell_gr hb hc q os
theorem cell_new {W : World} {cs : Array Value} {t : TypeId} {j : Nat} {v : Value} (h : cs[j]? = some v) : (W.alloc (.cells cs t)).cell? ⟨W.heap.size, j, none⟩ = some v := by
  simp only [World.cell?, heap_alloc, Array.getElem?_push_size]
  exact h
theorem Gr.new {W w : World} {cs : Array Value} {t : TypeId} (h : Gr (W.alloc (.cells cs t)) w) {j : Nat} {v : Value} (hv : cs[j]? = some v) : w.cell? ⟨W.heap.size, j, none⟩ = some v :=
  h.cell (by simp only [heap_alloc, Array.size_push]; omega) (cell_new hv)
end Go.X

set_option linter.all false
namespace Go.X
open Go
/-- a map of which memory says what it holds -/
def SeesM (c : Cx) (H : List Blk) (m : Nat) (f : Int → Option Value) : Prop := ∀ ms w, Kn c.W c.S ms H w → ∃ es clk, MRep es clk f ∧ w.heap[m]? = some (.map es.toArray clk)
theorem SeesM.ext {c : Cx} {H : List Blk} {i m : Nat} {f : Int → Option Value} {fn : Blk → List Blk} (hu : At H (.ext i (MpK m f)) fn) : SeesM c H m f := fun _ _ hk => hk.getK hu
def OldM (W : World) (m : Nat) (f : Int → Option Value) : Prop := ∃ es clk, MRep es clk f ∧ W.heap[m]? = some (.map es.toArray clk)
theorem SeesM.old {c : Cx} {H : List Blk} {m : Nat} {f : Int → Option Value} (h : OldM c.W m f) (hS : ¬ c.S m) : SeesM c H m f := fun ms w hk => by
  obtain ⟨es, clk, h1, h2⟩ := h
  exact ⟨es, clk, h1, by rw [Kn0.old hk m (Array.getElem?_eq_some_iff.1 h2).1 hS]; exact h2⟩
theorem SeesM.now {c : Cx} {H : List Blk} {m : Nat} {f : Int → Option Value} {ms w} (h : SeesM c H m f) (hk : Kn c.W c.S ms H w) : OldM w m f := h ms w hk
section
variable {c : Cx} {o : Oper} {E : Env} {H : List Blk} {nx : K1}
theorem run_lkM {t kt et : Nat} {x ix : Operand} {ok : Bool} {ti tk te : TI} {q : IntKind} {m : Nat} {z : Int} {f : Int → Option Value} (ho : o.op = .lookup t x ix ok) (hx : opd E x = some (.v (.map (some m)))) (hi : opd E ix = some (.v (.int .i64 z)))
    (hti : c.T.get t = some ti) (hd : ti.desc = .map kt et) (htk : c.T.get kt = some tk) (hdk : tk.desc = .int q) (hte : c.T.get et = some te) (hM : SeesM c H m f) {ms ac w} (ha : Has c.n ms E ac) (hk : Kn c.W c.S ms H w) :
    (execOp ac.eval o).run c.P w = .ok (.value (if ok then .tuple #[(f z).getD te.zero, .bool (f z).isSome] else (f z).getD te.zero)) w := by
  have h1 := (c.ok t ti hti).1
  rw [hd] at h1
  have h2 := (c.ok kt tk htk).1
  rw [hdk] at h2
  have e1 := ha.opd hx
  have e2 := ha.opd hi
  simp only [den] at e1 e2
  obtain ⟨es, clk, hr, hb⟩ := hM ms w hk
  have hg := getObj_ran (P := c.P) hb (by intro _ _ _ e; cases e)
  rcases hr.find (P := c.P) h2 z w with ⟨n, e, g1, g2, g3, g4⟩ | ⟨g1, g2, g3⟩
  · rw [g3]
    cases ok <;> simp [execOp, ho, e1, e2, Instr.lookup, run_underlying h1, hg, run_checkKey _ h2, g4]
  · rw [g2]
    cases ok <;> simp [execOp, ho, e1, e2, Instr.lookup, run_underlying h1, hg, run_checkKey _ h2, g3, r_zeroValue (c.ok et te hte) w]
/-- lookups: what is there, or the type's zero -/
theorem OpK.lkM {t kt et : Nat} {x ix : Operand} {ok : Bool} {ti tk te : TI} {q : IntKind} {m : Nat} {z : Int} {f : Int → Option Value} (ho : o.op = .lookup t x ix ok) (hx : opd E x = some (.v (.map (some m)))) (hi : opd E ix = some (.v (.int .i64 z)))
    (hti : c.T.get t = some ti) (hd : ti.desc = .map kt et) (htk : c.T.get kt = some tk) (hdk : tk.desc = .int q) (hte : c.T.get et = some te) (hM : SeesM c H m f) {v : Value} {b : Bool} (hv : (f z).getD te.zero = v) (hb : (f z).isSome = b)
    (h : nx (if ok then .tup [.v v, .v (.bool b)] else .v v) H) : OpK c o E H nx := by
  have hnd : ∀ cl, o.op ≠ .defer cl := by rw [ho]; intro cl e; cases e
  refine OpK.val hnd _ (fun ms ac w ha hk => ?_) h
  rw [run_lkM ho hx hi hti hd htk hdk hte hM ha hk, hv, hb]
  cases ok <;> rfl
theorem QK.lkM {kk : SV → Prop} {t kt et : Nat} {x ix : Operand} {ok : Bool} {ti tk te : TI} {q : IntKind} {m : Nat} {z : Int} {f : Int → Option Value} (ho : o.op = .lookup t x ix ok) (hx : opd E x = some (.v (.map (some m)))) (hi : opd E ix = some (.v (.int .i64 z)))
    (hti : c.T.get t = some ti) (hd : ti.desc = .map kt et) (htk : c.T.get kt = some tk) (hdk : tk.desc = .int q) (hte : c.T.get et = some te) (hM : SeesM c H m f) {v : Value} {b : Bool} (hv : (f z).getD te.zero = v) (hb : (f z).isSome = b)
    (h : kk (if ok then .tup [.v v, .v (.bool b)] else .v v)) : QK c o E H kk := by
  refine QK.val _ (fun ms ac w ha hk => ?_) h
  rw [run_lkM ho hx hi hti hd htk hdk hte hM ha hk, hv, hb]
  cases ok <;> rfl
/-! slices of one's own, in place -/
theorem SlA.spot {e k : Nat} {a : Option Addr} {n cap : Nat} {cs : List Value} {w : World} {S : Nat → Prop} (h : (SlA e k a n cap cs).holds w S) : a.map (·.add 0) = a := by
  rcases h with ⟨rfl, _⟩ | ⟨b, _, pre, post, fr, rfl, _⟩
  · rfl
  · simp [add_none]
theorem SlA.le {e k : Nat} {a : Option Addr} {n cap : Nat} {cs : List Value} {w : World} {S : Nat → Prop} (h : (SlA e k a n cap cs).holds w S) : n ≤ cap := by
  rcases h with ⟨_, rfl, rfl, _⟩ | ⟨b, _, pre, post, fr, _, _, _, h, _⟩
  · exact Nat.le_refl _
  · exact h
theorem SlAt.free {w : World} {e k : Nat} {b : Nat} {pre cs post : List Value} {fr : Nat × Nat} (hh : w.heap[b]? = some (.cells (pre ++ cs ++ post).toArray e fr)) (hf : fr.1 ≠ fr.2 → k = 1 ∧ pre.length + cs.length + post.length ≤ fr.1) {o : Nat} (ho : o < pre.length + cs.length) : w.frozen? ⟨b, o, none⟩ = false := by
  simp only [World.frozen?, hh]
  simp only [Bool.and_eq_false_iff, decide_eq_false_iff_not]
  by_cases hlt : fr.1 < fr.2
  · left; have := (hf (Nat.ne_of_lt hlt)).2; omega
  · by_cases h0 : fr.1 ≤ o
    · right; omega
    · left; exact h0
theorem over_list {pre cs post news : List Value} {p : Nat} (hp : p + news.length ≤ cs.length) :
    (pre ++ cs ++ post).take (pre.length + p) ++ news ++ (pre ++ cs ++ post).drop (pre.length + p + news.length) = pre ++ (cs.take p ++ news ++ cs.drop (p + news.length)) ++ post := by
  have e1 : (pre ++ cs ++ post).take (pre.length + p) = pre ++ cs.take p := by
    rw [List.append_assoc, List.take_append, List.take_of_length_le (by omega), Nat.add_sub_cancel_left, List.take_append_of_le_length (by omega)]
  have e2 : (pre ++ cs ++ post).drop (pre.length + p + news.length) = cs.drop (p + news.length) ++ post := by
    rw [List.append_assoc, List.drop_append, List.drop_of_length_le (by omega), List.nil_append, show pre.length + p + news.length - pre.length = p + news.length by omega, List.drop_append_of_le_length (by omega)]
  rw [e1, e2]
  simp [List.append_assoc]
theorem SlA.pre {e k : Nat} {a : Option Addr} {n n' cap : Nat} {cs cs' : List Value} {w : World} {S : Nat → Prop} (h : (SlA e k a n cap (cs ++ cs')).holds w S) (hn : n' ≤ n) (hl : cs.length = n' * k) : (SlA e k a n' cap cs).holds w S := by
  rcases h with ⟨rfl, rfl, rfl, h⟩ | ⟨b, hb, pre, post, fr, rfl, hh, hl', hnc, hp, hf⟩
  · obtain rfl : n' = 0 := by omega
    simp at h
    exact .inl ⟨rfl, rfl, rfl, h.1⟩
  · refine .inr ⟨b, hb, pre, cs' ++ post, fr, rfl, by rw [hh]; simp [List.append_assoc], hl, by omega, ?_, fun hne => ⟨(hf hne).1, ?_⟩⟩
    · rw [List.length_append, hl] at hl'
      rw [List.length_append]
      have h6 : (cap - n') * k = (cap - n) * k + (n - n') * k := by rw [← Nat.add_mul]; congr 1; omega
      have h7 : n * k = n' * k + (n - n') * k := by rw [← Nat.add_mul]; congr 1; omega
      omega
    · have := (hf hne).2
      rw [List.length_append] at this ⊢
      omega
/-- the parts l to l + m are cleared -/
theorem clr_core {P : Program} {t ty e : Nat} {j : TI} (ht : P.underlying t = some (.slice e)) (hj : TIok P e j) (hz : j.zero.cells.size = j.size) (hz1 : ∀ v ∈ j.zero.cells.toList, v.oneCell' = true)
    {a : Option Addr} {N cap l m : Nat} {cap' : Nat} {cs : List Value} {w : World} {S : Nat → Prop} (hs : (SlA e j.size a N cap cs).holds w S) (hS : ∀ k, S k → k < w.heap.size) (hN : l + m ≤ N) :
    ∃ zs w', zs.length = m * j.size ∧ (Builtin.clear_ #[t] ty #[.slice (if cap = l then a else a.map (·.add (l * j.size))) m cap']).run P w = .ok (.tuple #[]) w' ∧ FPost S w (SlA e j.size a N cap (cs.take (l * j.size) ++ zs ++ cs.drop ((l + m) * j.size))) w' := by
  have hle := SlA.le hs
  have hl := SlA.len hs
  by_cases hm : m = 0
  · subst hm
    refine ⟨[], w, by simp, ?_, ⟨rfl, rfl, rfl, Nat.le_refl _, fun _ _ _ => rfl⟩, S, ?_, fun k hk => ⟨hS k hk, .inl hk⟩⟩
    · simp only [Builtin.clear_]
      cases hq : (if cap = l then a else a.map (·.add (l * j.size))) <;> simp [run_underlying ht]
    · simpa using hs
  rcases hs with ⟨rfl, rfl, _⟩ | ⟨b, hb, pre, post, fr, rfl, hh, hl', hnc, hp, hf⟩
  · omega
  have hcl : ¬ cap = l := by omega
  let zs : List Value := (Builtin.zeroCells j.zero.cells m).toList
  have hzl : zs.length = m * j.size := by simp [zs, size_zeroCells, hz]
  have hz1' : ∀ v ∈ zs, v.oneCell' = true := by
    intro v hv
    simp only [zs, Builtin.zeroCells, Array.toList_map, List.mem_map, Array.toList_range, List.mem_range] at hv
    obtain ⟨q, hq, rfl⟩ := hv
    have hpos : 0 < j.zero.cells.size := by
      rcases Nat.eq_zero_or_pos j.zero.cells.size with h | h
      · rw [h] at hq; omega
      · exact h
    have hlt : q % j.zero.cells.size < j.zero.cells.size := Nat.mod_lt _ hpos
    rw [getElem!_pos j.zero.cells (q % j.zero.cells.size) hlt]
    exact hz1 _ (by simp)
  have hle2 : l * j.size + zs.length ≤ cs.length := by
    rw [hl, hzl, ← Nat.add_mul]; exact Nat.mul_le_mul_right _ hN
  have hst := run_storeCells_cells (P := P) b (pre.length + l * j.size) zs 0 w (fun q hq => by rw [cell_of hh]; simp; omega) (fun q hq => SlAt.free (k := j.size) hh hf (by omega)) hz1'
  simp only [Nat.add_zero] at hst
  obtain ⟨q1, q2, q3, q4⟩ := setCells_same (b := b) zs (pre.length + l * j.size) w
  refine ⟨zs, w.setCells b (pre.length + l * j.size) zs, hzl, ?_, ⟨q1, q2, q3, by rw [q4]; exact Nat.le_refl _, fun k hk hn => setCells_other _ _ _ _ (fun e => hn (e ▸ hb))⟩, fun k => k = b, .inr ⟨b, rfl, pre, post, fr, rfl, ?_, ?_, hnc, hp, ?_⟩, ?_⟩
  · obtain ⟨m', rfl⟩ : ∃ m', m = m' + 1 := ⟨m - 1, by omega⟩
    rw [if_neg hcl]
    simp [Builtin.clear_, run_underlying ht, r_zeroValue hj w, add_none]
    rw [hst]
    rfl
  · rw [setCells_heap zs (pre.length + l * j.size) w _ hh (by simp; omega), over_list hle2]
    rw [hzl, ← Nat.add_mul]
  · rw [List.length_append, List.length_append, List.length_take, List.length_drop, hl, Nat.min_eq_left (by rw [← hl]; omega), hzl, ← Nat.add_mul]
    have : (l + m) * j.size ≤ N * j.size := Nat.mul_le_mul_right _ hN
    omega
  · intro hne
    have h5 := hf hne
    refine ⟨h5.1, ?_⟩
    rw [List.length_append, List.length_append, List.length_take, List.length_drop, hl, Nat.min_eq_left (by rw [← hl]; omega), hzl]
    have : (l + m) * j.size ≤ N * j.size := Nat.mul_le_mul_right _ hN
    rw [hl] at h5
    rw [Nat.add_mul] at this ⊢
    omega
  · rintro k rfl
    exact ⟨by rw [q4]; exact hS k hb, .inl hb⟩
/-- a whole slice is cleared -/
theorem OpK.clA {t e : Nat} {x : Operand} {ti j : TI} (ho : o.op = .call { callee := .builtin .clear, args := #[x], argTypes := #[t] }) {a : Option Addr} {N cap : Nat} {k : Nat} (hx : opd E x = some (.v (.slice a N cap)))
    (hti : c.T.get t = some ti) (hd : ti.desc = .slice e) (hj : c.T.get e = some j) (hkk : j.size = k) (hz : j.zero.cells.size = j.size) (hz1 : ∀ v ∈ j.zero.cells.toList, v.oneCell' = true)
    {i : Nat} {cs : List Value} {f : Blk → List Blk} (hu : At H (.ext i (SlA e k a N cap cs)) f)
    (h : ∀ zs : List Value, zs.length = N * k → nx (.tup []) (f (.ext i (SlA e k a N cap zs)))) : OpK c o E H nx := by
  subst hkk
  have hnd : ∀ cl, o.op ≠ .defer cl := by rw [ho]; intro cl e; cases e
  refine OpK.run hnd fun ms ac w ha hk => ?_
  have hut := (c.ok t ti hti).1
  rw [hd] at hut
  have e1 := ha.opd hx
  simp only [den] at e1
  obtain ⟨T, h1, h2, _, h4⟩ := hk.upd1 hu
  have hsp := SlA.spot h1
  have hl := SlA.len h1
  obtain ⟨zs, w', g1, g2, g3⟩ := clr_core (ty := o.type) (l := 0) (m := N) (cap' := cap) hut (c.ok e j hj) hz hz1 h1 h2 (by omega)
  rw [Nat.zero_mul, hsp, ite_self] at g2
  rw [Nat.zero_mul, List.take_zero, List.nil_append, Nat.zero_add, List.drop_of_length_le (by omega), List.append_nil] at g3
  exact ⟨.tup [], _, w', by simp [execOp, ho, resolve, invoke, builtin, e1, g2, den, denL], h4 (.ext i _) _ g3, h zs g1⟩
end
end Go.X

set_option linter.all false
namespace Go.X
open Go Go.RowKit Go.Sort Go.Shelf Go.Proofs
section
variable {c : Cx} {o : Oper} {E : Env} {H : List Blk} {nx : K1}
theorem CallK.keys {f g t : Nat} (hK : KeysOk c.P f g t) {bx i i' m tb : Nat} {cs : List SV} {fn : Int → Option Value} {ks : List Int} (hb : .blk i bx cs tb ∈ H) (h0 : (denL cs)[0]? = some (.map (some m))) (hM : SeesM c H m fn) (hks : KeysOf fn ks)
    (hn : nextF H fun i => ∀ z : Option Addr × Nat, nx (.v (.slice z.1 ks.length z.2)) (.ext i (SlA t 1 z.1 ks.length z.2 (ks.map (Value.int .i64))) :: H)) : CallK c f [.fn g [.loc bx i' 0]] H nx := by
  refine CallK.fresh (v := fun z : Option Addr × Nat => .slice z.1 ks.length z.2) (A' := fun z => SlA t 1 z.1 ks.length z.2 (ks.map (Value.int .i64))) (fun ms w hk => ?_) hn
  obtain ⟨es, clk, h1, h2⟩ := hM ms w hk
  exact hK w bx m _ _ _ es clk fn ks (hk.got hb) (by simpa using h0) h2 h1 hks
def CloneOk (P : Program) (f : Nat) : Prop := ∀ b es clk w, w.heap[b]? = some (.map es clk) → CT P f #[.map (some b)] w fun e w' => e = .returned (.map (some w.heap.size)) ∧ w' = w.alloc (.map es clk)
theorem CallK.cloneM {f m i : Nat} (hC : CloneOk c.P f) {fn : Int → Option Value} (hM : SeesM c H m fn) (hn : nextF H fun q => ∀ m', nx (.v (.map (some m'))) (.ext q (MpK m' fn) :: H)) : CallK c f [.v (.map (some m))] H nx := by
  obtain ⟨q, hn⟩ := nextF_spec hn
  refine CallK.gen fun ms w hk => ?_
  obtain ⟨es, clk, h1, h2⟩ := hM ms w hk
  refine (hC m es.toArray clk w h2).mono ?_
  rintro e w' ⟨rfl, rfl⟩
  exact ⟨.v (.map (some w.heap.size)), _, rfl, (hk.allocO q (.map es.toArray clk)).hsub (HSub.ext (fun w S hx => MpA.toK h1 hx) (HSub.refl _)), hn w.heap.size⟩
end
end Go.X

set_option linter.all false
namespace Go.X
open Go Go.RowKit Go.Maps Go.Sort Go.Shelf Go.Proofs Go.WideElems Go.WideShapes
/-- values of a form -/
def RVb (vb : Value → Bool) (v : Value) : Option (DataW Value × List MemPlace) := if vb v then some (.held v, []) else none
section
variable {P : Program} {k : TypeId} {vb : Value → Bool}
theorem rd_RVb (hk : P.underlying k = some (.int .i64)) {z : Int} (h : Zok z) (v : Value) (hv : vb v = true) (b : Nat) : rd P k (RVb vb) ⟨.int .i64 z, v, b⟩ = some (.int .i64 z, .held v) := by
  refine rd_mk (yv := (.held v, [])) ?_ (by simp [RVb, hv])
  simp [keyOf, hk, mapKey, wf_i64 h]
theorem MRep.rdb {es : List MapEntry} {clk : Nat} {f : Int → Option Value} (h : MRep es clk f) (hvb : ∀ z v, f z = some v → vb v = true) (hk : P.underlying k = some (.int .i64)) {e : MapEntry} (he : e ∈ es) : ∃ z, e.key = .int .i64 z ∧ Zok z ∧ f z = some e.val ∧ Go.WideElems.rd P k (RVb vb) e = some (.int .i64 z, .held e.val) := by
  obtain ⟨z, h1, h2, h3⟩ := h.sound e he
  obtain ⟨ek, ev, eb⟩ := e
  simp only at h1
  subst h1
  exact ⟨z, rfl, h2, h3, rd_RVb hk h2 ev (hvb _ _ h3) eb⟩
def MpDb (vb : Value → Bool) (P : Program) (k : TypeId) (es : List MapEntry) : List (Lit × DataW Value) := (es.map (rg P k (RVb vb))).foldr DataW.insert []
theorem MRep.memDb {es : List MapEntry} {clk : Nat} {f : Int → Option Value} (h : MRep es clk f) (hvb : ∀ z v, f z = some v → vb v = true) (hk : P.underlying k = some (.int .i64)) {x : Lit × DataW Value} : x ∈ MpDb vb P k es ↔ ∃ z v, x = (.int .i64 z, .held v) ∧ f z = some v := by
  unfold MpDb
  rw [(sorted_perm _).mem_iff, List.mem_map]
  constructor
  · rintro ⟨e, he, rfl⟩
    obtain ⟨z, _, _, h3, h4⟩ := h.rdb hvb hk he
    exact ⟨z, e.val, rg_of h4, h3⟩
  · rintro ⟨z, v, rfl, hf⟩
    obtain ⟨e, he, hz⟩ := h.full z v hf
    obtain ⟨z', h1, _, h3, h4⟩ := h.rdb hvb hk he
    have : z' = z := by rw [hz] at h1; simpa using h1.symm
    subst this
    have : v = e.val := by rw [hf] at h3; simpa using h3
    subst this
    exact ⟨e, he, rg_of h4⟩
theorem MRep.ownsb {es : List MapEntry} {clk : Nat} {f : Int → Option Value} (h : MRep es clk f) (hvb : ∀ z v, f z = some v → vb v = true) (hk : P.underlying k = some (.int .i64)) {w : World} {m : Nat} (hm : w.heap[m]? = some (.map es.toArray clk)) (hl : es.length ≤ 1000000) :
    w.ownsMap P k (RVb vb) m es.length (.map (MpDb vb P k es)) := by
  have hml : (1000000 : Nat) ≤ maxLen := by decide
  refine ⟨es.toArray, clk, hm, ⟨by simpa using Nat.le_trans hl hml, ⟨by simpa using h.lt, by simpa using h.borns, ?_⟩, fun x hx => ?_⟩, by simp, by simp [MpDb]⟩
  · show (es.toArray.toList.map (·.key)).Nodup
    simpa using h.keys
  · obtain ⟨z, _, _, _, h4⟩ := h.rdb hvb hk (e := x) (by simpa using hx)
    exact ⟨_, h4⟩
theorem MRep.ofOwnsb (hk : P.underlying k = some (.int .i64)) {w : World} {m n : Nat} {L : List (Lit × DataW Value)} (h : w.ownsMap P k (RVb vb) m n (.map L)) {f : Int → Option Value} (hL : ∀ x, x ∈ L ↔ ∃ z v, x = (.int .i64 z, .held v) ∧ f z = some v) (hz : ∀ z v, f z = some v → Zok z) :
    ∃ es clk, w.heap[m]? = some (.map es.toArray clk) ∧ MRep es clk f ∧ es.length ≤ n := by
  obtain ⟨es, clk, hm, F, hs, hD⟩ := h
  obtain ⟨hF1, ⟨hF2, hF3, hF4⟩, hF5⟩ := F
  obtain rfl : L = (es.toList.map (rg P k (RVb vb))).foldr DataW.insert [] := by simpa using hD
  have hrd : ∀ e ∈ es.toList, ∃ z, e.key = .int .i64 z ∧ f z = some e.val := by
    intro e he
    obtain ⟨y, hy⟩ := hF5 e he
    have h1 : y ∈ (es.toList.map (rg P k (RVb vb))).foldr DataW.insert [] := by
      rw [(sorted_perm _).mem_iff, List.mem_map]
      exact ⟨e, he, rg_of hy⟩
    obtain ⟨z, v, rfl, hf⟩ := (hL y).1 h1
    have h2 := rd_key hy
    obtain ⟨d, h3, h4⟩ := rd_val hy
    obtain rfl : (.held e.val, []) = d := by
      simp only [RVb] at h3
      split at h3
      · simpa using h3
      · cases h3
    obtain rfl : v = e.val := by simpa using h4
    refine ⟨z, ?_, hf⟩
    simp only [keyOf, hk] at h2
    have := Maps.keyOf_i64 hk (key := e.key) (kl := .int .i64 z) (by simpa [keyOf, hk] using h2)
    obtain ⟨x, hx, h5, _⟩ := this
    rw [hx]
    simp only [Lit.int.injEq, true_and] at h5
    rw [h5]
  refine ⟨es.toList, clk, by simpa using hm, ⟨?_, ?_, by simpa using hF4, by simpa using hF3, by simpa using hF2⟩, by simpa using hs⟩
  · intro e he
    obtain ⟨z, h1, h2⟩ := hrd e he
    exact ⟨z, h1, hz _ _ h2, h2⟩
  · intro z v hf
    have h1 := (hL (.int .i64 z, .held v)).2 ⟨z, v, rfl, hf⟩
    rw [(sorted_perm _).mem_iff, List.mem_map] at h1
    obtain ⟨e, he, h2⟩ := h1
    obtain ⟨y, hy⟩ := hF5 e he
    rw [rg_of hy] at h2
    subst h2
    obtain ⟨z', h3, _⟩ := hrd e he
    have h4 := rd_key hy
    rw [h3] at h4
    have : z' = z := by
      obtain ⟨x, hx, h5, _⟩ := Maps.keyOf_i64 hk h4
      have e1 : z' = x := by simpa using hx
      have e2 : z = x := by simpa using h5
      rw [e1, e2]
    subst this
    exact ⟨e, he, h3⟩
end
/-- maps.DeleteFunc of a map whose values have a form -/
def DelOkV (P : Program) (f : Nat) (vb : Value → Bool) : Prop :=
  ∀ (w : World) (m : Nat) (es : List MapEntry) (clk : Nat) (fn : Int → Option Value) (p : Int → Bool) (g : Nat) (cb : Array Value), w.heap[m]? = some (.map es.toArray clk) → MRep es clk fn → (∀ z v, fn z = some v → vb v = true) → es.length ≤ 1000000 →
    (∀ args w, (callFunc g args).run P w = .ok (.enter g args) w) →
    (∀ (W : World) (z : Int) (v : Value), vb v = true → w.grownBy W (some m) → Calls P g (#[.int .i64 z, v] ++ cb) W fun e w' => e = .returned (.bool (!p z)) ∧ W.grownBy w' none) →
    CT P f #[.map (some m), .func (.func g) #[] cb] w fun e w' => e = .returned (.tuple #[]) ∧ w.grownBy w' (some m) ∧ ∃ es' clk', w'.heap[m]? = some (.map es'.toArray clk') ∧ MRep es' clk' (keepK p fn)
theorem delOkV_of {P : Program} {f : Nat} {vb : Value → Bool} {t : TypeId} (hkt : P.underlying t = some (.int .i64)) (hb : Bodied P f)
    (hc : ∀ (pd : Lit → DataW Value → Bool) (g : Nat) (cb : Array Value) (b n : Nat) (D : DataW Value) (w : World), (∀ args w, (callFunc g args).run P w = .ok (.enter g args) w) → w.ownsMap P t (RVb vb) b n D →
      (∀ (W : World) (key val : Value) (kl : Lit) (yd : DataW Value) (yp : List MemPlace), w.grownBy W (some b) → keyOf P t key = some kl → RVb vb val = some (yd, yp) → Calls P g (#[key, val] ++ cb) W fun e w' => e = .returned (.bool (pd kl yd)) ∧ W.grownBy w' none) →
      Calls P f #[.map (some b), .func (.func g) #[] cb] w fun e w' => e = .returned (.tuple #[]) ∧ w'.ownsMap P t (RVb vb) b n (Lib.deleteFuncD pd D) ∧ w.grownBy w' (some b)) : DelOkV P f vb := by
  intro w m es clk fn p g cb hm hr hvb hl eg hdel
  unfold CT
  refine ⟨hb, ?_⟩
  have hown := hr.ownsb hvb hkt hm hl
  refine (hc (fun kl _ => !p (intOf kl)) g cb m es.length _ w eg hown ?_).mono ?_
  · intro W key val kl yd yp hg hk hv
    obtain ⟨x, rfl, rfl, hz⟩ := Maps.keyOf_i64 hkt hk
    refine hdel W x val ?_ hg
    simp only [RVb] at hv
    split at hv
    · assumption
    · cases hv
  · rintro e w' ⟨rfl, ho, hg⟩
    refine ⟨rfl, hg, ?_⟩
    have h0 := MRep.ofOwnsb (f := keepK p fn) hkt ho ?_ ?_
    · obtain ⟨es', clk', h1, h2, _⟩ := h0
      exact ⟨es', clk', h1, h2⟩
    · intro x
      rw [List.mem_filter, hr.memDb hvb hkt]
      constructor
      · rintro ⟨⟨z, v, rfl, hf⟩, hp⟩
        exact ⟨z, v, rfl, by have : p z = true := by simpa [intOf] using hp
                             simp [keepK, this, hf]⟩
      · rintro ⟨z, v, rfl, hf⟩
        unfold keepK at hf
        split at hf
        · rename_i hp
          exact ⟨⟨z, v, rfl, hf⟩, by simpa [intOf] using hp⟩
        · cases hf
    · intro z v hf
      unfold keepK at hf
      split at hf
      · obtain ⟨e, he, hz⟩ := hr.full z v hf
        exact (hr.at he hz).1
      · cases hf
end Go.X

set_option linter.all false
namespace Go.X
open Go Go.RowKit Go.Sort Go.Shelf Go.Proofs
section
variable {c : Cx} {o : Oper} {E : Env} {H : List Blk} {nx : K1}
theorem CallK.delM {vb : Value → Bool} {f gg : Nat} (hD : DelOkV c.P f vb) {m m' i j q b t : Nat} {fn g : Int → Option Value} {ks : List Int} {p : Int → Bool} {caps cs : List SV} {R : List Blk} (hs : Sel H [.ext i (MpK m fn), .ext j (MpK m' g), .blk q b cs t] R) (hks : KeysOf fn ks) (hvb : ∀ z v, fn z = some v → vb v = true) (eg : ∀ args w, (callFunc gg args).run c.P w = .ok (.enter gg args) w)
    (hcl : ∀ W, OldM W m' g → OldC W b 0 cs → ∀ z v, vb v = true → Pu c.P gg (#[.int .i64 z, v] ++ (denL caps).toArray) W (.bool (!p z)))
    (hn : nx (.v (.tuple #[])) (.ext i (MpK m (keepK p fn)) :: .ext j (MpK m' g) :: .blk q b cs t :: R)) : CallK c f [.v (.map (some m)), .fn gg caps] H nx := by
  refine CallK.gen fun ms w hk => ?_
  obtain ⟨T, hT, hTs, hback⟩ := hk.sel hs
  cases hT with
  | @cons _ _ S1 T1 hx1 hb1 hH1 hd1 =>
  cases hH1 with
  | @cons _ _ S2 T2 hx2 hb2 hH2 hd2 =>
  cases hH2 with
  | @cons _ _ S3 T3 hx3 hb3 hH3 hd3 =>
  obtain ⟨es, clk, hr, hm1, hm⟩ := hx1
  obtain ⟨es2, clk2, hr2, hm2, hmm⟩ := hx2
  obtain ⟨hb', hbb⟩ := hx3
  have hne1 : m' ≠ m := fun e => hd1 m hm1 (.inl (e ▸ hm2))
  have hne2 : b ≠ m := fun e => hd1 m hm1 (.inr (.inl (e ▸ hb')))
  obtain ⟨zs, _, hperm⟩ := hr.perm hks
  have hlen : es.length ≤ 1000000 := by
    obtain ⟨zs, h1, h2⟩ := hr.perm hks
    have h3 : es.length = zs.length := by simpa using congrArg List.length h1
    rw [h3, h2.length_eq]; exact hks.2.2
  refine (hD w m es clk fn p gg (denL caps).toArray hm hr hvb hlen eg fun W z v hv hg => ?_).mono ?_
  · have h2 : W.heap[m']? = w.heap[m']? := hg.block m' (hb2 _ hm2) (by simpa using hne1)
    have h3 : W.heap[b]? = w.heap[b]? := hg.block b (hb3 _ hb') (by simpa using hne2)
    refine (Pu.calls (hcl W ⟨es2, clk2, hr2, h2.trans hmm⟩ ⟨_, _, _, h3.trans hbb, fun j v hv => by simpa using hv⟩ z v hv)).mono ?_
    rintro e w' ⟨rfl, hB⟩
    exact ⟨rfl, ⟨hB.os, hB.tape, hB.output, hB.size, fun k hk _ => hB.block k hk⟩⟩
  · rintro e w' ⟨rfl, hg, es', clk', hm', hr'⟩
    have hkeep : ∀ k, k < w.heap.size → k ≠ m → w'.heap[k]? = w.heap[k]? := fun k hk hn => hg.block k hk (by simpa using hn)
    have hk2 : ∀ k, S2 k → w'.heap[k]? = w.heap[k]? := fun k hk => hkeep k (hb2 k hk) fun e => hd1 m hm1 (.inl (e ▸ hk))
    have hk3 : ∀ k, S3 k → w'.heap[k]? = w.heap[k]? := fun k hk => hkeep k (hb3 k hk) fun e => hd1 m hm1 (.inr (.inl (e ▸ hk)))
    refine ⟨.v (.tuple #[]), _, rfl, hback [.ext i (MpK m (keepK p fn)), .ext j (MpK m' g), .blk q b cs t] w' ⟨⟨hg.os, hg.tape, hg.output, hg.size, fun k hk hn => hkeep k hk fun e => hn (.inl (e ▸ hm1))⟩, fun k => S1 k ∨ S2 k ∨ S3 k ∨ False, ?_, ?_⟩, hn⟩
    · refine .cons (x := .ext i (MpK m (keepK p fn))) ⟨es', clk', hr', hm1, hm'⟩ (fun k hk => Nat.lt_of_lt_of_le (hb1 k hk) hg.size) (.cons (x := .ext j (MpK m' g)) ⟨es2, clk2, hr2, hm2, (hk2 _ hm2).trans hmm⟩ (fun k hk => Nat.lt_of_lt_of_le (hb2 k hk) hg.size) (.cons (x := .blk q b cs t) ⟨hb', (hk3 _ hb').trans hbb⟩ (fun k hk => Nat.lt_of_lt_of_le (hb3 k hk) hg.size) .nil (fun _ _ h => h)) fun k hk hk' => hd2 k hk ?_) fun k hk hk' => hd1 k hk ?_
      · rcases hk' with h | h
        · exact .inl h
        · exact h.elim
      · rcases hk' with h | h | h
        · exact .inl h
        · exact .inr (.inl h)
        · exact h.elim
    · rintro k (h | h | h | h)
      · exact ⟨Nat.lt_of_lt_of_le (hb1 k h) hg.size, .inl (.inl h)⟩
      · exact ⟨Nat.lt_of_lt_of_le (hb2 k h) hg.size, .inl (.inr (.inl h))⟩
      · exact ⟨Nat.lt_of_lt_of_le (hb3 k h) hg.size, .inl (.inr (.inr (.inl h)))⟩
      · exact h.elim
end
end Go.X

set_option linter.all false
namespace Go.X
open Go
section
variable {c : Cx} {o : Oper} {E : Env} {H : List Blk} {nx : K1}
theorem OpK.lkMn {t kt et : Nat} {x ix : Operand} {ok : Bool} {ti tk te : TI} {q : IntKind} {m : Nat} {z : Int} {f : Int → Option Value} (ho : o.op = .lookup t x ix ok) (hx : opd E x = some (.v (.map (some m)))) (hi : opd E ix = some (.v (.int .i64 z)))
    (hti : c.T.get t = some ti) (hd : ti.desc = .map kt et) (htk : c.T.get kt = some tk) (hdk : tk.desc = .int q) (hte : c.T.get et = some te) (hM : SeesM c H m f) (hz : f z = none)
    (h : nx (if ok then .tup [.v te.zero, .v (.bool false)] else .v te.zero) H) : OpK c o E H nx := OpK.lkM ho hx hi hti hd htk hdk hte hM (by rw [hz]; rfl) (by rw [hz]; rfl) h
theorem OpK.lkMs {t kt et : Nat} {x ix : Operand} {ok : Bool} {ti tk te : TI} {q : IntKind} {m : Nat} {z : Int} {f : Int → Option Value} {v : Value} (ho : o.op = .lookup t x ix ok) (hx : opd E x = some (.v (.map (some m)))) (hi : opd E ix = some (.v (.int .i64 z)))
    (hti : c.T.get t = some ti) (hd : ti.desc = .map kt et) (htk : c.T.get kt = some tk) (hdk : tk.desc = .int q) (hte : c.T.get et = some te) (hM : SeesM c H m f) (hz : f z = some v)
    (h : nx (if ok then .tup [.v v, .v (.bool true)] else .v v) H) : OpK c o E H nx := OpK.lkM ho hx hi hti hd htk hdk hte hM (by rw [hz]; rfl) (by rw [hz]; rfl) h
theorem QK.lkMn {kk : SV → Prop} {t kt et : Nat} {x ix : Operand} {ok : Bool} {ti tk te : TI} {q : IntKind} {m : Nat} {z : Int} {f : Int → Option Value} (ho : o.op = .lookup t x ix ok) (hx : opd E x = some (.v (.map (some m)))) (hi : opd E ix = some (.v (.int .i64 z)))
    (hti : c.T.get t = some ti) (hd : ti.desc = .map kt et) (htk : c.T.get kt = some tk) (hdk : tk.desc = .int q) (hte : c.T.get et = some te) (hM : SeesM c H m f) (hz : f z = none)
    (h : kk (if ok then .tup [.v te.zero, .v (.bool false)] else .v te.zero)) : QK c o E H kk := QK.lkM ho hx hi hti hd htk hdk hte hM (by rw [hz]; rfl) (by rw [hz]; rfl) h
theorem QK.lkMs {kk : SV → Prop} {t kt et : Nat} {x ix : Operand} {ok : Bool} {ti tk te : TI} {q : IntKind} {m : Nat} {z : Int} {f : Int → Option Value} {v : Value} (ho : o.op = .lookup t x ix ok) (hx : opd E x = some (.v (.map (some m)))) (hi : opd E ix = some (.v (.int .i64 z)))
    (hti : c.T.get t = some ti) (hd : ti.desc = .map kt et) (htk : c.T.get kt = some tk) (hdk : tk.desc = .int q) (hte : c.T.get et = some te) (hM : SeesM c H m f) (hz : f z = some v)
    (h : kk (if ok then .tup [.v v, .v (.bool true)] else .v v)) : QK c o E H kk := QK.lkM ho hx hi hti hd htk hdk hte hM (by rw [hz]; rfl) (by rw [hz]; rfl) h
theorem SrcK.tail {tx e e' k : Nat} {ti : TI} (hti : c.T.get tx = some ti) (hd : ti.desc = .slice e') {a n cap cs} {i : Nat} {f : Blk → List Blk} (hu : At H (.ext i (SlA e k a n cap cs)) f) (h1 : ∀ u ∈ cs, u.oneCell' = true) {l : Nat} (hl : l ≤ n) :
    SrcK c H k tx (.v (.slice (if cap = l then a else a.map (·.add (l * k))) (n - l) (cap - l))) (n - l) (cs.drop (l * k)) := by
  have hs : Sees c H e k (if cap = l then a else a.map (·.add (l * k))) (n - l) (cap - l) (cs.drop (l * k)) := fun ms w hk => by
    obtain ⟨T, h3, h4, _⟩ := hk.upd1 hu
    refine ⟨T, ?_, h4⟩
    have h5 := SlA.part h3 hl (Nat.le_refl n)
    rwa [List.take_of_length_le (by rw [List.length_drop, SlA.len h3, ← Nat.sub_mul]; exact Nat.le_refl _)] at h5
  exact SrcK.sees hti hd hs fun u hu => h1 u (List.mem_of_mem_drop hu)
end
theorem Kn0.oldC {W S H w b o} (h : Kn0 W S H w) (hb : W.heap[b]? = some o) (hS : ¬ S b) : w.heap[b]? = some o := by
  rw [h.old b (Array.getElem?_eq_some_iff.1 hb).1 hS]; exact hb
theorem Kn.oldO {W S ms H w b o} (h : Kn W S ms H w) (hb : W.heap[b]? = some o) (hS : ¬ S b) : w.heap[b]? = some o := Kn0.oldC h hb hS
end Go.X

set_option linter.all false
namespace Go.X
open Go
section
variable {c : Cx} {o : Oper} {E : Env} {H : List Blk} {nx : K1}
theorem OpK.minN {x y : Operand} {t t' : Nat} (ho : o.op = .call { callee := .builtin .min, args := #[x, y], argTypes := #[t, t'] }) {q : IntKind} {a b : Nat} (hx : opd E x = some (.v (.int q (a : Nat)))) (hy : opd E y = some (.v (.int q (b : Nat))))
    (h : nx (.v (.int q ((Nat.min a b : Nat) : Int))) H) : OpK c o E H nx := by
  refine OpK.min ho hx hy ?_
  rw [show (if (b : Int) < a then (b : Int) else a) = ((Nat.min a b : Nat) : Int) by have : Nat.min a b = if a ≤ b then a else b := rfl; rw [this]; split <;> split <;> omega]
  exact h
end
end Go.X

set_option linter.all false
namespace Go.X
open Go Go.RowKit
section
variable {c : Cx} {o : Oper} {E : Env} {H : List Blk} {nx : K1}
theorem QK.cvBS {kk : SV → Prop} {q t e : Nat} {x : Operand} {qi ti j : TI} (ho : o.op = .convert q t x) {a : Option Addr} {n cap : Nat} (hx : opd E x = some (.v (.slice a n cap)))
    (hq : c.T.get q = some qi) (hqd : qi.desc = .slice e) (hti : c.T.get t = some ti) (hd : ti.desc = .string) (hj : c.T.get e = some j) (hjd : j.desc = .int .u8) {l : List UInt8} (hs : Sees c H e 1 a n cap (bcells l))
    (h : kk (.v (.string ⟨l.toArray⟩))) : QK c o E H kk := by
  refine QK.val _ (fun ms ac w ha hk => ?_) h
  have hqu := (c.ok q qi hq).1
  rw [hqd] at hqu
  have htu := (c.ok t ti hti).1
  rw [hd] at htu
  have hju := (c.ok e j hj).1
  rw [hjd] at hju
  have e1 := ha.opd hx
  simp only [den] at e1
  obtain ⟨S, hS, _⟩ := hs ms w hk
  have hlen := SlA.len hS
  rw [bcells_length, Nat.mul_one] at hlen
  rcases hS with ⟨rfl, rfl, rfl, hnil⟩ | ⟨b, hb, pre, post, fr, rfl, hh, hl, hnc, hp, hf⟩
  · have : l = [] := List.length_eq_zero_iff.1 (by omega)
    subst this
    simp [execOp, ho, e1, convert, run_underlying hqu, run_underlying htu, run_underlying hju, Conv.bytesToString, den]
    rfl
  · subst hlen
    have := run_convert_bytes_back (P := c.P) w q t e ⟨b, pre.length, none⟩ cap l hqu hju htu (fun j hj => by
      rw [add_none, cell_of hh]
      simp only [List.getElem?_toArray]
      rw [List.append_assoc, List.getElem?_append_right (by omega), List.getElem?_append_left (by rw [bcells_length]; omega)]
      simp [bcells, hj, bcell])
    simp [execOp, ho, e1, this, den]
theorem QK.cvBS' {kk : SV → Prop} {q t e : Nat} {x : Operand} {qi ti j : TI} (ho : o.op = .convert q t x) {a : Option Addr} {n cap : Nat} (hx : opd E x = some (.v (.slice a n cap)))
    (hq : c.T.get q = some qi) (hqd : qi.desc = .slice e) (hti : c.T.get t = some ti) (hd : ti.desc = .string) (hj : c.T.get e = some j) (hjd : j.desc = .int .u8) {cs : List Value} (hs : Sees c H e 1 a n cap cs) {l : List UInt8} (hcs : cs = bcells l)
    (h : kk (.v (.string ⟨l.toArray⟩))) : QK c o E H kk := by
  subst hcs
  exact QK.cvBS ho hx hq hqd hti hd hj hjd hs h
end
end Go.X

set_option linter.all false
namespace Go.X
open Go
/-- cells behind an address (one each), wherever they lie -/
def RdB (w : World) (a : Option Addr) (cs : List Value) : Prop := ∀ i v, cs[i]? = some v → ∃ b off C t f, a = some ⟨b, off, none⟩ ∧ w.heap[b]? = some (.cells C t f) ∧ C[off + i]? = some v
def SeesB (c : Cx) (H : List Blk) (a : Option Addr) (cs : List Value) : Prop := ∀ ms w, Kn c.W c.S ms H w → RdB w a cs
theorem RdB.take {w a cs} (h : RdB w a cs) (u : Nat) : RdB w a (cs.take u) := fun i v hi => by
  rw [List.getElem?_take] at hi
  split at hi
  · exact h i v hi
  · cases hi
section
variable {c : Cx} {o : Oper} {E : Env} {H : List Blk} {nx : K1}
theorem SeesB.old {a cs} (h : RdB c.W a cs) (hS : ∀ k, ¬ c.S k) : SeesB c H a cs := fun ms w hk i v hi => by
  obtain ⟨b, off, C, t, f, h1, h2, h3⟩ := h i v hi
  exact ⟨b, off, C, t, f, h1, hk.oldO h2 (hS b), h3⟩
theorem OpK.slB {t e : Nat} {x y : Operand} {ti j : TI} (ho : o.op = .slice t x none (some y) none) {a : Option Addr} {n cap : Nat} {q : IntKind} {u : Nat} (hx : opd E x = some (.v (.slice a n cap))) (hy : opd E y = some (.v (.int q (u : Nat))))
    (hti : c.T.get t = some ti) (hd : ti.desc = .slice e) (hj : c.T.get e = some j) (hN : u ≤ cap)
    (h : nx (.v (.slice a u cap)) H) : OpK c o E H nx := by
  have hnd : ∀ cl, o.op ≠ .defer cl := by rw [ho]; intro cl e; cases e
  refine OpK.val hnd _ (fun ms ac w ha hk => ?_) h
  rw [run_sl (l := 0) (u := u) ho hx hti hd hj (.inl ⟨rfl, rfl⟩) (.inr ⟨y, q, rfl, hy⟩) (by omega) (by omega) (by omega) ha]
  have h4 : a.map (·.add 0) = a := by cases a <;> simp [Addr.add]
  simp [den, h4]
theorem OpK.idxB {t e : Nat} {x ix : Operand} {ti j : TI} (ho : o.op = .indexAddr t x ix) {a : Option Addr} {n cap : Nat} {q : IntKind} {z : Nat} (hx : opd E x = some (.v (.slice a n cap))) (hi : opd E ix = some (.v (.int q (z : Nat))))
    (hti : c.T.get t = some ti) (hd : ti.desc = .slice e) (hj : c.T.get e = some j) (hkk : j.size = 1) {cs : List Value} (hs : SeesB c H a cs) (hlt : z < n) {s : SV} (hc : cs[z]? = some (den s))
    (h : ∀ b off, PC c H b off [s] → nx (.v (.pointer (some ⟨b, off, none⟩))) H) : OpK c o E H nx := by
  have hnd : ∀ cl, o.op ≠ .defer cl := by rw [ho]; intro cl e; cases e
  refine OpK.run hnd fun ms ac w hac hk => ?_
  have hu := (c.ok t ti hti).1
  rw [hd] at hu
  obtain ⟨b, off, C, t', f, rfl, h2, h3⟩ := hs ms w hk z _ hc
  have e1 := hac.opd hx
  have e2 := hac.opd hi
  simp only [den] at e1 e2
  refine ⟨_, H, w, ?_, hk, h b (off + z) ?_⟩
  · simp [execOp, ho, e1, e2, Instr.indexAt, asIntOf, run_underlying hu, r_sizeOf (c.ok e j hj) w, hlt, hkk, add_none, den]
  · intro ms' w' hk'
    obtain ⟨b', off', C', t'', f', he, h4, h5⟩ := hs ms' w' hk' z _ hc
    simp only [Option.some.injEq, Addr.mk.injEq, and_true] at he
    obtain ⟨rfl, rfl⟩ := he
    refine ⟨C', t'', f', h4, fun m v hm => ?_⟩
    match m, hm with
    | 0, hm =>
      have : den s = v := by simpa [denL] using hm
      subst this
      exact h5
    | m + 1, hm => simp [denL] at hm
end
end Go.X

set_option linter.all false
namespace Go.X
open Go
/-- an item of the statements -/
structure It where
  s : Nat
  t : Nat
  p : Nat
  m : Nat
  i : Bool
  g : Nat
deriving DecidableEq
namespace It
def cells (x : It) : List Value := [.int .i64 x.s, .int .i64 x.t, .int .i64 x.p, .int .i64 x.m, .bool x.i, .int .i64 x.g]
def eff (x : It) : Prop := 1 ≤ x.s ∧ x.s ≤ 50 ∧ x.t < 8 ∧ 1 ≤ x.p ∧ x.p ≤ 3 ∧ x.m = 0 ∧ x.i = false ∧ 1 ≤ x.g ∧ x.g ≤ 2
def mov (x : It) : Prop := x.s = 0 ∧ x.t = 0 ∧ x.p = 0 ∧ 1 ≤ x.m ∧ x.m ≤ 64 ∧ 1 ≤ x.g ∧ x.g ≤ 2
def Ok (x : It) : Prop := x.eff ∨ x.mov
def num (x : It) : Nat := if x.m = 0 then (((x.s - 1) * 8 + x.t) * 3 + x.p - 1) * 7 + x.g else (239976 + 2 * x.m - (if x.i then 1 else 2)) * 7 + x.g
def of (k : Nat) : It := if k % 4 = 3 then ⟨0, 0, 0, 1 + k / 4 % 64, k / 256 % 2 == 1, 1 + k / 512 % 2⟩ else ⟨1 + k / 4 % 50, k / 200 % 8, 1 + k % 3, 0, false, 1 + k / 1600 % 2⟩
theorem of_ok (k : Nat) : (of k).Ok := by
  unfold of Ok eff mov
  split
  · right; simp; omega
  · left; simp; omega
theorem num_lt {x : It} (h : x.Ok) : x.num < 2000000 := by
  unfold num
  rcases h with h | h
  · unfold eff at h; rw [if_pos h.2.2.2.2.2.1]; omega
  · unfold mov at h; rw [if_neg (by omega)]; split <;> omega
theorem num_inj {x y : It} (hx : x.Ok) (hy : y.Ok) (h : x.num = y.num) : x = y := by
  obtain ⟨s, t, p, m, i, g⟩ := x
  obtain ⟨s', t', p', m', i', g'⟩ := y
  unfold num at h
  rcases hx with hx | hx <;> rcases hy with hy | hy
  · unfold eff at hx hy
    obtain ⟨h1, h2, h3, h4, h5, rfl, rfl, h8, h9⟩ := hx
    obtain ⟨k1, k2, k3, k4, k5, rfl, rfl, k8, k9⟩ := hy
    simp only [if_true] at *
    have : s = s' ∧ t = t' ∧ p = p' ∧ g = g' := by omega
    obtain ⟨rfl, rfl, rfl, rfl⟩ := this
    rfl
  · unfold eff at hx; unfold mov at hy
    obtain ⟨h1, h2, h3, h4, h5, rfl, rfl, h8, h9⟩ := hx
    obtain ⟨rfl, rfl, rfl, k4, k5, k8, k9⟩ := hy
    simp only [if_true] at *
    rw [if_neg (show ¬ m' = 0 by omega)] at h
    split at h <;> omega
  · unfold mov at hx; unfold eff at hy
    obtain ⟨h1, h2, h3, h4, h5, rfl, rfl, h8, h9⟩ := hy
    obtain ⟨rfl, rfl, rfl, k4, k5, k8, k9⟩ := hx
    simp only [if_true] at *
    rw [if_neg (show ¬ m = 0 by omega)] at h
    split at h <;> omega
  · unfold mov at hx hy
    obtain ⟨rfl, rfl, rfl, k4, k5, k8, k9⟩ := hx
    obtain ⟨rfl, rfl, rfl, j4, j5, j8, j9⟩ := hy
    simp only at *
    rw [if_neg (show ¬ m = 0 by omega), if_neg (show ¬ m' = 0 by omega)] at h
    have : m = m' ∧ i = i' ∧ g = g' := by
      cases i <;> cases i' <;> simp at h ⊢ <;> omega
    obtain ⟨rfl, rfl, rfl⟩ := this
    rfl
end It
abbrev OI := {x : It // x.Ok}
instance : Inhabited OI := ⟨⟨It.of 0, It.of_ok 0⟩⟩
def OI.cells (x : OI) : List Value := x.1.cells
def OI.num (x : OI) : Nat := x.1.num
theorem OI.cells_length (x : OI) : x.cells.length = 6 := rfl
theorem OI.inj {x y : OI} (h : x.num = y.num) : x = y := Subtype.ext (It.num_inj x.2 y.2 h)
/-- items in the order of their numbers -/
def Asc (X : List OI) : Prop := X.Pairwise fun x y => x.num < y.num
def keys (X : List OI) : List Int := X.map fun x => (x.num : Int)
theorem Asc.keysLt {X : List OI} (h : Asc X) : (keys X).Pairwise (· < ·) := by
  unfold keys
  exact List.pairwise_map.2 (h.imp fun h => by omega)
end Go.X
