/- Contracts and lemmas for the claim (part 3); no condition of its own. -/
import Derived.Test.YtjkmpaggfbghiaaGreatDoorYQC1002
import Derived.Deep.AppendSrc
import Derived.Lib.Strings
set_option linter.all false
set_option maxRecDepth 100000
set_option maxHeartbeats 0
set_option linter.unusedVariables false
set_option linter.unusedSimpArgs false
set_option linter.unnecessarySimpa false
namespace Go.X
open Go
def SOk (P : Program) (L : List Nat) : Prop := ∀ t ∈ L, P.stoodInHeld t = false ∧ P.eqGuardType P.depth t = false ∧ ∀ f ∈ (P.fieldsOf t).toList, f.name ≠ "_"
def memN (t : Nat) : List Nat → Bool
  | [] => false
  | x :: l => cond (Nat.beq x t) true (memN t l)
theorem memN_spec {t : Nat} : ∀ {l : List Nat}, memN t l = true → t ∈ l
  | x :: l, h => by
    simp only [memN] at h
    cases hb : Nat.beq x t with
    | true => rw [beq_true hb]; simp
    | false => rw [hb] at h; exact List.mem_cons_of_mem _ (memN_spec h)
def aggF (s : SV) (k : List SV → Prop) : Prop :=
  match s with
  | .agg cs => k cs
  | .v (.agg vs) => valsF vs.toList k
  | _ => False
theorem aggF_spec {s : SV} {k : List SV → Prop} (h : aggF s k) : ∃ cs, den s = .agg (denL cs).toArray ∧ k cs := by
  unfold aggF at h
  split at h
  · exact ⟨_, rfl, h⟩
  · rename_i vs
    refine ⟨_, ?_, valsF_spec h⟩
    simp [den, denL_map_v]
  · exact h.elim
def eqFs (c : Cx) (rec : Nat → SV → SV → (Bool → Prop) → Prop) (xs ys : List SV) : List Field → (Bool → Prop) → Prop
  | [], k => k true
  | f :: fs, k => loadF c f.type xs f.offset (fun a => loadF c f.type ys f.offset (fun b => rec f.type a b (fun r => eqFs c rec xs ys fs (fun r' => k (r && r')))))
def eqF (c : Cx) (L : List Nat) : Nat → Nat → SV → SV → (Bool → Prop) → Prop
  | 0, _, _, _, _ => False
  | d + 1, t, x, y, k => match c.T.get t with
    | none => False
    | some i => match i.desc with
      | .int _ => match x, y with
        | .v (.int q a), .v (.int q' b) => cond (ikEq q q') (k (decide (a = b))) False
        | _, _ => False
      | .string => match x, y with
        | .v (.string a), .v (.string b) => k (decide (a = b))
        | _, _ => False
      | .bool => match x, y with
        | .v (.bool a), .v (.bool b) => k (a == b)
        | _, _ => False
      | .struct fs => cond (memN t L) (aggF x (fun xs => aggF y (fun ys => eqFs c (eqF c L d) xs ys fs.toList k))) False
      | _ => False
def eqV (c : Cx) (L : List Nat) (t : Nat) (x y : SV) (k : Bool → Prop) : Prop :=
  match c.T.get t with
  | none => False
  | some i => match i.desc, x, y with
    | .pointer _, .loc _ _ _, .v (.pointer none) => k false
    | .pointer _, .v (.pointer (some _)), .v (.pointer none) => k false
    | .pointer _, .v (.pointer none), .v (.pointer none) => k true
    | .func _ _ _, .fn _ _, .v .nilFunc => k false
    | .func _ _ _, .v .nilFunc, .v .nilFunc => k true
    | .func _ _ _, .v (.func _ _ _), .v .nilFunc => k false
    | .map _ _, .v (.map (some _)), .v (.map none) => k false
    | .map _ _, .v (.map none), .v (.map none) => k true
    | .slice _, .slc _ _ _ _ _, .v (.slice none _ _) => k false
    | .slice _, .v (.slice none _ _), .v (.slice none _ _) => k true
    | .bool, .v (.bool a), .v (.bool b) => k (a == b)
    | .struct _, .agg xs, y => cond (memN t L) (eqF c L 8 t (.agg xs) y k) False
    | .struct _, .v (.agg xs), y => cond (memN t L) (eqF c L 8 t (.v (.agg xs)) y k) False
    | _, _, _ => False
def op2 (c : Cx) (L : List Nat) (o : Oper) (E : Env) (H : List Blk) (nx : K1) : Prop :=
  match o.op with
  | .binOp op t x y _ => match opd E x, opd E y with
    | some s, some s' => match op with
      | .eql => eqV c L t s s' (fun b => nx (.v (.bool b)) H)
      | .neq => eqV c L t s s' (fun b => nx (.v (.bool (!b))) H)
      | _ => False
    | _, _ => False
  | .indexAddr t x i => match opd E x, opd E i with
    | some (.slc b bi off len _), some (.v (.int _ (.ofNat m))) => match c.T.get t with
      | some ti => match ti.desc with
        | .slice e => match c.T.get e with
          | some j => cond (Nat.blt m len) (nx (.loc b bi (off + m * j.size)) H) False
          | none => False
        | _ => False
      | none => False
    | _, _ => False
  | _ => False
section
variable {c : Cx}
theorem part_run (hT : TOk c.P c.T) {t : Nat} {cs : List SV} {off : Nat} {k : SV → Prop} (h : loadF c t cs off k) :
    ∃ s, (∀ w, (part t (denL cs).toArray off).run c.P w = .ok (den s) w) ∧ k s := by
  unfold loadF at h
  split at h
  · rename_i i hi
    have hti := hT t i hi
    cases ha : TypeDesc.isAgg i.desc with
    | true =>
      rw [ha] at h
      obtain ⟨h1, h2⟩ := dropF_spec h
      obtain ⟨h3, h4⟩ := takeF_spec h2
      refine ⟨_, fun w => ?_, h4⟩
      unfold part
      rw [Sem.run_bind, r_isAgg hti w]
      simp only [Result.andThen_ok, ha, if_true, Sem.run_bind, r_sizeOf hti w, Sem.run_pure]
      simp [den, denL_take, denL_drop, List.extract_eq_take_drop]
    | false =>
      rw [ha] at h
      obtain ⟨s, h1, h2⟩ := nthF_spec h
      refine ⟨s, fun w => ?_, h2⟩
      unfold part
      rw [Sem.run_bind, r_isAgg hti w]
      simp [ha, denL_getElem?, h1]
  · exact h.elim
theorem eqF_spec (hT : TOk c.P c.T) {L : List Nat} (hL : SOk c.P L) : ∀ {d t : Nat} {x y : SV} {k : Bool → Prop}, eqF c L d t x y k →
    ∃ b, (∀ n w, d ≤ n → (Op.equalIn n t (den x) (den y)).run c.P w = .ok b w) ∧ k b := by
  intro d
  induction d with
  | zero => intro t x y k h; exact h.elim
  | succ d ih =>
    intro t x y k h
    unfold eqF at h
    split at h
    · exact h.elim
    · rename_i i hi
      have hu := (hT t i hi).1
      split at h
      · rename_i q hd
        rw [hd] at hu
        split at h
        · obtain ⟨rfl, g⟩ := ikc h
          refine ⟨_, fun n w hn => ?_, g⟩
          obtain ⟨n, rfl⟩ : ∃ m, n = m + 1 := ⟨n - 1, by omega⟩
          simp [den, run_equalIn_int w n t _ _ _ _ hu, int_beq]
        · exact h.elim
      · rename_i hd
        rw [hd] at hu
        split at h
        · refine ⟨_, fun n w hn => ?_, h⟩
          obtain ⟨n, rfl⟩ : ∃ m, n = m + 1 := ⟨n - 1, by omega⟩
          simp [den, run_equalIn_string w n t _ _ hu, str_beq]
        · exact h.elim
      · rename_i hd
        rw [hd] at hu
        split at h
        · refine ⟨_, fun n w hn => ?_, h⟩
          obtain ⟨n, rfl⟩ : ∃ m, n = m + 1 := ⟨n - 1, by omega⟩
          simp [den, run_equalIn_bool' w n t _ _ hu]
        · exact h.elim
      · rename_i fs hd
        rw [hd] at hu
        cases hm : memN t L with
        | false => rw [hm] at h; exact h.elim
        | true =>
          rw [hm] at h
          obtain ⟨hp, _, hnm⟩ := hL t (memN_spec hm)
          obtain ⟨xs, hx, h⟩ := aggF_spec h
          obtain ⟨ys, hy, h⟩ := aggF_spec h
          have hfs : c.P.fieldsOf t = fs := by simp [Program.fieldsOf, hu]
          rw [hfs] at hnm
          have hall : ∀ (l : List Field) (k : Bool → Prop), (∀ f ∈ l, f.name ≠ "_") → eqFs c (eqF c L d) xs ys l k →
              ∃ b, (∀ n w, d ≤ n → (Op.eqFields n (denL xs).toArray (denL ys).toArray l).run c.P w = .ok b w) ∧ k b := by
            intro l
            induction l with
            | nil => intro k _ h; exact ⟨true, fun n w _ => rfl, h⟩
            | cons f l ihl =>
              intro k hf h
              obtain ⟨a, ha, h⟩ := part_run hT h
              obtain ⟨b, hb, h⟩ := part_run hT h
              obtain ⟨r, hr, h⟩ := ih h
              obtain ⟨r', hr', h⟩ := ihl _ (fun f hf' => hf f (by simp [hf'])) h
              refine ⟨r && r', fun n w hn => ?_, h⟩
              simp only [Op.eqFields, if_pos (hf f (by simp)), Sem.run_bind, ha w, hb w, hr n w hn, Result.andThen_ok]
              cases r with
              | true => simpa using hr' n w hn
              | false => simp
          obtain ⟨b, h1, h2⟩ := hall fs.toList k hnm h
          refine ⟨b, fun n w hn => ?_, h2⟩
          obtain ⟨n, rfl⟩ : ∃ m, n = m + 1 := ⟨n - 1, by omega⟩
          rw [hx, hy, run_equalIn_agg w n t _ _ (by rw [hfs]; exact hu) hp, hfs]
          exact h1 n w (by omega)
      · exact h.elim
theorem eqV_spec (hT : TOk c.P c.T) {L : List Nat} (hL : SOk c.P L) {t : Nat} {x y : SV} {k : Bool → Prop} (h : eqV c L t x y k) :
    ∃ b, (∀ w, (Go.binOp .eql t (den x) (den y)).run c.P w = .ok (.bool b) w ∧ (Go.binOp .neq t (den x) (den y)).run c.P w = .ok (.bool (!b)) w ∧
      ∀ op ox oy, (eqGuard op t ox oy (den x) (den y)).run c.P w = .ok () w) ∧ k b := by
  unfold eqV at h
  split at h
  · exact h.elim
  · rename_i i hi
    have hu := (hT t i hi).1
    have g0 : ∀ (x y : Value) (w : World), (∀ a b, x = .agg a → y = .agg b → False) → (x = .nilIface → False) → ∀ op ox oy, (eqGuard op t ox oy x y).run c.P w = .ok () w := by
      intro x y w h1 h2 op ox oy
      unfold eqGuard
      cases op <;> first
        | rfl
        | (cases x <;> cases y <;> first | rfl | exact (h2 rfl).elim | exact (h1 _ _ rfl rfl).elim)
    have nonagg : ∀ (x y : SV) (b : Bool), (∀ n w, (Op.equalIn (n + 1) t (den x) (den y)).run c.P w = .ok b w) →
        (∀ w, (Go.binOp .eql t (den x) (den y)).run c.P w = ((Op.equal t (den x) (den y)).run c.P w).andThen fun b w' => .ok (.bool b) w') →
        (∀ w, (Go.binOp .neq t (den x) (den y)).run c.P w = ((Op.equal t (den x) (den y)).run c.P w).andThen fun b w' => .ok (.bool (!b)) w') →
        (∀ a b, den x = .agg a → den y = .agg b → False) → (den x = .nilIface → False) → k b →
        ∃ b, (∀ w, (Go.binOp .eql t (den x) (den y)).run c.P w = .ok (.bool b) w ∧ (Go.binOp .neq t (den x) (den y)).run c.P w = .ok (.bool (!b)) w ∧
          ∀ op ox oy, (eqGuard op t ox oy (den x) (den y)).run c.P w = .ok () w) ∧ k b := by
      intro x y b h1 h2 h3 h4 h5 hk
      refine ⟨b, fun w => ⟨?_, ?_, g0 _ _ w h4 h5⟩, hk⟩
      · rw [h2]; simp [Op.equal, Op.maxDepth, h1 9999 w]
      · rw [h3]; simp [Op.equal, Op.maxDepth, h1 9999 w]
    have strc : ∀ (x' y' : SV) (fs : Array Field), i.desc = .struct fs → cond (memN t L) (eqF c L 8 t x' y' k) False →
        ∃ b, (∀ w, (Go.binOp .eql t (den x') (den y')).run c.P w = .ok (.bool b) w ∧ (Go.binOp .neq t (den x') (den y')).run c.P w = .ok (.bool (!b)) w ∧
          ∀ op ox oy, (eqGuard op t ox oy (den x') (den y')).run c.P w = .ok () w) ∧ k b := by
      intro x' y' fs hd h
      rw [hd] at hu
      cases hm : memN t L with
      | false => rw [hm] at h; exact h.elim
      | true =>
        rw [hm] at h
        have h : eqF c L 8 t x' y' k := h
        obtain ⟨b, h1, h2⟩ := eqF_spec hT hL h
        have hagg : ∃ xs ys, den x' = .agg xs ∧ den y' = .agg ys := by
          unfold eqF at h
          rw [hi] at h
          simp only [hd, hm, cond_true] at h
          obtain ⟨xs, hx, h⟩ := aggF_spec h
          obtain ⟨ys, hy, h⟩ := aggF_spec h
          exact ⟨_, _, hx, hy⟩
        obtain ⟨xs, ys, hx, hy⟩ := hagg
        obtain ⟨_, hg, _⟩ := hL t (memN_spec hm)
        refine ⟨b, fun w => ⟨?_, ?_, ?_⟩, h2⟩
        · have := h1 10000 w (by omega)
          rw [hx, hy] at this ⊢
          rw [run_eql_struct, this]; rfl
        · have := h1 10000 w (by omega)
          rw [hx, hy] at this ⊢
          simp only [Go.binOp, Sem.run_bind, Op.equal, Op.maxDepth, this]
          rfl
        · intro op ox oy
          rw [hx, hy]
          unfold eqGuard
          cases op <;> first
            | rfl
            | simp [hg]
    split at h
    all_goals first
      | exact h.elim
      | skip
    case h_12 y' fs xs0 hd =>
      exact strc (.agg xs0) _ fs hd h
    case h_13 y' fs xs0 hd =>
      exact strc (.v (.agg xs0)) _ fs hd h
    all_goals
      (have hd := ‹i.desc = _›
       rw [hd] at hu
       refine nonagg _ _ _ (fun n w => ?_) (fun w => ?_) (fun w => ?_) (by intro a b e; cases e) (by intro e; cases e) h <;> simp [den, Op.equalIn, run_underlying hu, Go.binOp])
theorem OpK.val {o : Oper} {E : Env} {H : List Blk} {nx : K1} (hnd : ∀ cl, o.op ≠ .defer cl) (s : SV)
    (h : ∀ ms a w, Has c.n ms E a → Kn c.W c.S ms H w → (execOp a.eval o).run c.P w = .ok (.value (den s)) w) (hn : nx s H) : OpK c o E H nx := by
  refine ⟨?_⟩
  exact sem1_of_run hnd fun ms a w ha hk => ⟨s, H, w, h ms a w ha hk, hk, hn⟩
theorem OpK.more {L : List Nat} (hL : SOk c.P L) {o : Oper} {E : Env} {H : List Blk} {nx : K1} (h : op2 c L o E H nx) : OpK c o E H nx := by
  have hT := c.ok
  unfold op2 at h
  split at h
  · rename_i op t x y ty ho
    have hnd : ∀ cl, o.op ≠ .defer cl := by rw [ho]; intro cl e; cases e
    split at h
    · rename_i s s' hs hs'
      split at h
      · obtain ⟨b, h1, h2⟩ := eqV_spec hT hL h
        refine OpK.val hnd _ (fun ms a w ha hk => ?_) h2
        simp [execOp, ho, ha.opd hs, ha.opd hs', (h1 w).1, (h1 w).2.2, den]
      · obtain ⟨b, h1, h2⟩ := eqV_spec hT hL h
        refine OpK.val hnd _ (fun ms a w ha hk => ?_) h2
        simp [execOp, ho, ha.opd hs, ha.opd hs', (h1 w).2.1, (h1 w).2.2, den]
      · exact h.elim
    · exact h.elim
  · rename_i t x i ho
    have hnd : ∀ cl, o.op ≠ .defer cl := by rw [ho]; intro cl e; cases e
    split at h
    · rename_i b bi off len cap q m hs hi
      split at h
      · rename_i ti hti
        split at h
        · rename_i e hd
          split at h
          · rename_i j hj
            cases hb : Nat.blt m len with
            | false => rw [hb] at h; exact h.elim
            | true =>
              rw [hb] at h
              have hlt : m < len := Nat.le_of_ble_eq_true hb
              refine OpK.val hnd _ (fun ms a w ha hk => ?_) h
              have e1 := ha.opd hs
              have e2 := ha.opd hi
              simp only [den] at e1 e2
              have hu := (hT t ti hti).1
              rw [hd] at hu
              simp [execOp, ho, e1, e2, Instr.indexAt, asIntOf, run_underlying hu, r_sizeOf (hT e j hj) w, hlt, add_none, den]
          · exact h.elim
        · exact h.elim
      · exact h.elim
    · exact h.elim
  · exact h.elim
end
end Go.X

namespace Go.X
open Go
def runF (c : Cx) : Code → Env → List Blk → KC → Prop
  | .skip, E, H, k => k .nrm E H
  | .label _, E, H, k => k .nrm E H
  | .ret, E, H, k => k .ret E H
  | .exit id, E, H, k => k (.exit id) E H
  | .seq x y, E, H, k => runF c x E H (fun e E H => match e with
    | .nrm => runF c y E H k
    | .ret => k .ret E H
    | .exit j => k (.exit j) E H)
  | .cond x y z, E, H, k => condF E x (fun E => runF c y E H k) (fun E => runF c z E H k)
  | .block id b, E, H, k => runF c b E H (blockK id k)
  | .region id ops false, E, H, k => opsF c ops.toList ops.toList E H (k .nrm)
  | x, E, H, k => Run c x E H k
theorem runF.run {c : Cx} : ∀ {x : Code} {E : Env} {H : List Blk} {k : KC}, runF c x E H k → Run c x E H k
  | .skip, E, H, k, h => r_skip h
  | .label _, E, H, k, h => r_label h
  | .ret, E, H, k, h => r_ret h
  | .exit id, E, H, k, h => r_exit h
  | .seq x y, E, H, k, h => r_seq fun K hK => by
    have h1 := runF.run (x := x) h
    refine .of fun ms a w ha hk => wpIn_mono (Run.out h1 ms a w ha hk) ?_
    intro e a w hq
    have go : ∀ e E H, (match e with
      | .nrm => runF c y E H k
      | .ret => k .ret E H
      | .exit j => k (.exit j) E H) → thenK K k e E H := by
      intro e E H h
      cases e with
      | nrm => exact hK E H (runF.run h)
      | ret => exact h
      | exit j => exact h
    cases e with
    | normal => obtain ⟨ms', E', H', q1, q2, q3⟩ := hq; exact ⟨ms', E', H', q1, q2, go .nrm E' H' q3⟩
    | ret => obtain ⟨ms', E', H', q1, q2, q3⟩ := hq; exact ⟨ms', E', H', q1, q2, go .ret E' H' q3⟩
    | exit j => obtain ⟨ms', E', H', q1, q2, q3⟩ := hq; exact ⟨ms', E', H', q1, q2, go (.exit j) E' H' q3⟩
    | goto j => exact hq
    | panic j => exact hq
    | outgrown => exact hq
  | .cond x y z, E, H, k, h => r_cond fun KA hA KB hB => by
    have h : condF E x (fun E => runF c y E H k) (fun E => runF c z E H k) := h
    unfold condF at h ⊢
    split at h
    · rename_i p hp
      split at h
      · cases p with
        | true => exact hA _ (runF.run h)
        | false => exact hB _ (runF.run h)
      · cases p with
        | true => exact hA _ (runF.run h)
        | false => exact hB _ (runF.run h)
    · exact h.elim
  | .block id b, E, H, k, h => r_block (runF.run (x := b) h)
  | .region id ops false, E, H, k, h => by
    have := r_region (c := c) (id := id) (l := ops.toList) (E := E) (H := H) (k := k) h
    simpa using this
  | .region id ops true, E, H, k, h => h
  | .scope b, E, H, k, h => h
  | .loop b, E, H, k, h => h
  | .rangeFunc _ _ _ _, E, H, k, h => h
  | .goto _, E, H, k, h => h
  | .refuse _, E, H, k, h => h
theorem if_t {b : Bool} {x y : Prop} (h : b = true) (hx : x) : cond b x y := by rw [h]; exact hx
theorem if_f {b : Bool} {x y : Prop} (h : b = false) (hy : y) : cond b x y := by rw [h]; exact hy
end Go.X

namespace Go.X
open Go
def bcell (b : UInt8) : Value := .int .u8 b.toNat
def bcells (l : List UInt8) : List Value := l.map bcell
theorem bcells_length (a : List UInt8) : (bcells a).length = a.length := by simp [bcells]
def SlAt (w : World) (e : TypeId) (k : Nat) (a : Option Addr) (n cap : Nat) (cs : List Value) (b : Nat) : Prop :=
  ∃ pre post fr, a = some ⟨b, pre.length, none⟩ ∧ w.heap[b]? = some (.cells (pre ++ cs ++ post).toArray e fr) ∧ cs.length = n * k ∧ n ≤ cap ∧ (cap - n) * k ≤ post.length ∧
    (fr.1 ≠ fr.2 → k = 1 ∧ pre.length + cs.length + post.length ≤ fr.1)
theorem SlAt.loc {w w' : World} {e k a n cap cs b} (h : SlAt w e k a n cap cs b) (hb : w'.heap[b]? = w.heap[b]?) : SlAt w' e k a n cap cs b := by
  obtain ⟨pre, post, fr, h1, h2, h3⟩ := h
  exact ⟨pre, post, fr, h1, by rw [hb]; exact h2, h3⟩
def SlA (e : TypeId) (k : Nat) (a : Option Addr) (n cap : Nat) (cs : List Value) : Ass :=
  ⟨fun w S => (a = none ∧ n = 0 ∧ cap = 0 ∧ cs = []) ∨ ∃ b, S b ∧ SlAt w e k a n cap cs b, fun _ _ _ h hx => hx.imp id fun ⟨b, hb, hs⟩ => ⟨b, hb, hs.loc (h b hb)⟩⟩
theorem SlA.len {e k a n cap cs w S} (h : (SlA e k a n cap cs).holds w S) : cs.length = n * k := by
  rcases h with ⟨_, rfl, _, rfl⟩ | ⟨b, _, pre, post, fr, _, _, h, _⟩
  · simp
  · exact h
theorem setCells_heap {b : Nat} {t : TypeId} {f : Nat × Nat} : ∀ (vs : List Value) (o : Nat) (w : World) (C : List Value), w.heap[b]? = some (.cells C.toArray t f) → o + vs.length ≤ C.length →
    (w.setCells b o vs).heap[b]? = some (.cells (C.take o ++ vs ++ C.drop (o + vs.length)).toArray t f)
  | [], o, w, C, h, hl => by simp [World.setCells, h]
  | v :: vs, o, w, C, h, hl => by
    simp only [List.length_cons] at hl
    have h1 : (w.setCell ⟨b, o, none⟩ v).heap[b]? = some (.cells (C.set o v).toArray t f) := by
      simp [World.setCell, h, Array.getElem?_modify]
    rw [World.setCells, setCells_heap vs (o + 1) _ _ h1 (by simp; omega)]
    have h2 : C.set o v = C.take o ++ v :: C.drop (o + 1) := by
      rw [List.set_eq_take_append_cons_drop, if_pos (by omega)]
    have h3 : (C.take o).length = o := by rw [List.length_take]; omega
    have h4 : (C.set o v).take (o + 1) = C.take o ++ [v] := by
      rw [h2, List.take_append, h3, List.take_of_length_le (by omega), Nat.add_sub_cancel_left]
      simp
    have h5 : (C.set o v).drop (o + 1 + vs.length) = C.drop (o + (vs.length + 1)) := by
      rw [h2, List.drop_append, h3, List.drop_of_length_le (by omega), show o + 1 + vs.length - o = vs.length + 1 by omega]
      simp only [List.nil_append, List.drop_succ_cons, List.drop_drop]
      congr 1
      omega
    rw [h4, h5]
    simp
theorem setCells_other {b : Nat} : ∀ (vs : List Value) (o : Nat) (w : World) (k : Nat), k ≠ b → (w.setCells b o vs).heap[k]? = w.heap[k]?
  | [], _, _, _, _ => rfl
  | v :: vs, o, w, k, h => by
    rw [World.setCells, setCells_other vs _ _ k h]
    simp only [World.setCell, Array.getElem?_modify]
    rw [if_neg (fun e => h e.symm)]
theorem setCells_same {b : Nat} : ∀ (vs : List Value) (o : Nat) (w : World), (w.setCells b o vs).os = w.os ∧ (w.setCells b o vs).tape = w.tape ∧ (w.setCells b o vs).output = w.output ∧ (w.setCells b o vs).heap.size = w.heap.size
  | [], _, _ => ⟨rfl, rfl, rfl, rfl⟩
  | v :: vs, o, w => by
    rw [World.setCells]
    obtain ⟨h1, h2, h3, h4⟩ := setCells_same (b := b) vs (o + 1) (w.setCell ⟨b, o, none⟩ v)
    exact ⟨h1, h2, h3, by rw [h4]; simp [World.setCell]⟩
theorem info_of {P : Program} {e : Nat} {j : TI} (h : TIok P e j) : ∃ i, P.info? e = some i ∧ i.size = j.size ∧ i.bytes = j.bytes ∧ i.zero = some j.zero := by
  have := h.2
  cases hi : P.info? e with
  | none => rw [hi] at this; cases this
  | some i =>
    rw [hi] at this
    simp only [Option.map_some, Option.some.injEq, Prod.mk.injEq] at this
    exact ⟨i, rfl, this.1, this.2.1, this.2.2⟩
theorem app_core {P : Program} {t tx ty e : Nat} {j : TI} (ht : P.underlying t = some (.slice e)) (hj : TIok P e j) (hz : j.zero.cells.size = j.size)
    {a : Option Addr} {n cap : Nat} {cs : List Value} {w : World} {S : Nat → Prop} (hs : (SlA e j.size a n cap cs).holds w S) (hS : ∀ k, S k → k < w.heap.size)
    {x : Value} {m : Nat} {news : List Value} (hx : Src P j.size tx x m news w) (hbig : (n + m) * (j.bytes + 1) ≤ 140737488355328) :
    ∃ a' cap' w', (Builtin.append_ #[t, tx] ty #[.slice a n cap, x]).run P w = .ok (.slice a' (n + m) cap') w' ∧ FPost S w (SlA e j.size a' (n + m) cap' (cs ++ news)) w' := by
  obtain ⟨i, hi, hi1, hi2, hi3⟩ := info_of hj
  have hcs := SlA.len hs
  have hbig1 : (n + m) * j.bytes ≤ 140737488355328 := Nat.le_trans (Nat.mul_le_mul_left _ (Nat.le_succ _)) hbig
  have hbig2 : n + m ≤ 140737488355328 := Nat.le_trans (Nat.le_mul_of_pos_right _ (Nat.succ_pos _)) hbig
  rw [← hi1] at hx hz hcs
  by_cases hroom : n + m ≤ cap
  · rcases hs with ⟨rfl, rfl, rfl, rfl⟩ | ⟨b, hb, pre, post, fr, rfl, hh, hl, hnc, hp, hf⟩
    · obtain rfl : m = 0 := by omega
      have hn : news = [] := by have := hx.newsLen; simpa using this
      subst hn
      refine ⟨none, 0, w, ?_, ⟨rfl, rfl, rfl, Nat.le_refl _, fun _ _ _ => rfl⟩, fun _ => False, .inl ⟨rfl, rfl, rfl, rfl⟩, fun _ h => h.elim⟩
      rcases hx.kind with ⟨e', hk⟩ | hk <;> simp [Builtin.append_, run_underlying ht, run_underlying hk, sizeOf, typeInfo, hi, hx.len, hx.cells]
    · rw [← hi1] at hl hp
      have hmul : (cap - n) * i.size = (cap - n - m) * i.size + m * i.size := by rw [← Nat.add_mul]; congr 1; omega
      have hroom2 : news.length ≤ post.length := by rw [hx.newsLen]; omega
      have hcell : ∀ j, j < news.length → w.cell? ⟨b, pre.length + n * i.size + j, none⟩ = post[j]? := by
        intro j hj
        rw [cell_of hh]
        simp only [List.getElem?_toArray]
        rw [List.getElem?_append_right (by simp; omega)]
        congr 1
        simp; omega
      have hfr : ∀ j, j < news.length → w.frozen? ⟨b, pre.length + n * i.size + j, none⟩ = false := by
        intro j hj
        simp only [World.frozen?, hh]
        simp only [Bool.and_eq_false_iff, decide_eq_false_iff_not]
        by_cases hlt : fr.1 < fr.2
        · left; have := (hf (Nat.ne_of_lt hlt)).2; omega
        · by_cases h0 : fr.1 ≤ pre.length + n * i.size + j
          · right; omega
          · left; exact h0
      have hr := run_append_room_src (P := P) w t tx ty e i ht hi b pre.length n cap x m news hx hroom (fun j hj => by rw [hcell j hj, List.getElem?_eq_getElem (by omega)]; rfl) hfr
      obtain ⟨q1, q2, q3, q4⟩ := setCells_same (b := b) news (pre.length + n * i.size) w
      have hbl := hS b hb
      refine ⟨_, _, _, hr, ⟨q1, q2, q3, by rw [q4]; exact Nat.le_refl _, fun k hk hn => setCells_other _ _ _ _ (fun e => hn (e ▸ hb))⟩, fun k => k = b, .inr ⟨b, rfl, pre, post.drop news.length, fr, rfl, ?_, ?_, hroom, ?_, ?_⟩, ?_⟩
      · rw [setCells_heap news (pre.length + n * i.size) w _ hh (by simp; omega)]
        congr 3
        have e1 : (pre ++ cs ++ post).take (pre.length + n * i.size) = pre ++ cs := by
          rw [← hl, ← List.length_append, List.take_left']; rfl
        have e2 : (pre ++ cs ++ post).drop (pre.length + n * i.size + news.length) = post.drop news.length := by
          rw [← hl, ← List.length_append, List.drop_append]
          simp
        rw [e1, e2]
        simp [List.append_assoc]
      · rw [List.length_append, hcs, hx.newsLen, Nat.add_mul, hi1]
      · rw [List.length_drop, hx.newsLen, ← hi1]
        have : (cap - (n + m)) * i.size + m * i.size = (cap - n) * i.size := by rw [← Nat.add_mul]; congr 1; omega
        omega
      · intro hlt
        have := hf hlt
        rw [List.length_append, List.length_drop]
        exact ⟨this.1, by omega⟩
      · rintro k rfl
        exact ⟨by rw [q4]; exact hbl, .inl hb⟩
  · have hold : (Builtin.firstCells i.size n (.slice a n cap)).run P w.drew = .ok cs.toArray w.drew := by
      rcases hs with ⟨rfl, rfl, rfl, rfl⟩ | ⟨b, hb, pre, post, fr, rfl, hh, hl, hnc, hp, hf⟩
      · exact run_firstCells_none w.drew i.size 0 0 0
      · refine run_firstCells_some w.drew i.size n _ n cap cs hcs fun j v hj => ?_
        have hlt : j < cs.length := (List.getElem?_eq_some_iff.1 hj).1
        rw [add_none]
        have : w.drew.cell? ⟨b, pre.length + j, none⟩ = w.cell? ⟨b, pre.length + j, none⟩ := rfl
        rw [this, cell_of hh]
        simp only [List.getElem?_toArray]
        rw [List.append_assoc, List.getElem?_append_right (by omega), List.getElem?_append_left (by omega)]
        simpa using hj
    have hg : cap < n + m := by omega
    have hr := run_append_grow_src (P := P) w t tx ty e i j.zero ht hi hi3 a n cap cs hold x m news hx hg (by omega) (growslice_fits hg (by rw [hi2]; omega))
    have hge := grownCap_ge w (n + m) cap e
    have hsz : (w.drew.alloc (.cells ((cs ++ news).toArray ++ Builtin.zeroCells j.zero.cells (grownCap w (n + m) cap e - (n + m))) e)).heap.size = w.heap.size + 1 := by
      rw [heap_alloc, Array.size_push]; rfl
    refine ⟨_, _, _, hr, ⟨rfl, rfl, rfl, by rw [hsz]; omega, fun k hk _ => ?_⟩, fun k => k = w.heap.size, .inr ⟨w.heap.size, rfl, [], (Builtin.zeroCells j.zero.cells (grownCap w (n + m) cap e - (n + m))).toList, (0, 0), rfl, ?_, ?_, hge, ?_, ?_⟩, ?_⟩
    · rw [heap_alloc, Array.getElem?_push]
      rw [if_neg (by show ¬ k = w.heap.size; omega)]
      rfl
    · rw [heap_alloc]
      have : w.drew.heap.size = w.heap.size := rfl
      rw [← this, Array.getElem?_push_size]
      congr 2
      apply Array.ext'
      simp
    · rw [List.length_append, hcs, hx.newsLen, Nat.add_mul, hi1]
    · rw [Array.length_toList, size_zeroCells, hz, ← hi1]
      exact Nat.le_refl _
    · simp
    · rintro k rfl
      exact ⟨by rw [hsz]; omega, .inr (Nat.le_refl _)⟩
inductive At : List Blk → Blk → (Blk → List Blk) → Prop
  | head {x : Blk} {H : List Blk} : At (x :: H) x (fun y => y :: H)
  | tail {z x : Blk} {H : List Blk} {f : Blk → List Blk} (h : At H x f) : At (z :: H) x (fun y => z :: f y)
theorem At.spec {H : List Blk} {x : Blk} {f : Blk → List Blk} (h : At H x f) : ∃ A B, H = A ++ x :: B ∧ ∀ y, f y = A ++ y :: B := by
  induction h with
  | head => exact ⟨[], _, rfl, fun _ => rfl⟩
  | @tail z _ _ _ _ ih => obtain ⟨A, B, h1, h2⟩ := ih; exact ⟨z :: A, B, by rw [h1]; rfl, fun y => by show z :: _ = _; rw [h2]; rfl⟩
theorem Kn.upd1 {W S ms H w} {x : Blk} {f : Blk → List Blk} (hu : At H x f) (h : Kn W S ms H w) :
    ∃ T, x.ass.holds w T ∧ (∀ k, T k → k < w.heap.size) ∧ (∀ k, T k → S k ∨ W.heap.size ≤ k) ∧ ∀ (y : Blk) w', FPost T w y.ass w' → Kn W S ms (f y) w' := by
  obtain ⟨A, B, rfl, h2⟩ := hu.spec
  have hp : ∀ y, (ms.map DB ++ (A ++ y :: B)).Perm (y :: (ms.map DB ++ (A ++ B))) := by
    intro y
    rw [← List.append_assoc, ← List.append_assoc]
    exact List.perm_middle
  have h0 := Kn0.perm h (hp x)
  obtain ⟨T0, hT0, hb⟩ := h0.foot
  cases hT0 with
  | @cons _ _ T T' hx hbx hH hd =>
    refine ⟨T, (Blk.ass_holds _ _ _).2 hx, hbx, fun k hk => hb k (.inl hk), fun y w' ⟨he, S', h1, h2'⟩ => ?_⟩
    rw [h2]
    refine (Kn0.eff h0 (T := T) (fun k hk => hb k (.inl hk)) he (H' := y :: (ms.map DB ++ (A ++ B)))
      (.cons ((Blk.ass_holds _ _ _).1 h1) (fun k hk => (h2' k hk).1) (hH.mono he.size fun k hk => he.old k (hH.lt k hk) fun h => hd k h hk) fun k hk hk' => ?_) fun k hk => ?_).perm (hp y).symm
    · rcases (h2' k hk).2 with h | h
      · exact hd k h hk'
      · have := hH.lt k hk'; omega
    · rcases hk with hk | hk
      · rcases (h2' k hk).2 with h | h
        · exact .inl h
        · have := h0.size; exact .inr (.inr (by omega))
      · exact .inr (hb k (.inr hk))
theorem Kn.free {W S ms H w} (h : Kn W S ms H w) (i : Nat) {A : Ass} (hA : A.holds w (fun _ => False)) : Kn W S ms (.ext i A :: H) w := by
  obtain ⟨T, hT, hb⟩ := Kn0.foot h
  have h1 : Kn0 W S (.ext i A :: (ms.map DB ++ H)) w :=
    ⟨Kn0.os h, Kn0.tape h, Kn0.output h, Kn0.size h, Kn0.old h, _, .cons (x := .ext i A) hA (fun _ h => h.elim) hT (fun _ h _ => h), fun k hk => hk.elim False.elim (hb k)⟩
  exact Kn0.perm h1 (List.perm_middle.symm)
section
variable {c : Cx} {o : Oper} {E : Env} {H : List Blk} {nx : K1}
theorem OpK.run (hnd : ∀ cl, o.op ≠ .defer cl)
    (h : ∀ ms a w, Has c.n ms E a → Kn c.W c.S ms H w → ∃ s H' w', (execOp a.eval o).run c.P w = .ok (.value (den s)) w' ∧ Kn c.W c.S ms H' w' ∧ nx s H') : OpK c o E H nx := by
  refine ⟨?_⟩
  exact sem1_of_run hnd fun ms a w ha hk => by
    obtain ⟨s, H', w', h1, h2, h3⟩ := h ms a w ha hk
    exact ⟨s, H', w', h1, h2, h3⟩
def Sees (c : Cx) (H : List Blk) (e k : Nat) (a : Option Addr) (n cap : Nat) (cs : List Value) : Prop :=
  ∀ ms w, Kn c.W c.S ms H w → ∃ S, (SlA e k a n cap cs).holds w S ∧ ∀ k, S k → k < w.heap.size
theorem Sees.ext {i e k a n cap cs f} (hu : At H (.ext i (SlA e k a n cap cs)) f) : Sees c H e k a n cap cs := fun ms w hk => by
  obtain ⟨T, h1, h2, _⟩ := hk.upd1 hu
  exact ⟨T, h1, h2⟩
def Old (W : World) (S : Nat → Prop) (A : Ass) : Prop := ∃ T, A.holds W T ∧ ∀ k, T k → k < W.heap.size ∧ ¬ S k
theorem Old.now {W S ms H w A} (h : Old W S A) (hk : Kn W S ms H w) : ∃ T, A.holds w T ∧ ∀ k, T k → k < w.heap.size := by
  obtain ⟨T, h1, h2⟩ := h
  exact ⟨T, A.loc W w T (fun k hT => Kn0.old hk k (h2 k hT).1 (h2 k hT).2) h1, fun k hT => Nat.lt_of_lt_of_le (h2 k hT).1 (Kn0.size hk)⟩
theorem Sees.old {e k a n cap cs} (h : Old c.W c.S (SlA e k a n cap cs)) : Sees c H e k a n cap cs := fun _ _ hk => h.now hk
def SrcK (c : Cx) (H : List Blk) (k tx : Nat) (s : SV) (m : Nat) (news : List Value) : Prop :=
  ∀ ms w, Kn c.W c.S ms H w → Src c.P k tx (den s) m news w
theorem SrcK.str {tx : Nat} {ti : TI} (hti : c.T.get tx = some ti) (hd : ti.desc = .string) {b : ByteArray} : SrcK c H 1 tx (.v (.string b)) b.size (bcells b.data.toList) := fun _ w _ => by
  have hu := (c.ok tx ti hti).1
  rw [hd] at hu
  exact Src.ofString w hu b
theorem SrcK.sees {tx e e' k : Nat} {ti : TI} (hti : c.T.get tx = some ti) (hd : ti.desc = .slice e') {a n cap cs} (hs : Sees c H e k a n cap cs) (h1 : ∀ u ∈ cs, u.oneCell' = true) : SrcK c H k tx (.v (.slice a n cap)) n cs := fun ms w hk => by
  have hu := (c.ok tx ti hti).1
  rw [hd] at hu
  obtain ⟨S, h, hS⟩ := hs ms w hk
  have hl := SlA.len h
  rcases h with ⟨rfl, rfl, rfl, rfl⟩ | ⟨b, hb, pre, post, fr, rfl, hh, _, hnc, hp, hf⟩
  · exact Src.ofNil w hu 0
  · refine Src.ofSlice w hu _ n cap cs hl (fun j v hj => ?_) h1
    have hlt : j < cs.length := (List.getElem?_eq_some_iff.1 hj).1
    rw [add_none, cell_of hh]
    simp only [List.getElem?_toArray]
    rw [List.append_assoc, List.getElem?_append_right (by omega), List.getElem?_append_left (by omega)]
    simpa using hj
theorem SrcK.slc {tx e' k : Nat} {ti : TI} (hti : c.T.get tx = some ti) (hd : ti.desc = .slice e') {b i off len cap : Nat} {cs : List SV} {t : Nat} (hm : .blk i b cs t ∈ H)
    (hl : off + len * k ≤ cs.length) (h1 : allOne ((cs.drop off).take (len * k)) = true) : SrcK c H k tx (.slc b i off len cap) len (denL ((cs.drop off).take (len * k))) := fun ms w hk => by
  have hu := (c.ok tx ti hti).1
  rw [hd] at hu
  have hg := hk.got hm
  refine Src.ofSlice w hu _ len cap _ (by rw [denL_length]; simp; omega) (fun j v hj => ?_) (allOne_den h1)
  rw [add_none, cell_of hg]
  simp only [List.getElem?_toArray]
  rw [denL_take, denL_drop, List.getElem?_take] at hj
  split at hj
  · rwa [List.getElem?_drop] at hj
  · cases hj
theorem OpK.app {x y : Operand} {t tx e : Nat} {ti j : TI} (ho : o.op = .call { callee := .builtin .append, args := #[x, y], argTypes := #[t, tx] })
    {a : Option Addr} {n cap : Nat} {s : SV} (hx : opd E x = some (.v (.slice a n cap))) (hy : opd E y = some s) (hti : c.T.get t = some ti) (hd : ti.desc = .slice e) (hj : c.T.get e = some j) (hz : j.zero.cells.size = j.size) {k : Nat} (hkk : j.size = k)
    {i : Nat} {cs : List Value} {f : Blk → List Blk} (hu : At H (.ext i (SlA e k a n cap cs)) f) {m : Nat} {news : List Value} (hs : SrcK c H k tx s m news) (hbig : (n + m) * (j.bytes + 1) ≤ 140737488355328)
    (h : ∀ a' cap', nx (.v (.slice a' (n + m) cap')) (f (.ext i (SlA e k a' (n + m) cap' (cs ++ news))))) : OpK c o E H nx := by
  subst hkk
  have hnd : ∀ cl, o.op ≠ .defer cl := by rw [ho]; intro cl e; cases e
  refine OpK.run hnd fun ms ac w ha hk => ?_
  obtain ⟨T, h1, h2, h3, h4⟩ := hk.upd1 hu
  have hu := (c.ok t ti hti).1
  rw [hd] at hu
  obtain ⟨a', cap', w', hr, hp⟩ := app_core (ty := o.type) hu (c.ok e j hj) hz h1 h2 (hs ms w hk) hbig
  refine ⟨_, _, w', ?_, h4 (.ext i (SlA e j.size a' (n + m) cap' (cs ++ news))) w' hp, h a' cap'⟩
  have e1 := ha.opd hx
  have e2 := ha.opd hy
  simp only [den] at e1
  simp [execOp, ho, resolve, invoke, builtin, e1, e2, hr, den]
theorem OpK.app0 {x y : Operand} {t tx e : Nat} {ti j : TI} (ho : o.op = .call { callee := .builtin .append, args := #[x, y], argTypes := #[t, tx] })
    {s : SV} (hx : opd E x = some (.v (.slice none 0 0))) (hy : opd E y = some s) (hti : c.T.get t = some ti) (hd : ti.desc = .slice e) (hj : c.T.get e = some j) (hz : j.zero.cells.size = j.size) {k : Nat} (hkk : j.size = k)
    {m : Nat} {news : List Value} (hs : SrcK c H k tx s m news) (hbig : m * (j.bytes + 1) ≤ 140737488355328)
    (h : nextF H fun i => ∀ a' cap', nx (.v (.slice a' m cap')) (.ext i (SlA e k a' m cap' news) :: H)) : OpK c o E H nx := by
  subst hkk
  have hnd : ∀ cl, o.op ≠ .defer cl := by rw [ho]; intro cl e; cases e
  obtain ⟨i, h⟩ := nextF_spec h
  refine OpK.run hnd fun ms ac w ha hk => ?_
  obtain ⟨T, h1, h2, h3, h4⟩ := (hk.free i (A := SlA e j.size none 0 0 []) (.inl ⟨rfl, rfl, rfl, rfl⟩)).upd1 .head
  have hu := (c.ok t ti hti).1
  rw [hd] at hu
  obtain ⟨a', cap', w', hr, hp⟩ := app_core (ty := o.type) hu (c.ok e j hj) hz h1 h2 (hs ms w hk) (by simpa using hbig)
  rw [Nat.zero_add] at hr hp
  refine ⟨_, _, w', ?_, h4 (.ext i (SlA e j.size a' m cap' news)) w' hp, h a' cap'⟩
  have e1 := ha.opd hx
  have e2 := ha.opd hy
  simp only [den] at e1
  simp [execOp, ho, resolve, invoke, builtin, e1, e2, hr, den]
def PC (c : Cx) (H : List Blk) (b off : Nat) (cs : List SV) : Prop :=
  ∀ ms w, Kn c.W c.S ms H w → ∃ C t f, w.heap[b]? = some (.cells C t f) ∧ ∀ j v, (denL cs)[j]? = some v → C[off + j]? = some v
theorem PC.field {b off : Nat} {cs : List SV} (k : Nat) (h : PC c H b off cs) : PC c H b (off + k) (cs.drop k) := fun ms w hk => by
  obtain ⟨C, t, f, h1, h2⟩ := h ms w hk
  refine ⟨C, t, f, h1, fun j v hj => ?_⟩
  rw [denL_drop, List.getElem?_drop] at hj
  have := h2 _ _ hj
  rwa [← Nat.add_assoc] at this
theorem OpK.ldp {t : Nat} {x : Operand} (ho : o.op = .load t x) {b off : Nat} {cs : List SV} (hx : opd E x = some (.v (.pointer (some ⟨b, off, none⟩)))) (hp : PC c H b off cs) (hne : cs ≠ []) (h : loadF c t cs 0 (fun s => nx s H)) : OpK c o E H nx := by
  have hnd : ∀ cl, o.op ≠ .defer cl := by rw [ho]; intro cl e; cases e
  unfold loadF at h
  split at h
  · rename_i i hi
    have hti := c.ok t i hi
    cases ha : TypeDesc.isAgg i.desc with
    | true =>
      rw [ha] at h
      obtain ⟨h1, h2⟩ := takeF_spec (show takeF i.size cs (fun l => nx (.agg l) H) from h)
      refine OpK.run hnd fun ms ac w hac hk => ⟨_, H, w, ?_, hk, h2⟩
      obtain ⟨C, t', f, h3, h4⟩ := hp ms w hk
      have e1 := hac.opd hx
      simp only [den] at e1
      have hsz : ∀ j, j < i.size → C[off + j]? = (denL cs)[j]? := fun j hj => by
        have : j < (denL cs).length := by rw [denL_length]; omega
        rw [h4 j _ (List.getElem?_eq_getElem this), List.getElem?_eq_getElem this]
      have hC : off + i.size ≤ C.size := by
        cases hz : i.size with
        | zero =>
          have h0 : 0 < (denL cs).length := by rw [denL_length]; exact List.length_pos_iff.2 hne
          have := h4 0 _ (List.getElem?_eq_getElem h0)
          have := (Array.getElem?_eq_some_iff.1 this).1
          omega
        | succ m =>
          have := hsz m (by omega)
          rw [List.getElem?_eq_getElem (by rw [denL_length]; omega)] at this
          have := (Array.getElem?_eq_some_iff.1 this).1
          omega
      have h5 := (r_loadVar hti h3).1 ha hC
      have h6 : (C.toList.drop off).take i.size = denL (cs.take i.size) := by
        apply List.ext_getElem?
        intro j
        rw [denL_take, List.getElem?_take, List.getElem?_take]
        split
        · rename_i hj
          rw [List.getElem?_drop, Array.getElem?_toList, hsz j hj]
        · rfl
      simp [execOp, ho, e1, Instr.loadAt, Instr.sureAddr, h5, den, h6]
    | false =>
      rw [ha] at h
      obtain ⟨s, h1, h2⟩ := nthF_spec (show nthF 0 cs (fun s => nx s H) from h)
      refine OpK.run hnd fun ms ac w hac hk => ⟨_, H, w, ?_, hk, h2⟩
      obtain ⟨C, t', f, h3, h4⟩ := hp ms w hk
      have e1 := hac.opd hx
      simp only [den] at e1
      have h5 := (r_loadVar hti h3 (off := off)).2 ha (den s) (by simpa using h4 0 _ (by rw [denL_getElem?, h1]; rfl))
      simp [execOp, ho, e1, Instr.loadAt, Instr.sureAddr, h5]
  · exact h.elim
theorem OpK.fap {t f : Nat} {x : Operand} (ho : o.op = .fieldAddr t x f) {b off : Nat} {cs : List SV} (hx : opd E x = some (.v (.pointer (some ⟨b, off, none⟩)))) (hp : PC c H b off cs)
    (h : fieldF c t f (fun k => PC c H b (off + k) (cs.drop k) → nx (.v (.pointer (some ⟨b, off + k, none⟩))) H)) : OpK c o E H nx := by
  have hnd : ∀ cl, o.op ≠ .defer cl := by rw [ho]; intro cl e; cases e
  obtain ⟨i, fs, fd, j, h1, h2, h3, h4, h5, h6⟩ := fieldF_spec h
  refine OpK.run hnd fun ms ac w hac hk => ?_
  have hf : fieldF c t f (fun k => k = fd.offset) := by
    unfold fieldF
    simp only [h1, h2, h3, h4]
    split
    · exact absurd (by assumption) h5
    · trivial
  obtain ⟨m, hr, rfl⟩ := r_fieldAt c.ok hf b off w
  refine ⟨_, H, w, ?_, hk, h6 (hp.field _)⟩
  have e1 := hac.opd hx
  simp only [den] at e1
  simp [execOp, ho, e1, hr, den]
theorem OpK.idx {t e : Nat} {x ix : Operand} {ti j : TI} (ho : o.op = .indexAddr t x ix) {a : Option Addr} {n cap : Nat} {q : IntKind} {z : Int} (hx : opd E x = some (.v (.slice a n cap))) (hi : opd E ix = some (.v (.int q z)))
    (hti : c.T.get t = some ti) (hd : ti.desc = .slice e) (hj : c.T.get e = some j) {k : Nat} (hkk : j.size = k) {cs : List Value} (hs : Sees c H e k a n cap cs) (h0 : 0 ≤ z) (hlt : z < n) {ecs : List SV} (hc : (cs.drop (z.toNat * k)).take k = denL ecs)
    (h : ∀ b off, PC c H b off ecs → nx (.v (.pointer (some ⟨b, off, none⟩))) H) : OpK c o E H nx := by
  subst hkk
  have hnd : ∀ cl, o.op ≠ .defer cl := by rw [ho]; intro cl e; cases e
  refine OpK.run hnd fun ms ac w hac hk => ?_
  have hu := (c.ok t ti hti).1
  rw [hd] at hu
  obtain ⟨S, hS, _⟩ := hs ms w hk
  rcases hS with ⟨_, rfl, _, _⟩ | ⟨b, hb, pre, post, fr, rfl, hh, hl, hnc, hp, hf⟩
  · omega
  · have e1 := hac.opd hx
    have e2 := hac.opd hi
    simp only [den] at e1 e2
    refine ⟨_, H, w, ?_, hk, h b (pre.length + z.toNat * j.size) ?_⟩
    · simp [execOp, ho, e1, e2, Instr.indexAt, asIntOf, run_underlying hu, r_sizeOf (c.ok e j hj) w, hlt, h0, add_none, den]
    · intro ms' w' hk'
      obtain ⟨S', hS', _⟩ := hs ms' w' hk'
      rcases hS' with ⟨hn, _⟩ | ⟨b', hb', pre', post', fr', he, hh', hl', hnc', hp', hf'⟩
      · cases hn
      · simp only [Option.some.injEq, Addr.mk.injEq, and_true] at he
        obtain ⟨rfl, he⟩ := he
        refine ⟨_, _, _, hh', fun m v hm => ?_⟩
        rw [← hc, List.getElem?_take] at hm
        split at hm
        · rw [List.getElem?_drop] at hm
          have hlt : z.toNat * j.size + m < cs.length := (List.getElem?_eq_some_iff.1 hm).1
          simp only [List.getElem?_toArray]
          rw [List.append_assoc, List.getElem?_append_right (by omega), List.getElem?_append_left (by omega)]
          rw [show pre.length + z.toNat * j.size + m - pre'.length = z.toNat * j.size + m by omega]
          exact hm
        · cases hm
end
end Go.X

namespace Go.X
open Go
section
variable {c : Cx} {o : Oper} {E : Env} {H : List Blk} {nx : K1}
def bnd (E : Env) (o : Option Operand) (d : Int) (k : Int → Prop) : Prop :=
  match o with
  | none => k d
  | some x => match opd E x with
    | some (.v (.int _ z)) => k z
    | _ => False
theorem bnd_spec {E : Env} {o : Option Operand} {d : Int} {k : Int → Prop} (h : bnd E o d k) :
    ∃ z, k z ∧ ((o = none ∧ z = d) ∨ ∃ x q, o = some x ∧ opd E x = some (.v (.int q z))) := by
  unfold bnd at h
  split at h
  · exact ⟨d, h, .inl ⟨rfl, rfl⟩⟩
  · split at h
    · rename_i x _ q z hx
      exact ⟨z, h, .inr ⟨x, q, rfl, hx⟩⟩
    · exact h.elim
theorem run_bounds {n ms a} (ha : Has n ms E a) {lo hi : Option Operand} {len cap : Nat} {l h : Int} {sl : Bool} (P : Program) (w : World)
    (hl : (lo = none ∧ l = 0) ∨ ∃ x q, lo = some x ∧ opd E x = some (.v (.int q l))) (hh : (hi = none ∧ h = len) ∨ ∃ x q, hi = some x ∧ opd E x = some (.v (.int q h)))
    (h0 : 0 ≤ l) (h1 : l ≤ h) (h2 : h ≤ cap) :
    (Instr.sliceBounds sl len cap (lo.map a.eval) (hi.map a.eval) none).run P w = .ok (l.toNat, h.toNat, cap) w := by
  have hb : (Instr.sliceBounds sl len cap none (hi.map a.eval) none).run P w = .ok (0, h.toNat, cap) w := by
    rcases hh with ⟨rfl, rfl⟩ | ⟨x, q, rfl, hx⟩
    · simp [Instr.sliceBounds]
    · have e := ha.opd hx
      simp only [den] at e
      simp [Instr.sliceBounds, e, run_sliceBound w q h cap _ (by omega) h2]
  rcases hl with ⟨rfl, rfl⟩ | ⟨x, q, rfl, hx⟩
  · simpa using hb
  · have e := ha.opd hx
    simp only [den] at e
    rcases hh with ⟨rfl, rfl⟩ | ⟨y, q', rfl, hy⟩
    · simp [Instr.sliceBounds, e, run_sliceBound w q l len _ h0 h1]
    · have e' := ha.opd hy
      simp only [den] at e'
      have hl' : l ≤ (h.toNat : Int) := by omega
      simp [Instr.sliceBounds, e, e', run_sliceBound w q' h cap _ (by omega) h2, run_sliceBound w q l h.toNat _ h0 hl']
theorem OpK.slS {t : Nat} {x : Operand} {lo hi : Option Operand} {ti : TI} (ho : o.op = .slice t x lo hi none) {s : ByteArray} (hx : opd E x = some (.v (.string s))) (hti : c.T.get t = some ti) (hd : ti.desc = .string)
    (h : bnd E lo 0 fun l => bnd E hi s.size fun u => 0 ≤ l ∧ l ≤ u ∧ u ≤ s.size ∧ nx (.v (.string (s.extract l.toNat u.toNat))) H) : OpK c o E H nx := by
  have hnd : ∀ cl, o.op ≠ .defer cl := by rw [ho]; intro cl e; cases e
  obtain ⟨l, h, hl⟩ := bnd_spec h
  obtain ⟨u, ⟨h0, h1, h2, h⟩, hh⟩ := bnd_spec h
  refine OpK.val hnd _ (fun ms a w ha hk => ?_) h
  have hu := (c.ok t ti hti).1
  rw [hd] at hu
  have e1 := ha.opd hx
  simp only [den] at e1
  simp only [execOp, ho, e1, Option.map_none, Sem.run_bind, run_sliceAt_string w t _ _ _ _ hu, Instr.slice, run_underlying hu, Result.andThen_ok]
  simp [run_bounds ha c.P w hl hh h0 h1 h2, den]
theorem SlAt.part {w : World} {e k : Nat} {a : Option Addr} {n cap : Nat} {cs : List Value} {b : Nat} (h : SlAt w e k a n cap cs b) {l u : Nat} (h1 : l ≤ u) (h2 : u ≤ n) :
    SlAt w e k (if cap = l then a else a.map (·.add (l * k))) (u - l) (cap - l) ((cs.drop (l * k)).take ((u - l) * k)) b := by
  obtain ⟨pre, post, fr, rfl, hh, hl, hnc, hp, hf⟩ := h
  have e1 : cs = cs.take (l * k) ++ ((cs.drop (l * k)).take ((u - l) * k) ++ (cs.drop (l * k)).drop ((u - l) * k)) := by
    rw [List.take_append_drop, List.take_append_drop]
  have hlk : l * k ≤ n * k := Nat.mul_le_mul_right _ (by omega)
  have huk : (u - l) * k + l * k ≤ n * k := by rw [← Nat.add_mul]; exact Nat.mul_le_mul_right _ (by omega)
  have hrest : (cap - l - (u - l)) * k = (cap - n) * k + (n - u) * k := by rw [← Nat.add_mul]; congr 1; omega
  have hnu : (n - u) * k + u * k = n * k := by rw [← Nat.add_mul]; congr 1; omega
  have hul : (u - l) * k + l * k = u * k := by rw [← Nat.add_mul]; congr 1; omega
  by_cases hcl : cap = l
  · have hln : l = n := by omega
    have hun : u = n := by omega
    subst hln hun
    subst hcl
    refine ⟨pre, cs ++ post, fr, by rw [if_pos rfl], by rw [hh]; simp, by simp, by omega, by simp, fun hlt => ?_⟩
    have := hf hlt
    refine ⟨this.1, ?_⟩
    simp; omega
  refine ⟨pre ++ cs.take (l * k), (cs.drop (l * k)).drop ((u - l) * k) ++ post, fr, ?_, ?_, ?_, by omega, ?_, ?_⟩
  · have hpl : (pre ++ cs.take (l * k)).length = pre.length + l * k := by simp; omega
    rw [hpl, if_neg hcl]
    simp [add_none]
  · rw [hh]
    congr 3
    conv => lhs; rw [e1]
    simp [List.append_assoc]
  · simp; omega
  · simp; omega
  · intro hlt
    have := hf hlt
    refine ⟨this.1, ?_⟩
    simp; omega
theorem SlA.part {w : World} {S : Nat → Prop} {e k : Nat} {a : Option Addr} {n cap : Nat} {cs : List Value} (h : (SlA e k a n cap cs).holds w S) {l u : Nat} (h1 : l ≤ u) (h2 : u ≤ n) :
    (SlA e k (if cap = l then a else a.map (·.add (l * k))) (u - l) (cap - l) ((cs.drop (l * k)).take ((u - l) * k))).holds w S := by
  rcases h with ⟨rfl, rfl, rfl, rfl⟩ | ⟨b, hb, hs⟩
  · exact .inl ⟨by simp, by omega, by omega, by simp⟩
  · exact .inr ⟨b, hb, hs.part h1 h2⟩
theorem Kn.same {W S ms H w} {x y : Blk} {f : Blk → List Blk} (hu : At H x f) (h : Kn W S ms H w) (hxy : ∀ T, x.ass.holds w T → y.ass.holds w T) : Kn W S ms (f y) w := by
  obtain ⟨T, h1, h2, _, h4⟩ := h.upd1 hu
  exact h4 y w ⟨⟨rfl, rfl, rfl, Nat.le_refl _, fun _ _ _ => rfl⟩, T, hxy T h1, fun k hk => ⟨h2 k hk, .inl hk⟩⟩
theorem run_sl {t e : Nat} {x : Operand} {lo hi : Option Operand} {ti j : TI} (ho : o.op = .slice t x lo hi none) {a : Option Addr} {n cap : Nat} (hx : opd E x = some (.v (.slice a n cap)))
    (hti : c.T.get t = some ti) (hd : ti.desc = .slice e) (hj : c.T.get e = some j) {l u : Int}
    (hl : (lo = none ∧ l = 0) ∨ ∃ x q, lo = some x ∧ opd E x = some (.v (.int q l))) (hh : (hi = none ∧ u = n) ∨ ∃ x q, hi = some x ∧ opd E x = some (.v (.int q u)))
    (h0 : 0 ≤ l) (h1 : l ≤ u) (h2 : u ≤ cap) {ms ac w} (ha : Has c.n ms E ac) :
    (execOp ac.eval o).run c.P w = .ok (.value (.slice (if cap = l.toNat then a else a.map (·.add (l.toNat * j.size))) (u.toNat - l.toNat) (cap - l.toNat))) w := by
  have hu := (c.ok t ti hti).1
  rw [hd] at hu
  have e1 := ha.opd hx
  simp only [den] at e1
  simp [execOp, ho, e1, Instr.sliceAt, Instr.slice, run_underlying hu, run_bounds ha c.P w hl hh h0 h1 h2, r_sizeOf (c.ok e j hj) w]
theorem OpK.slR {t e : Nat} {x : Operand} {lo hi : Option Operand} {ti j : TI} (ho : o.op = .slice t x lo hi none) {a : Option Addr} {n cap : Nat} (hx : opd E x = some (.v (.slice a n cap)))
    (hti : c.T.get t = some ti) (hd : ti.desc = .slice e) (hj : c.T.get e = some j) {k : Nat} (hkk : j.size = k) {cs : List Value} (hs : Sees c H e k a n cap cs)
    (h : bnd E lo 0 fun l => bnd E hi n fun u => 0 ≤ l ∧ l ≤ u ∧ u ≤ n ∧ ∀ a', Sees c H e k a' (u.toNat - l.toNat) (cap - l.toNat) ((cs.drop (l.toNat * k)).take ((u.toNat - l.toNat) * k)) →
      nx (.v (.slice a' (u.toNat - l.toNat) (cap - l.toNat))) H) : OpK c o E H nx := by
  subst hkk
  have hnd : ∀ cl, o.op ≠ .defer cl := by rw [ho]; intro cl e; cases e
  obtain ⟨l, h, hl⟩ := bnd_spec h
  obtain ⟨u, ⟨h0, h1, h2, h⟩, hh⟩ := bnd_spec h
  refine OpK.run hnd fun ms ac w ha hk => ?_
  have hle : n ≤ cap := by
    obtain ⟨T, h3, _⟩ := hs ms w hk
    rcases h3 with ⟨_, rfl, rfl, _⟩ | ⟨b, _, pre, post, fr, _, _, _, h, _⟩
    · omega
    · exact h
  refine ⟨.v _, H, w, run_sl ho hx hti hd hj hl hh h0 h1 (by omega) ha, hk, h _ fun ms' w' hk' => ?_⟩
  obtain ⟨T, h3, h4⟩ := hs ms' w' hk'
  exact ⟨T, SlA.part h3 (by omega) (by omega), h4⟩
theorem OpK.sIx {t : Nat} {x ix : Operand} {ti : TI} (ho : o.op = .index t x ix) {s : ByteArray} {q : IntKind} {z : Int} (hx : opd E x = some (.v (.string s))) (hi : opd E ix = some (.v (.int q z)))
    (hti : c.T.get t = some ti) (hd : ti.desc = .string) (h0 : 0 ≤ z) {b : UInt8} (hb : s.data.toList[z.toNat]? = some b) (h : nx (.v (.int .u8 b.toNat)) H) : OpK c o E H nx := by
  have hnd : ∀ cl, o.op ≠ .defer cl := by rw [ho]; intro cl e; cases e
  refine OpK.val hnd _ (fun ms ac w ha hk => ?_) h
  have hu := (c.ok t ti hti).1
  rw [hd] at hu
  have e1 := ha.opd hx
  have e2 := ha.opd hi
  simp only [den] at e1 e2
  have hb' : s[z.toNat]? = some b := by
    obtain ⟨hlt, he⟩ := List.getElem?_eq_some_iff.1 hb
    have hlt' : z.toNat < s.size := by simpa using hlt
    rw [getElem?_pos s z.toNat hlt']
    congr 1
  simp [execOp, ho, e1, e2, Instr.index, asIntOf, run_underlying hu, h0, hb', den]
end
end Go.X

namespace Go.X
open Go
section
variable {c : Cx} {o : Oper} {E : Env} {H : List Blk} {nx : K1}
theorem WrapK.eq {k : IntKind} {z z' : Int} {f : Int → Prop} (h : k.wrap z = z') (hf : f z') : WrapK k z f := ⟨by rw [h]; exact hf⟩
theorem QuoK.eq {k : IntKind} {x y z : Int} {f : Int → Prop} (h0 : y ≠ 0) (h : k.wrap (x.tdiv y) = z) (hf : f z) : QuoK k x y f := ⟨by rw [h]; exact ⟨h0, hf⟩⟩
theorem RemK.eq {x y z : Int} {f : Int → Prop} (h0 : y ≠ 0) (h : x.tmod y = z) (hf : f z) : RemK x y f := ⟨by rw [h]; exact ⟨h0, hf⟩⟩
theorem BitK.eq {op : BinOp} {k : IntKind} {x y z : Int} {f : Int → Prop} (h : k.wrap (bitN op k x y) = z) (hf : f z) : BitK op k x y f := ⟨by rw [h]; exact hf⟩
theorem OpK.shl {t t' : Nat} {x y : Operand} (ho : o.op = .binOp .shl t x y t') {k q : IntKind} {a b : Int} (hx : opd E x = some (.v (.int k a))) (hy : opd E y = some (.v (.int q b))) (h0 : 0 ≤ b) {z : Int}
    (hz : k.wrap (a * 2 ^ min b.toNat k.bits) = z) (h : nx (.v (.int k z)) H) : OpK c o E H nx := by
  have hnd : ∀ cl, o.op ≠ .defer cl := by rw [ho]; intro cl e; cases e
  refine OpK.val hnd _ (fun ms ac w ha hk => ?_) h
  have e1 := ha.opd hx
  have e2 := ha.opd hy
  simp only [den] at e1 e2
  subst hz
  simp [execOp, ho, e1, e2, eqGuard, Go.binOp, Op.shift, show ¬ b < 0 by omega, den]
theorem OpK.shr {t t' : Nat} {x y : Operand} (ho : o.op = .binOp .shr t x y t') {k q : IntKind} {a b : Int} (hx : opd E x = some (.v (.int k a))) (hy : opd E y = some (.v (.int q b))) (h0 : 0 ≤ b) {z : Int}
    (hz : a.fdiv (2 ^ min b.toNat k.bits) = z) (h : nx (.v (.int k z)) H) : OpK c o E H nx := by
  have hnd : ∀ cl, o.op ≠ .defer cl := by rw [ho]; intro cl e; cases e
  refine OpK.val hnd _ (fun ms ac w ha hk => ?_) h
  have e1 := ha.opd hx
  have e2 := ha.opd hy
  simp only [den] at e1 e2
  subst hz
  simp [execOp, ho, e1, e2, eqGuard, Go.binOp, Op.shift, show ¬ b < 0 by omega, den]
theorem if_decT {p : Prop} [Decidable p] {x y : Prop} (hp : p) (hx : x) : cond (decide p) x y := by rw [decide_eq_true hp]; exact hx
theorem if_decF {p : Prop} [Decidable p] {x y : Prop} (hp : ¬ p) (hy : y) : cond (decide p) x y := by rw [decide_eq_false hp]; exact hy
theorem if_ndecT {p : Prop} [Decidable p] {x y : Prop} (hp : ¬ p) (hx : x) : cond (!decide p) x y := by rw [decide_eq_false hp]; exact hx
theorem if_ndecF {p : Prop} [Decidable p] {x y : Prop} (hp : p) (hy : y) : cond (!decide p) x y := by rw [decide_eq_true hp]; exact hy
end
def numG : Nat → Nat → List UInt8 → Nat × Nat
  | _, _, [] => (0, 0)
  | i, a, c :: l => if (i = 9 ∧ 1 < c.toNat) ∨ (0 < i ∧ c.toNat = 0) then (0, 0) else if c.toNat < 128 then (a + c.toNat % 128 * 2 ^ (7 * i), i + 1) else numG (i + 1) (a + c.toNat % 128 * 2 ^ (7 * i)) l
def numR (l : List UInt8) : Nat × Nat := numG 0 0 l
end Go.X

namespace Go.X
open Go
def FrZ {α : Type} (P : Program) (f : FuncId) (args : Array Value) (w : World) (A : Ass) (v : α → Value) (A' : α → Ass) : Prop :=
  ∀ S, A.holds w S → (∀ k, S k → k < w.heap.size) → CT P f args w (fun e w' => ∃ z, e = .returned (v z) ∧ FPost S w (A' z) w')
def emp : Ass := ⟨fun _ S => ∀ k, ¬ S k, fun _ _ _ _ h => h⟩
def RdS (w : World) (e k : Nat) (a : Option Addr) (n cap : Nat) (cs : List Value) : Prop := ∃ T, (SlA e k a n cap cs).holds w T ∧ ∀ k, T k → k < w.heap.size
theorem RdS.oldE {w e k a n cap cs S} (h : RdS w e k a n cap cs) (hS : emp.holds w S) : Old w S (SlA e k a n cap cs) := by
  obtain ⟨T, h1, h2⟩ := h
  exact ⟨T, h1, fun k hk => ⟨h2 k hk, hS k⟩⟩
theorem RdS.old {w e k a n cap cs} (h : RdS w e k a n cap cs) : Old w noS (SlA e k a n cap cs) := by
  obtain ⟨T, h1, h2⟩ := h
  exact ⟨T, h1, fun k hk => ⟨h2 k hk, id⟩⟩
theorem RdS.len {w e k a n cap cs} (h : RdS w e k a n cap cs) : cs.length = n * k := by
  obtain ⟨T, h1, _⟩ := h
  exact SlA.len h1
section
variable {c : Cx} {o : Oper} {E : Env} {H : List Blk} {nx : K1}
theorem Sees.rd {e k a n cap cs ms w} (h : Sees c H e k a n cap cs) (hk : Kn c.W c.S ms H w) : RdS w e k a n cap cs := h ms w hk
theorem CallK.frZ {α : Type} {g : FuncId} {l : List SV} {x : Blk} {f : Blk → List Blk} {v : α → Value} {A' : α → Ass} (i : Nat)
    (hu : At H x f) (h : ∀ ms w, Kn c.W c.S ms H w → FrZ c.P g (denL l).toArray w x.ass v A') (hn : ∀ z, nx (.v (v z)) (f (.ext i (A' z)))) : CallK c g l H nx := by
  refine CallK.gen fun ms w hk => ?_
  obtain ⟨T, h1, h2, _, h3⟩ := hk.upd1 hu
  refine (h ms w hk T h1 h2).mono ?_
  rintro e w' ⟨z, rfl, hp⟩
  exact ⟨.v (v z), _, rfl, h3 (.ext i (A' z)) w' hp, hn z⟩
theorem CallK.fr1 {g : FuncId} {l : List SV} {x : Blk} {f : Blk → List Blk} {v : Value} {A' : Ass} (i : Nat)
    (hu : At H x f) (h : ∀ ms w, Kn c.W c.S ms H w → Fr c.P g (denL l).toArray w x.ass v A') (hn : nx (.v v) (f (.ext i A'))) : CallK c g l H nx := by
  refine CallK.gen fun ms w hk => ?_
  obtain ⟨T, h1, h2, _, h3⟩ := hk.upd1 hu
  refine (h ms w hk T h1 h2).mono ?_
  rintro e w' ⟨rfl, hp⟩
  exact ⟨.v v, _, rfl, h3 (.ext i A') w' hp, hn⟩
theorem CallK.fresh {α : Type} {g : FuncId} {l : List SV} {v : α → Value} {A' : α → Ass}
    (h : ∀ ms w, Kn c.W c.S ms H w → FrZ c.P g (denL l).toArray w emp v A') (hn : nextF H fun i => ∀ z, nx (.v (v z)) (.ext i (A' z) :: H)) : CallK c g l H nx := by
  obtain ⟨i, hn⟩ := nextF_spec hn
  refine CallK.gen fun ms w hk => ?_
  obtain ⟨T, h1, h2, _, h3⟩ := (hk.free i (A := emp) (fun _ h => h)).upd1 .head
  refine (h ms w hk T h1 h2).mono ?_
  rintro e w' ⟨z, rfl, hp⟩
  exact ⟨.v (v z), _, rfl, h3 (.ext i (A' z)) w' hp, hn z⟩
theorem enter_frZ {α : Type} {P : Program} {T : TR} (hT : TOk P T) {f : FuncId} {fn : Func} {x : Code} {W : World} {A : Ass} {A' : α → Ass} {v : α → Value} {n : Nat} {H : List Blk}
    (hA : ∀ S, A.holds W S → (∀ k, S k → k < W.heap.size) → ∃ T, Holds W H T ∧ ∀ k, T k → S k)
    (hf : P.funcs[f]? = some fn) (hb : fn.body = some x) (hnm : (fn.name == "runtime.NumGoroutine") = false) (hn : fn.ntmps = n)
    (args : List SV) (hlen : Nat.ble (lenL args) n = true) {rs : List ResultVar} (hrs : fn.results.toList = rs)
    (h' : ∀ S, A.holds W S → (∀ k, S k → k < W.heap.size) → envF 0 args (fun E => Run ⟨P, T, n, W, S, none, hT⟩ x E H (endF ⟨P, T, n, W, S, none, hT⟩ rs (fun e w' => ∃ z, e = .returned (v z) ∧ FPost S W (A' z) w')))) :
    FrZ P f (denL args).toArray W A v A' := by
  intro S hS hlt
  obtain ⟨T, h1, h2⟩ := hA S hS hlt
  exact enter_sound hT hf hb hnm hn args (Kn.init h1 h2) hlen hrs (h' S hS hlt)
theorem emp_foot {W : World} : ∀ S, emp.holds W S → (∀ k, S k → k < W.heap.size) → ∃ T, Holds W [] T ∧ ∀ k, T k → S k :=
  fun _ _ _ => ⟨_, .nil, fun _ h => h.elim⟩
theorem FinK.frZ {α : Type} {P : Program} {T : TR} {n : Nat} {W : World} {S : Nat → Prop} {r : Option Nat} {hT : TOk P T} {v : α → Value} {s : SV} {H : List Blk} {A' : α → Ass} {i : Nat} (z : α) (hs : den s = v z) (hH : HSub [.ext i (A' z)] H) :
    FinK ⟨P, T, n, W, S, r, hT⟩ (fun e w' => ∃ z, e = .returned (v z) ∧ FPost S W (A' z) w') s H := by
  refine FinK.mk fun w hk => ⟨z, by rw [hs], ⟨Kn0.os hk, Kn0.tape hk, Kn0.output hk, Kn0.size hk, Kn0.old hk⟩, ?_⟩
  obtain ⟨T, h1, h2⟩ := Kn0.foot (hk.hsub hH)
  cases h1 with
  | @cons _ _ Sy T' hx hb hH hd =>
    cases hH
    exact ⟨Sy, hx, fun k hk => ⟨hb k hk, h2 k (.inl hk)⟩⟩
theorem OpK.slNil {op : BinOp} {t t' : Nat} {x y : Operand} {ti : TI} (ho : o.op = .binOp op t x y t') {a : Option Addr} {n cap m cap' : Nat} (hx : opd E x = some (.v (.slice a n cap))) (hy : opd E y = some (.v (.slice none m cap')))
    {e : Nat} (hti : c.T.get t = some ti) (hd : ti.desc = .slice e) {b : Bool} (hb : (op = .eql ∧ b = a.isNone) ∨ (op = .neq ∧ b = a.isSome)) (h : nx (.v (.bool b)) H) : OpK c o E H nx := by
  have hnd : ∀ cl, o.op ≠ .defer cl := by rw [ho]; intro cl e; cases e
  refine OpK.val hnd _ (fun ms ac w ha hk => ?_) h
  have hu := (c.ok t ti hti).1
  rw [hd] at hu
  have e1 := ha.opd hx
  have e2 := ha.opd hy
  simp only [den] at e1 e2
  have h1 : ∀ n', (Op.equalIn (n' + 1) t (.slice a n cap) (.slice none m cap')).run c.P w = .ok a.isNone w := by
    intro n'
    cases a <;> simp [Op.equalIn, run_underlying hu]
  have h2 := h1 9999
  rcases hb with ⟨rfl, rfl⟩ | ⟨rfl, rfl⟩
  · have h3 : (Go.binOp .eql t (.slice a n cap) (.slice none m cap')).run c.P w = .ok (.bool a.isNone) w := by
      show ((Op.equal t (.slice a n cap) (.slice none m cap')) >>= fun b => (pure (Value.bool b) : Sem Value)).run c.P w = _
      rw [Sem.run_bind, show Op.equal t (.slice a n cap) (.slice none m cap') = Op.equalIn 10000 t (.slice a n cap) (.slice none m cap') from rfl, h2]
      rfl
    have h4 : (eqGuard .eql t x y (.slice a n cap) (.slice none m cap')).run c.P w = .ok () w := rfl
    simp only [execOp, ho, e1, e2, Sem.run_bind, h4, h3, Result.andThen_ok, Sem.run_pure, den]
  · have h3 : (Go.binOp .neq t (.slice a n cap) (.slice none m cap')).run c.P w = .ok (.bool (!a.isNone)) w := by
      show ((Op.equal t (.slice a n cap) (.slice none m cap')) >>= fun b => (pure (Value.bool (!b)) : Sem Value)).run c.P w = _
      rw [Sem.run_bind, show Op.equal t (.slice a n cap) (.slice none m cap') = Op.equalIn 10000 t (.slice a n cap) (.slice none m cap') from rfl, h2]
      rfl
    have h4 : (eqGuard .neq t x y (.slice a n cap) (.slice none m cap')).run c.P w = .ok () w := rfl
    simp only [execOp, ho, e1, e2, Sem.run_bind, h4, h3, Result.andThen_ok, Sem.run_pure, den]
    cases a <;> rfl
theorem slc_SlA {e : Nat} {k b len : Nat} {cs : List SV} {w : World} {T : Nat → Prop} (hl : cs.length = len * k) (h : (blkA b (denL cs) e).holds w T) : (SlA e k (some ⟨b, 0, none⟩) len len (denL cs)).holds w T :=
  .inr ⟨b, h.1, [], [], (0, 0), rfl, by simpa using h.2, by rw [denL_length, hl], Nat.le_refl _, by simp, by simp⟩
theorem OpK.appS {x y : Operand} {t tx e : Nat} {ti j : TI} (ho : o.op = .call { callee := .builtin .append, args := #[x, y], argTypes := #[t, tx] })
    {b i n : Nat} {s : SV} (hx : opd E x = some (.slc b i 0 n n)) (hy : opd E y = some s) (hti : c.T.get t = some ti) (hd : ti.desc = .slice e) (hj : c.T.get e = some j) (hz : j.zero.cells.size = j.size) {k : Nat} (hkk : j.size = k)
    {i' : Nat} {cs : List SV} {f : Blk → List Blk} (hu : At H (.blk i' b cs e) f) (hl : cs.length = n * k) {m : Nat} {news : List Value} (hs : SrcK c H k tx s m news) (hbig : (n + m) * (j.bytes + 1) ≤ 140737488355328)
    (h : ∀ a' cap', nx (.v (.slice a' (n + m) cap')) (f (.ext i' (SlA e k a' (n + m) cap' (denL cs ++ news))))) : OpK c o E H nx := by
  subst hkk
  have hnd : ∀ cl, o.op ≠ .defer cl := by rw [ho]; intro cl e; cases e
  refine OpK.run hnd fun ms ac w ha hk => ?_
  obtain ⟨T, h1, h2, h3, h4⟩ := hk.upd1 hu
  have hu := (c.ok t ti hti).1
  rw [hd] at hu
  obtain ⟨a', cap', w', hr, hp⟩ := app_core (ty := o.type) hu (c.ok e j hj) hz (slc_SlA hl h1) h2 (hs ms w hk) hbig
  refine ⟨_, _, w', ?_, h4 (.ext i' (SlA e j.size a' (n + m) cap' (denL cs ++ news))) w' hp, h a' cap'⟩
  have e1 := ha.opd hx
  have e2 := ha.opd hy
  simp only [den] at e1
  simp [execOp, ho, resolve, invoke, builtin, e1, e2, hr, den]
end
abbrev RSt := Option (List UInt8)
def rdU : RSt → Nat × RSt
  | none => (0, none)
  | some l => if (numR l).2 = 0 then (0, none) else ((numR l).1, some (l.drop (numR l).2))
def rdS (most : Nat) (st : RSt) : Nat × RSt := if (rdU st).1 > most then (0, none) else rdU st
def zagI (u : Nat) : Int := if u % 2 = 0 then (u / 2 : Nat) else -((u / 2 : Nat) : Int) - 1
def rdI : RSt → Int × RSt
  | none => (0, none)
  | some l => if (numR l).2 = 0 then (0, none) else (zagI (numR l).1, some (l.drop (numR l).2))
def txtR (l : List UInt8) : ByteArray × Nat :=
  if (numR l).2 = 0 ∨ (numR l).1 > 65536 ∨ (numR l).1 > l.length - (numR l).2 then (⟨#[]⟩, 0) else (⟨((l.drop (numR l).2).take (numR l).1).toArray⟩, (numR l).2 + (numR l).1)
def rdT : RSt → ByteArray × RSt
  | none => (⟨#[]⟩, none)
  | some l => if (txtR l).2 = 0 then (⟨#[]⟩, none) else ((txtR l).1, some (l.drop (txtR l).2))
end Go.X

namespace Go.X
open Go
section
variable {c : Cx} {o : Oper} {E : Env} {H : List Blk} {nx : K1}
theorem OpK.ixA {t e len : Nat} {x ix : Operand} {ti j : TI} (ho : o.op = .indexAddr t x ix) {b i off : Nat} {q : IntKind} {z : Int} (hx : opd E x = some (.loc b i off)) (hi : opd E ix = some (.v (.int q z)))
    (hti : c.T.get t = some ti) (hd : ti.desc = .array len e) (hj : c.T.get e = some j) (h0 : 0 ≤ z) (hlt : z < len) (h : nx (.v (.pointer (some ⟨b, off + z.toNat * j.size, none⟩))) H) : OpK c o E H nx := by
  have hnd : ∀ cl, o.op ≠ .defer cl := by rw [ho]; intro cl e; cases e
  refine OpK.val hnd _ (fun ms ac w ha hk => ?_) h
  have hu := (c.ok t ti hti).1
  rw [hd] at hu
  have e1 := ha.opd hx
  have e2 := ha.opd hi
  simp only [den] at e1 e2
  simp [execOp, ho, e1, e2, Instr.indexAt, asIntOf, Instr.sureAddr, run_underlying hu, r_sizeOf (c.ok e j hj) w, hlt, h0, add_none, den]
theorem OpK.ixP {t e len : Nat} {x ix : Operand} {ti j : TI} (ho : o.op = .indexAddr t x ix) {b off : Nat} {q : IntKind} {z : Int} (hx : opd E x = some (.v (.pointer (some ⟨b, off, none⟩)))) (hi : opd E ix = some (.v (.int q z)))
    (hti : c.T.get t = some ti) (hd : ti.desc = .array len e) (hj : c.T.get e = some j) (h0 : 0 ≤ z) (hlt : z < len) (h : nx (.v (.pointer (some ⟨b, off + z.toNat * j.size, none⟩))) H) : OpK c o E H nx := by
  have hnd : ∀ cl, o.op ≠ .defer cl := by rw [ho]; intro cl e; cases e
  refine OpK.val hnd _ (fun ms ac w ha hk => ?_) h
  have hu := (c.ok t ti hti).1
  rw [hd] at hu
  have e1 := ha.opd hx
  have e2 := ha.opd hi
  simp only [den] at e1 e2
  simp [execOp, ho, e1, e2, Instr.indexAt, asIntOf, Instr.sureAddr, run_underlying hu, r_sizeOf (c.ok e j hj) w, hlt, h0, add_none, den]
theorem OpK.st1 {t : Nat} {x y : Operand} {ti : TI} (ho : o.op = .store t x y) {b off : Nat} {s : SV} (hx : opd E x = some (.v (.pointer (some ⟨b, off, none⟩)))) (hy : opd E y = some s)
    (hti : c.T.get t = some ti) (h1 : ti.size = 1) (hone : s.one = true) {cs : List SV} {t' i : Nat} {f : Blk → List Blk} (hu : At H (.blk i b cs t') f) (hl : off < cs.length)
    (h : nx (.v undef) (f (.blk i b (cs.set off s) t'))) : OpK c o E H nx := by
  have hnd : ∀ cl, o.op ≠ .defer cl := by rw [ho]; intro cl e; cases e
  obtain ⟨A, B, rfl, hf⟩ := hu.spec
  rw [hf] at h
  refine ⟨?_⟩
  intro ms a w ha hk Q
  have e1 := ha.opd hx
  have e2 := ha.opd hy
  simp only [den] at e1
  have hg := hk.got (i := i) (b := b) (cs := cs) (t := t') (by simp)
  have hone' := one_den hone
  have hcells : (den s).cells = [den s].toArray := by
    cases s <;> simp [den, SV.one] at hone hone' ⊢ <;> first | rfl | (rename_i x; cases x <;> first | rfl | simp_all [Value.oneCell', Value.cells])
  have hr := r_storeVar (c.ok t ti hti) (off := off) hg hcells (by simp [h1]) (by simpa using hone') (by rw [denL_length]; show off + 1 ≤ _; omega)
  have hset : (denL cs).take off ++ [den s] ++ (denL cs).drop (off + [den s].length) = denL (cs.set off s) := by
    rw [denL_eq, denL_eq, List.map_set, List.set_eq_take_append_cons_drop, if_pos (by simpa using hl)]
    simp
  rw [hset] at hr
  refine wpIn_of_skip hnd (w' := w.setRow b (denL (cs.set off s)).toArray) (by simp [execOp, ho, e1, e2, Instr.storeAt, Instr.sureAddr, hr]) ⟨.v undef, _, rfl, hk.setRow _, h⟩
def StrIt (r : Nat) (s : ByteArray) (pos : Nat) : Ass := ⟨fun w S => S r ∧ w.heap[r]? = some (.stringIter s pos), fun _ _ _ h hx => ⟨hx.1, by rw [h r hx.1]; exact hx.2⟩⟩
theorem getObj_ran {P : Program} {w : World} {r : Nat} {o : Obj} (h : w.heap[r]? = some o) (ho : ∀ c t f, o ≠ .cells c t f) : (getObj r).run P w = .ok o w := by
  cases o with
  | cells c t f => exact absurd rfl (ho c t f)
  | _ => simp only [getObj, Sem.run, h]
theorem OpK.rngS {t : Nat} {x : Operand} {ti : TI} (ho : o.op = .range t x) {s : ByteArray} (hx : opd E x = some (.v (.string s))) (hti : c.T.get t = some ti) (hd : ti.desc = .string)
    (h : nextF H fun i => ∀ r, nx (.v (.pointer (some ⟨r, 0, none⟩))) (.ext i (StrIt r s 0) :: H)) : OpK c o E H nx := by
  have hnd : ∀ cl, o.op ≠ .defer cl := by rw [ho]; intro cl e; cases e
  obtain ⟨i, h⟩ := nextF_spec h
  refine OpK.run hnd fun ms ac w ha hk => ?_
  have hu := (c.ok t ti hti).1
  rw [hd] at hu
  have e1 := ha.opd hx
  simp only [den] at e1
  obtain ⟨T, h1, h2, h3, h4⟩ := (hk.free i (A := emp) (fun _ h => h)).upd1 .head
  refine ⟨_, _, w.alloc (.stringIter s 0), by simp [execOp, ho, e1, Instr.range, run_underlying hu, den], h4 (.ext i (StrIt w.heap.size s 0)) _ ⟨⟨rfl, rfl, rfl, by rw [heap_alloc, Array.size_push]; omega, fun k hk _ => by rw [heap_alloc, Array.getElem?_push, if_neg (by omega)]⟩, fun k => k = w.heap.size, ⟨rfl, by rw [heap_alloc]; simp⟩, fun k hk => by subst hk; exact ⟨by rw [heap_alloc, Array.size_push]; omega, .inr (Nat.le_refl _)⟩⟩, h w.heap.size⟩
theorem OpK.nextS {x : Operand} (ho : o.op = .next x true) {r : Nat} (hx : opd E x = some (.v (.pointer (some ⟨r, 0, none⟩)))) {s : ByteArray} {pos i : Nat} {f : Blk → List Blk} (hu : At H (.ext i (StrIt r s pos)) f)
    (h1 : pos < s.size → nx (.tup [.v (.bool true), .v (.int .i64 pos), .v (.int .i32 ((Utf8.decode s pos).1 : Nat))]) (f (.ext i (StrIt r s (pos + (Utf8.decode s pos).2)))))
    (h2 : ¬ pos < s.size → nx (.tup [.v (.bool false)]) (f (.ext i (StrIt r s pos)))) : OpK c o E H nx := by
  have hnd : ∀ cl, o.op ≠ .defer cl := by rw [ho]; intro cl e; cases e
  refine OpK.run hnd fun ms ac w ha hk => ?_
  have e1 := ha.opd hx
  simp only [den] at e1
  obtain ⟨T, h3, h4, h5, h6⟩ := hk.upd1 hu
  have hg := getObj_ran (P := c.P) h3.2 (by intro _ _ _ e; cases e)
  by_cases hp : pos < s.size
  · have hs := setObj_run (P := c.P) (o' := .stringIter s (pos + (Utf8.decode s pos).2)) h3.2 (by intro _ _ _ e; cases e)
    refine ⟨_, _, { w with heap := w.heap.setIfInBounds r (.stringIter s (pos + (Utf8.decode s pos).2)) }, ?_, h6 (.ext i (StrIt r s (pos + (Utf8.decode s pos).2))) _ ?_, h1 hp⟩
    · simp [execOp, ho, e1, Instr.next, hg, hp, hs, den, denL, goInt]
    · have hlt := h4 r h3.1
      refine ⟨⟨rfl, rfl, rfl, by simp, fun k hk hn => ?_⟩, fun k => k = r, ⟨rfl, by simp [hlt]⟩, fun k hk => by subst hk; exact ⟨by simpa using hlt, .inl h3.1⟩⟩
      have : r ≠ k := fun e => hn (e ▸ h3.1)
      simp [this]
  · refine ⟨_, _, w, ?_, h6 (.ext i (StrIt r s pos)) w ⟨⟨rfl, rfl, rfl, Nat.le_refl _, fun _ _ _ => rfl⟩, T, h3, fun k hk => ⟨h4 k hk, .inl hk⟩⟩, h2 hp⟩
    simp [execOp, ho, e1, Instr.next, hg, hp, den, denL]
end
theorem decode_ascii {s : ByteArray} {i : Nat} {b : UInt8} (hb : s.data.toList[i]? = some b) (h : b.toNat < 128) : Utf8.decode s i = (b.toNat, 1) := by
  have hlt : i < s.data.size := by have := (List.getElem?_eq_some_iff.1 hb).1; simpa using this
  have e : (s.get! (i + 0)).toNat = b.toNat := by
    have : s.get! i = b := by
      rw [List.getElem?_eq_getElem (by simpa using hlt)] at hb
      simp only [Option.some.injEq] at hb
      rw [← hb]
      show s.data[i]! = _
      rw [getElem!_pos s.data i hlt]
      simp
    simp [this]
  simp only [Utf8.decode, e]
  rw [if_pos h]
end Go.X

namespace Go.X
open Go
section
variable {c : Cx} {o : Oper} {E : Env} {H : List Blk} {nx : K1}
theorem CallK.frE {g : FuncId} {l : List SV} {i : Nat} {A A' : Ass} {f : Blk → List Blk} {v : Value}
    (hu : At H (.ext i A) f) (h : ∀ w, Fr c.P g (denL l).toArray w A v A') (hn : nx (.v v) (f (.ext i A'))) : CallK c g l H nx :=
  CallK.fr1 i hu (fun _ w _ => h w) hn
theorem Fr.pre {P : Program} {f : FuncId} {args : Array Value} {w : World} {A A0 : Ass} {v : Value} {A' : Ass} (h : Fr P f args w A v A') (ha : ∀ S, A0.holds w S → A.holds w S) : Fr P f args w A0 v A' :=
  fun S hS hlt => h S (ha S hS) hlt
theorem FrZ.pre {α : Type} {P : Program} {f : FuncId} {args : Array Value} {w : World} {A A0 : Ass} {v : α → Value} {A' : α → Ass} (h : FrZ P f args w A v A') (ha : ∀ S, A0.holds w S → A.holds w S) : FrZ P f args w A0 v A' :=
  fun S hS hlt => h S (ha S hS) hlt
end
theorem HSub.middle' (x : Blk) (A B : List Blk) : HSub (x :: (A ++ B)) (A ++ x :: B) := HSub.front x A B
theorem HSub.pick {H : List Blk} {x : Blk} {f : Blk → List Blk} (hu : At H x f) : HSub [x] H := by
  obtain ⟨A, B, rfl, _⟩ := hu.spec
  exact HSub.trans (fun w S hS => by
    cases hS with
    | @cons _ _ S1 T1 hx hb hH hd => exact ⟨_, .cons hx hb .nil (fun _ _ h => h), fun k hk => hk.elim .inl False.elim⟩) (HSub.middle' x A B)
end Go.X

namespace Go.X
open Go
def ObjA (r : Nat) (o : Obj) : Ass := ⟨fun w S => S r ∧ w.heap[r]? = some o, fun _ _ _ h hx => ⟨hx.1, by rw [h r hx.1]; exact hx.2⟩⟩
theorem Kn.allocO {W S ms H w} (h : Kn W S ms H w) (i : Nat) (o : Obj) : Kn W S ms (.ext i (ObjA w.heap.size o) :: H) (w.alloc o) := by
  obtain ⟨T, h1, h2, h3, h4⟩ := (h.free i (A := emp) (fun _ h => h)).upd1 .head
  exact h4 (.ext i (ObjA w.heap.size o)) _ ⟨⟨rfl, rfl, rfl, by rw [heap_alloc, Array.size_push]; omega, fun k hk _ => by rw [heap_alloc, Array.getElem?_push, if_neg (by omega)]⟩, fun k => k = w.heap.size, ⟨rfl, by rw [heap_alloc]; simp⟩, fun k hk => by subst hk; exact ⟨by rw [heap_alloc, Array.size_push]; omega, .inr (Nat.le_refl _)⟩⟩
theorem Kn.getO {W S ms H w} {i r : Nat} {o : Obj} {f : Blk → List Blk} (hu : At H (.ext i (ObjA r o)) f) (h : Kn W S ms H w) : w.heap[r]? = some o := by
  obtain ⟨T, h3, _⟩ := h.upd1 hu
  exact h3.2
abbrev MpA (m : Nat) (es : List MapEntry) (clk : Nat) : Ass := ObjA m (.map es.toArray clk)
abbrev MiA (r m since : Nat) (seen : List Nat) (last : Nat) : Ass := ObjA r (.mapIter (some m) since seen.toArray last)
section
variable {c : Cx} {o : Oper} {E : Env} {H : List Blk} {nx : K1}
theorem run_checkKey {P : Program} {w : World} {b : Bool} {n t : Nat} {q : IntKind} (v : Value) (ht : P.underlying t = some (.int q)) : (Instr.checkKey b (n + 1) t v).run P w = .ok () w := by
  cases v <;> simp [Instr.checkKey, run_underlying ht]
theorem OpK.nxE {x : Operand} {r m since clk i j last : Nat} {f g : Blk → List Blk} (ho : o.op = .next x false) (hx : opd E x = some (.v (.pointer (some ⟨r, 0, none⟩)))) (hu : At H (.ext i (MiA r m since [] last)) f) (hv : At H (.ext j (MpA m [] clk)) g)
    (h : nx (.tup [.v (.bool false)]) H) : OpK c o E H nx := by
  have hnd : ∀ cl, o.op ≠ .defer cl := by rw [ho]; intro cl e; cases e
  refine OpK.val hnd _ (fun ms ac w ha hk => ?_) h
  have e1 := ha.opd hx
  simp only [den] at e1
  have hg := getObj_ran (P := c.P) (hk.getO hu) (by intro _ _ _ e; cases e)
  have hg' := getObj_ran (P := c.P) (hk.getO hv) (by intro _ _ _ e; cases e)
  simp [execOp, ho, e1, Instr.next, hg, hg', Question.forced, den, denL]
end
end Go.X

namespace Go.X
open Go
def RoR {α : Type} (W : World) (b : Nat) (cs : List SV) (t : TypeId) (v : α → Value) (A' : α → Ass) : Ending → World → Prop := fun e w' =>
  ∃ z, e = .returned (v z) ∧ Eff (fun k => k = b) W w' ∧ ∃ T, Holds w' [.blk 10 b cs t, .ext 0 (A' z)] T ∧ ∀ k, T k → k = b ∨ W.heap.size ≤ k
theorem RoR.out {α : Type} {W w' : World} {b : Nat} {cs : List SV} {t : TypeId} {v : α → Value} {A' : α → Ass} {e : Ending} (hb : W.heap[b]? = some (.cells (denL cs).toArray t (0, 0))) (h : RoR W b cs t v A' e w') :
    ∃ z, e = .returned (v z) ∧ FPost noS W (A' z) w' := by
  obtain ⟨z, h1, h2, T, h3, h4⟩ := h
  cases h3 with
  | @cons _ _ S1 T1 hx hbx hH hd =>
    cases hH with
    | @cons _ _ S2 T2 hx2 hb2 hH2 hd2 =>
      refine ⟨z, h1, ⟨h2.os, h2.tape, h2.output, h2.size, fun k hk _ => ?_⟩, S2, hx2, fun k hk => ⟨hb2 k hk, .inr ?_⟩⟩
      · by_cases hkb : k = b
        · subst hkb
          rw [hx.2, hb]
        · exact h2.old k hk hkb
      · rcases h4 k (.inr (.inl hk)) with h5 | h5
        · exact absurd (.inl hk) (fun h : S2 k ∨ T2 k => hd b hx.1 (h5 ▸ h))
        · exact h5
theorem FinK.ro {α : Type} {P : Program} {T : TR} {n : Nat} {W : World} {r : Option Nat} {hT : TOk P T} {v : α → Value} {s : SV} {H : List Blk} {A' : α → Ass} {b i j : Nat} {cs : List SV} {t : TypeId} (z : α) (hs : den s = v z) (hH : HSub [.blk i b cs t, .ext j (A' z)] H) :
    FinK ⟨P, T, n, W, fun k => k = b, r, hT⟩ (RoR W b cs t v A') s H := by
  refine FinK.mk fun w hk => ⟨z, by rw [hs], ⟨Kn0.os hk, Kn0.tape hk, Kn0.output hk, Kn0.size hk, Kn0.old hk⟩, ?_⟩
  obtain ⟨T, h1, h2⟩ := Kn0.foot (hk.hsub hH)
  refine ⟨T, ?_, h2⟩
  cases h1 with
  | @cons _ _ S1 T1 hx hbx hH1 hd =>
    cases hH1 with
    | @cons _ _ S2 T2 hx2 hb2 hH2 hd2 =>
      exact .cons (x := .blk 10 b cs t) hx hbx (.cons (x := .ext 0 (A' z)) hx2 hb2 hH2 hd2) hd
theorem HSub.none (H : List Blk) : HSub [] H := fun w S h => ⟨_, .nil, fun _ h => h.elim⟩
end Go.X

namespace Go.X
open Go
theorem r_split (m : Nat) {c : Cx} {id : Nat} {all : List Oper} {E : Env} {H : List Blk} {k : KC} (hm : c.P.follows .mixedOrders = true)
    (hB : Region.lexB .any (all.take m).toArray = true) (ht : tailB all (all.take m).length = true) (hfr : freeB all = true)
    (h : ∀ K : Env → Prop, (∀ E', anyF c all (k .nrm) (all.drop m).length (List.replicate (all.take m).length true ++ List.replicate (all.drop m).length false) E' H → K E') → qopsF c (all.take m) (all.take m) E H K) :
    Run c (.region id all.toArray true) E H k :=
  r_drawn (all.take m) (all.drop m) hm (List.take_append_drop m all).symm hB ht hfr h
end Go.X

namespace Go.X
open Go
section
variable {P : Program} {T : TR} {n : Nat} {hT : TOk P T}
end
inductive Rm : List Blk → Blk → List Blk → Prop
  | head {x : Blk} {H : List Blk} : Rm (x :: H) x H
  | tail {z x : Blk} {H R : List Blk} (h : Rm H x R) : Rm (z :: H) x (z :: R)
theorem Rm.spec {H R : List Blk} {x : Blk} (h : Rm H x R) : H.Perm (x :: R) := by
  induction h with
  | head => exact .refl _
  | @tail z x H R h ih => exact (ih.cons z).trans (.swap _ _ _)
inductive Sel : List Blk → List Blk → List Blk → Prop
  | nil {H : List Blk} : Sel H [] H
  | cons {H H' L R : List Blk} {x : Blk} (h : Rm H x H') (hs : Sel H' L R) : Sel H (x :: L) R
theorem Sel.spec {H L R : List Blk} (h : Sel H L R) : H.Perm (L ++ R) := by
  induction h with
  | nil => exact .refl _
  | cons h hs ih => exact h.spec.trans (ih.cons _)
theorem Kn.sel {W S ms H L R w} (hs : Sel H L R) (h : Kn W S ms H w) : ∃ T, Holds w L T ∧ (∀ k, T k → S k ∨ W.heap.size ≤ k) ∧ ∀ L' w', FPost T w (AssL L') w' → Kn W S ms (L' ++ R) w' := by
  have h0 : Kn0 W S (ms.map DB ++ H) w := h
  have hp : (ms.map DB ++ H).Perm (L ++ (ms.map DB ++ R)) := by
    refine (List.Perm.append_left (ms.map DB) hs.spec).trans ?_
    rw [← List.append_assoc, ← List.append_assoc]
    exact List.perm_append_comm.append_right R
  have h1 := h0.perm hp
  obtain ⟨T0, hT0, hb⟩ := h1.foot
  obtain ⟨TL, TR, q1, q2, q3, q4⟩ := hT0.split _ _
  refine ⟨TL, q1, fun k hk => hb k ((q4 k).2 (.inl hk)), fun L' w' ⟨he, S', h3, h4⟩ => ?_⟩
  have hR : Holds w' (ms.map DB ++ R) TR := q2.mono he.size fun k hk => he.old k (q2.lt k hk) fun h => q3 k h hk
  obtain ⟨TX, g1, g2⟩ := Holds.glue _ _ h3 hR (fun k hk hk' => by
    rcases (h4 k hk).2 with h | h
    · exact q3 k h hk'
    · have := q2.lt k hk'; omega)
  have h5 := h1.eff (T := TL) (fun k hk => hb k ((q4 k).2 (.inl hk))) he g1 (fun k hk => by
    rcases (g2 k).1 hk with h | h
    · rcases (h4 k h).2 with h | h
      · exact .inl h
      · have := h1.size; exact .inr (.inr (by omega))
    · exact .inr (hb k ((q4 k).2 (.inr h))))
  have hp' : (L' ++ (ms.map DB ++ R)).Perm (ms.map DB ++ (L' ++ R)) := by
    rw [← List.append_assoc, ← List.append_assoc]
    exact List.perm_append_comm.append_right R
  exact Kn0.perm h5 hp'
theorem CallK.frL {α : Type} {c : Cx} {g : FuncId} {l : List SV} {H L0 L R : List Blk} {nx : K1} {v : α → Value} {M M' : α → List Blk}
    (hs : Sel H L R) (hl : HSub L0 L) (h : ∀ ms w, Kn c.W c.S ms H w → FrZ c.P g (denL l).toArray w (AssL L0) v (fun z => AssL (M z))) (hm : ∀ z, HSub (M' z) (M z)) (hn : ∀ z, nx (.v (v z)) (M' z ++ R)) : CallK c g l H nx := by
  refine CallK.gen fun ms w hk => ?_
  obtain ⟨T, h1, h2, h3⟩ := hk.sel hs
  obtain ⟨T', h4, h5⟩ := hl w T h1
  refine (h ms w hk T' h4 (fun k hk => h4.lt k hk)).mono ?_
  rintro e w' ⟨z, rfl, he, S', h6, h7⟩
  obtain ⟨S'', h8, h9⟩ := hm z w' S' h6
  refine ⟨.v (v z), _, rfl, h3 (M' z) w' ⟨⟨he.os, he.tape, he.output, he.size, fun k hk hn => he.old k hk fun h => hn (h5 k h)⟩, S'', h8, fun k hk => ⟨(h7 k (h9 k hk)).1, (h7 k (h9 k hk)).2.imp (h5 k) id⟩⟩, hn z⟩
end Go.X

namespace Go.X
open Go
theorem FinK.frZL {α : Type} {P : Program} {T : TR} {n : Nat} {W : World} {S : Nat → Prop} {r : Option Nat} {hT : TOk P T} {v : α → Value} {s : SV} {H : List Blk} {M : α → List Blk} (z : α) (hs : den s = v z) (hH : HSub (M z) H) :
    FinK ⟨P, T, n, W, S, r, hT⟩ (fun e w' => ∃ z, e = .returned (v z) ∧ FPost S W (AssL (M z)) w') s H := by
  refine FinK.mk fun w hk => ⟨z, by rw [hs], ⟨Kn0.os hk, Kn0.tape hk, Kn0.output hk, Kn0.size hk, Kn0.old hk⟩, ?_⟩
  obtain ⟨T, h1, h2⟩ := Kn0.foot (hk.hsub hH)
  exact ⟨T, h1, fun k hk => ⟨h1.lt k hk, h2 k hk⟩⟩
inductive SelI : List Blk → List Blk → Prop
  | nil {H : List Blk} : SelI H []
  | blk {H H' L : List Blk} {i j b : Nat} {cs : List SV} {t : TypeId} (h : Rm H (.blk j b cs t) H') (hs : SelI H' L) : SelI H (.blk i b cs t :: L)
  | ext {H H' L : List Blk} {i j : Nat} {A : Ass} (h : Rm H (.ext j A) H') (hs : SelI H' L) : SelI H (.ext i A :: L)
theorem SelI.spec {H L : List Blk} (h : SelI H L) : HSub L H := by
  induction h with
  | nil => exact HSub.none _
  | blk h hs ih => exact HSub.trans (HSub.keep rfl ih) (HSub.perm h.spec)
  | ext h hs ih => exact HSub.trans (HSub.ext (fun _ _ h => h) ih) (HSub.perm h.spec)
end Go.X

namespace Go.X
open Go
theorem OpK.id {c : Cx} {o : Oper} {E : Env} {H : List Blk} {nx : K1} (h : OpK c o E H nx) : OpK c o E H nx := h
theorem QK.id {c : Cx} {o : Oper} {E : Env} {H : List Blk} {k : SV → Prop} (h : QK c o E H k) : QK c o E H k := h
theorem IK.id {c : Cx} {o : Oper} {E : Env} {k : SV → Prop} (h : IK c o E k) : IK c o E k := h
theorem CallK.id {c : Cx} {g : FuncId} {l : List SV} {H : List Blk} {nx : K1} (h : CallK c g l H nx) : CallK c g l H nx := h
theorem CallQ.id {c : Cx} {g : FuncId} {l : List SV} {H : List Blk} {k : SV → Prop} (h : CallQ c g l H k) : CallQ c g l H k := h
theorem CallK.at (g : FuncId) {c : Cx} {l : List SV} {H : List Blk} {nx : K1} (h : CallK c g l H nx) : CallK c g l H nx := h
theorem CallQ.at (g : FuncId) {c : Cx} {l : List SV} {H : List Blk} {k : SV → Prop} (h : CallQ c g l H k) : CallQ c g l H k := h
theorem CallV.id {c : Cx} {fv : Value} {l : List SV} {H : List Blk} {nx : K1} (h : CallV c fv l H nx) : CallV c fv l H nx := h
theorem RemK.id {x y : Int} {nx : Int → Prop} (h : RemK x y nx) : RemK x y nx := h
theorem QuoK.id {q : IntKind} {x y : Int} {nx : Int → Prop} (h : QuoK q x y nx) : QuoK q x y nx := h
theorem WrapK.id {q : IntKind} {x : Int} {nx : Int → Prop} (h : WrapK q x nx) : WrapK q x nx := h
theorem QK.val {c : Cx} {o : Oper} {E : Env} {H : List Blk} {k : SV → Prop} (s : SV)
    (h : ∀ ms a w, Has c.n ms E a → Kn c.W c.S ms H w → (execOp a.eval o).run c.P w = .ok (.value (den s)) w) (hn : k s) : QK c o E H k := ⟨s, h, hn⟩
theorem IK.eqV {c : Cx} {o : Oper} {E : Env} {k : SV → Prop} {L : List Nat} (hL : SOk c.P L) {t t' : Nat} {x y : Operand} {s s' : SV} (ho : o.op = .binOp .eql t x y t') (hx : opd E x = some s) (hy : opd E y = some s')
    (h : X.eqV c L t s s' (fun b => k (.v (.bool b)))) : IK c o E k := by
  obtain ⟨b, h1, h2⟩ := eqV_spec c.ok hL h
  refine ⟨.v (.bool b), fun ms a ha w => ?_, h2⟩
  simp [execOp, ho, ha.opd hx, ha.opd hy, (h1 w).1, (h1 w).2.2, den]
theorem QK.eqV {c : Cx} {o : Oper} {E : Env} {H : List Blk} {k : SV → Prop} {L : List Nat} (hL : SOk c.P L) {t t' : Nat} {x y : Operand} {s s' : SV} (ho : o.op = .binOp .eql t x y t') (hx : opd E x = some s) (hy : opd E y = some s')
    (h : X.eqV c L t s s' (fun b => k (.v (.bool b)))) : QK c o E H k := by
  obtain ⟨b, h1, h2⟩ := eqV_spec c.ok hL h
  refine QK.val _ (fun ms a w ha hk => ?_) h2
  simp [execOp, ho, ha.opd hx, ha.opd hy, (h1 w).1, (h1 w).2.2, den]
end Go.X

namespace Go.X
open Go
theorem Run.hsub {c : Cx} {x : Code} {E : Env} {H H' : List Blk} {k : KC} (hs : HSub H' H) (h : Run c x E H' k) : Run c x E H k :=
  .of fun ms a w ha hk => h.out ms a w ha (hk.hsub hs)
end Go.X

namespace Go.X
open Go
def bldF (c : Cx) (t : Nat) (parts : List (Nat × Operand)) (E : Env) (k : SV → Prop) : Prop := match c.T.get t with
  | some i => match i.desc with
    | .struct fs => cond (knownF c fs.toList) (valsF i.zero.cells.toList (fun z => partsF E parts (fun ps => fillF (structPl c fs.toList) ps z (fun cs => k (.agg cs))))) False
    | _ => False
  | none => False
theorem partsF_spec' {E : Env} : ∀ {l : List (Nat × Operand)} {k : List (Nat × SV) → Prop}, partsF E l k →
    ∃ r, (∀ n ms a, Has n ms E a → (l.map fun p => (p.1, a.eval p.2)) = (r.map fun p => (p.1, den p.2))) ∧ k r
  | [], _, h => ⟨[], fun _ _ _ _ => rfl, h⟩
  | (i, x) :: l, k, h => by
    simp only [partsF] at h
    split at h
    · rename_i s hs
      obtain ⟨r, h1, h2⟩ := partsF_spec' (l := l) h
      exact ⟨(i, s) :: r, fun n ms a ha => by simp [h1 n ms a ha, ha.opd hs], h2⟩
    · exact h.elim
theorem bldF_spec {c : Cx} {o : Oper} {E : Env} {k : SV → Prop} {t : Nat} {parts : Array (Nat × Operand)} (ho : o.op = .build t parts) (h : bldF c t parts.toList E k) :
    ∃ s, (∀ ms a, Has c.n ms E a → ∀ w, (execOp a.eval o).run c.P w = .ok (.value (den s)) w) ∧ k s := by
  unfold bldF at h
  split at h
  · rename_i i hi
    split at h
    · rename_i fs hd
      cases hkn : knownF c fs.toList with
      | false => rw [hkn] at h; exact h.elim
      | true =>
        rw [hkn] at h
        have h := valsF_spec h
        obtain ⟨ps, h1', h2⟩ := partsF_spec' h
        obtain ⟨r, h3, h4⟩ := fillF_spec (place := fun x => (fs.toList.map fun f => (f.offset, ((c.T.get f.type).map (·.size)).getD 0)).toArray[x]?) (by
          intro x k hk
          unfold structPl at hk
          split at hk
          · rename_i fd hfd
            split at hk
            · rename_i j hj
              exact ⟨fd.offset, j.size, by simp only [nth_array, List.getElem?_map, hfd]; simp [hj], hk⟩
            · exact hk.elim
          · exact hk.elim) h2
        refine ⟨.agg r, fun ms a ha w => ?_, h4⟩
        have h1 := h1' _ _ _ ha
        have hpl := run_mapM_places c.ok w fs.toList hkn
        have hps : (parts.map fun (i, x) => (i, a.eval x)).toList = ps.map fun p => (p.1, den p.2) := by rw [← h1]; simp
        have hz : (denL (i.zero.cells.toList.map .v)).toArray = i.zero.cells := by rw [denL_map_v]
        rw [hz] at h3
        simp only [execOp, ho, Instr.build]
        rw [Sem.run_bind, Sem.run_bind, r_zeroValue (c.ok t i hi) w]
        simp only [Result.andThen_ok]
        rw [Sem.run_bind, r_underlying (c.ok t i hi) w]
        simp only [Result.andThen_ok, hd, Sem.run_bind]
        rw [Array.mapM_eq_mapM_toList]
        simp only [Sem.run_map, hpl, Result.andThen_ok, hps]
        rw [h3]
        simp [den]
    · exact h.elim
  · exact h.elim
theorem IK.bld {c : Cx} {o : Oper} {E : Env} {k : SV → Prop} {t : Nat} {parts : Array (Nat × Operand)} (ho : o.op = .build t parts) (h : bldF c t parts.toList E k) : IK c o E k :=
  ⟨bldF_spec ho h⟩
theorem QK.bld {c : Cx} {o : Oper} {E : Env} {H : List Blk} {k : SV → Prop} {t : Nat} {parts : Array (Nat × Operand)} (ho : o.op = .build t parts) (h : bldF c t parts.toList E k) : QK c o E H k := by
  obtain ⟨s, h1, h2⟩ := bldF_spec ho h
  exact ⟨s, fun ms a w ha _ => h1 ms a ha w, h2⟩
end Go.X
namespace Go.X
open Go
theorem SelI.blk' {H H' L : List Blk} {i j b : Nat} {cs cs' : List SV} {t : TypeId} (h : Rm H (.blk j b cs' t) H') (e : cs' = cs) (hs : SelI H' L) : SelI H (.blk i b cs t :: L) := .blk (e ▸ h) hs
theorem SelI.ext' {H H' L : List Blk} {i : Nat} {A A' : Ass} (h : Rm H (.ext i A') H') (e : A' = A) (hs : SelI H' L) : SelI H (.ext i A :: L) := .ext (e ▸ h) hs
end Go.X

namespace Go.X
open Go
def allBlk : List Blk → Prop
  | [] => True
  | .blk _ _ _ _ :: H => allBlk H
  | .ext _ _ :: _ => False
def Rdd (w : World) (L : List Blk) (S : Nat → Prop) : Prop := match L with
  | [] => ∀ k, ¬ S k
  | .blk _ b cs t :: H => w.heap[b]? = some (.cells (denL cs).toArray t (0, 0)) ∧ ∃ T, Rdd w H T ∧ ¬ T b ∧ ∀ k, S k ↔ k = b ∨ T k
  | .ext _ _ :: _ => False
theorem Rdd.holds {w : World} : ∀ {L : List Blk} {S : Nat → Prop}, Rdd w L S → Holds w L S
  | [], S, h => by
    have : S = fun _ => False := by funext k; exact propext ⟨h k, False.elim⟩
    rw [this]; exact .nil
  | .blk i b cs t :: H, S, ⟨h1, T, h2, h3, h4⟩ => by
    have : S = fun k => (k = b) ∨ T k := by funext k; exact propext (h4 k)
    rw [this]
    exact .cons (S := fun k => k = b) (x := .blk i b cs t) ⟨rfl, h1⟩ (fun k hk => hk ▸ (Array.getElem?_eq_some_iff.1 h1).1) (Rdd.holds h2) (fun k hk hk' => h3 (hk ▸ hk'))
  | .ext _ _ :: _, _, h => h.elim
theorem Rdd.of {w : World} : ∀ {L : List Blk} {S : Nat → Prop}, allBlk L → Holds w L S → ∃ S', Rdd w L S' ∧ ∀ k, S' k → S k
  | [], _, _, h => ⟨fun _ => False, fun _ h => h, fun _ h => h.elim⟩
  | .blk i b cs t :: H, S, ha, h => by
    cases h with
    | @cons _ _ S1 T1 hx hb hH hd =>
      obtain ⟨S2, h1, h2⟩ := Rdd.of (L := H) ha hH
      exact ⟨fun k => k = b ∨ S2 k, ⟨hx.2, S2, h1, fun h => hd b hx.1 (h2 b h), fun _ => Iff.rfl⟩, fun k hk => hk.elim (fun e => .inl (e ▸ hx.1)) (fun h => .inr (h2 k h))⟩
  | .ext _ _ :: _, _, h, _ => h.elim
theorem Rdd.lt {w : World} {L : List Blk} {S : Nat → Prop} (h : Rdd w L S) : ∀ k, S k → k < w.heap.size := h.holds.lt
theorem Rdd.same {W w' : World} : ∀ {L : List Blk} {S T : Nat → Prop}, Rdd W L S → Holds w' L T → ∀ k, S k → w'.heap[k]? = W.heap[k]? ∧ T k
  | [], _, _, h, _, k, hk => (h k hk).elim
  | .blk i b cs t :: H, S, T, ⟨h1, T', h2, h3, h4⟩, h, k, hk => by
    cases h with
    | @cons _ _ S1 T1 hx hb hH hd =>
      rcases (h4 k).1 hk with rfl | hk
      · exact ⟨by rw [hx.2, h1], .inl hx.1⟩
      · obtain ⟨h5, h6⟩ := Rdd.same h2 hH k hk
        exact ⟨h5, .inr h6⟩
  | .ext _ _ :: _, _, _, h, _, _, _ => h.elim
end Go.X
namespace Go.X
open Go
section
variable {c : Cx} {o : Oper} {E : Env} {H : List Blk}
theorem QK.ldp {k : SV → Prop} {t : Nat} {x : Operand} (ho : o.op = .load t x) {b off : Nat} {cs : List SV} (hx : opd E x = some (.v (.pointer (some ⟨b, off, none⟩)))) (hp : PC c H b off cs) (hne : cs ≠ []) (h : loadF c t cs 0 k) : QK c o E H k := by
  unfold loadF at h
  split at h
  · rename_i i hi
    have hti := c.ok t i hi
    cases ha : TypeDesc.isAgg i.desc with
    | true =>
      rw [ha] at h
      obtain ⟨h1, h2⟩ := takeF_spec (show takeF i.size cs (fun l => k (.agg l)) from h)
      refine QK.val _ (fun ms ac w hac hk => ?_) h2
      obtain ⟨C, t', f, h3, h4⟩ := hp ms w hk
      have e1 := hac.opd hx
      simp only [den] at e1
      have hsz : ∀ j, j < i.size → C[off + j]? = (denL cs)[j]? := fun j hj => by
        have : j < (denL cs).length := by rw [denL_length]; omega
        rw [h4 j _ (List.getElem?_eq_getElem this), List.getElem?_eq_getElem this]
      have hC : off + i.size ≤ C.size := by
        cases hz : i.size with
        | zero =>
          have h0 : 0 < (denL cs).length := by rw [denL_length]; exact List.length_pos_iff.2 hne
          have := h4 0 _ (List.getElem?_eq_getElem h0)
          have := (Array.getElem?_eq_some_iff.1 this).1
          omega
        | succ m =>
          have := hsz m (by omega)
          rw [List.getElem?_eq_getElem (by rw [denL_length]; omega)] at this
          have := (Array.getElem?_eq_some_iff.1 this).1
          omega
      have h5 := (r_loadVar hti h3).1 ha hC
      have h6 : (C.toList.drop off).take i.size = denL (cs.take i.size) := by
        apply List.ext_getElem?
        intro j
        rw [denL_take, List.getElem?_take, List.getElem?_take]
        split
        · rename_i hj
          rw [List.getElem?_drop, Array.getElem?_toList, hsz j hj]
        · rfl
      simp [execOp, ho, e1, Instr.loadAt, Instr.sureAddr, h5, den, h6]
    | false =>
      rw [ha] at h
      obtain ⟨s, h1, h2⟩ := nthF_spec (show nthF 0 cs k from h)
      refine QK.val _ (fun ms ac w hac hk => ?_) h2
      obtain ⟨C, t', f, h3, h4⟩ := hp ms w hk
      have e1 := hac.opd hx
      simp only [den] at e1
      have h5 := (r_loadVar hti h3 (off := off)).2 ha (den s) (by simpa using h4 0 _ (by rw [denL_getElem?, h1]; rfl))
      simp [execOp, ho, e1, Instr.loadAt, Instr.sureAddr, h5]
  · exact h.elim
theorem QK.idx {kk : SV → Prop} {t e : Nat} {x ix : Operand} {ti j : TI} (ho : o.op = .indexAddr t x ix) {a : Option Addr} {n cap : Nat} {q : IntKind} {z : Int} (hx : opd E x = some (.v (.slice a n cap))) (hi : opd E ix = some (.v (.int q z)))
    (hti : c.T.get t = some ti) (hd : ti.desc = .slice e) (hj : c.T.get e = some j) {k : Nat} (hkk : j.size = k) {cs : List Value} (hs : Sees c H e k a n cap cs) (h0 : 0 ≤ z) (hlt : z < n) {ecs : List SV} (hc : (cs.drop (z.toNat * k)).take k = denL ecs)
    (h : ∀ b off, PC c H b off ecs → kk (.v (.pointer (some ⟨b, off, none⟩)))) : QK c o E H kk := by
  subst hkk
  have hu := (c.ok t ti hti).1
  rw [hd] at hu
  match a with
  | none =>
    have hno : ∀ ms w, Kn c.W c.S ms H w → False := fun ms w hk => by
      obtain ⟨S, hS, _⟩ := hs ms w hk
      rcases hS with ⟨_, rfl, _, _⟩ | ⟨b, hb, pre, post, fr, he, _⟩
      · omega
      · cases he
    exact QK.val _ (fun ms ac w hac hk => (hno ms w hk).elim) (h 0 0 fun ms w hk => (hno ms w hk).elim)
  | some ⟨b, off, p⟩ =>
    refine QK.val _ (fun ms ac w hac hk => ?_) (h b (off + z.toNat * j.size) ?_)
    · obtain ⟨S, hS, _⟩ := hs ms w hk
      rcases hS with ⟨_, rfl, _, _⟩ | ⟨b', hb, pre, post, fr, he, hh, hl, hnc, hp, hf⟩
      · omega
      · have e1 := hac.opd hx
        have e2 := hac.opd hi
        simp only [den, he] at e1 e2
        have he' := he
        simp only [Option.some.injEq, Addr.mk.injEq] at he'
        obtain ⟨rfl, rfl, rfl⟩ := he'
        simp [execOp, ho, e1, e2, Instr.indexAt, asIntOf, run_underlying hu, r_sizeOf (c.ok e j hj) w, hlt, h0, add_none, den]
    · intro ms' w' hk'
      obtain ⟨S', hS', _⟩ := hs ms' w' hk'
      rcases hS' with ⟨hn, _⟩ | ⟨b', hb', pre', post', fr', he, hh', hl', hnc', hp', hf'⟩
      · cases hn
      · simp only [Option.some.injEq, Addr.mk.injEq] at he
        obtain ⟨rfl, rfl, _⟩ := he
        refine ⟨_, _, _, hh', fun m v hm => ?_⟩
        rw [← hc, List.getElem?_take] at hm
        split at hm
        · rw [List.getElem?_drop] at hm
          have hlt : z.toNat * j.size + m < cs.length := (List.getElem?_eq_some_iff.1 hm).1
          simp only [List.getElem?_toArray]
          rw [List.append_assoc, List.getElem?_append_right (by omega), List.getElem?_append_left (by omega)]
          rw [show pre'.length + z.toNat * j.size + m - pre'.length = z.toNat * j.size + m by omega]
          exact hm
        · cases hm
end
end Go.X

namespace Go.X
open Go
structure StopR (p : Prop) : Prop where mk ::
  get : p
theorem r_stop (id : Nat) {c : Cx} {l : Array Oper} {d : Bool} {y : Code} {E : Env} {H : List Blk} {k : KC} (h : StopR (Run c (.seq (.region id l d) y) E H k)) : Run c (.seq (.region id l d) y) E H k := h.get
end Go.X

namespace Go.X
open Go
theorem IK.neqV {c : Cx} {o : Oper} {E : Env} {k : SV → Prop} {L : List Nat} (hL : SOk c.P L) {t t' : Nat} {x y : Operand} {s s' : SV} (ho : o.op = .binOp .neq t x y t') (hx : opd E x = some s) (hy : opd E y = some s')
    (h : X.eqV c L t s s' (fun b => k (.v (.bool (!b))))) : IK c o E k := by
  obtain ⟨b, h1, h2⟩ := eqV_spec c.ok hL h
  refine ⟨.v (.bool (!b)), fun ms a ha w => ?_, h2⟩
  simp [execOp, ho, ha.opd hx, ha.opd hy, (h1 w).2.1, (h1 w).2.2, den]
theorem QK.neqV {c : Cx} {o : Oper} {E : Env} {H : List Blk} {k : SV → Prop} {L : List Nat} (hL : SOk c.P L) {t t' : Nat} {x y : Operand} {s s' : SV} (ho : o.op = .binOp .neq t x y t') (hx : opd E x = some s) (hy : opd E y = some s')
    (h : X.eqV c L t s s' (fun b => k (.v (.bool (!b))))) : QK c o E H k := by
  obtain ⟨b, h1, h2⟩ := eqV_spec c.ok hL h
  refine QK.val _ (fun ms a w ha hk => ?_) h2
  simp [execOp, ho, ha.opd hx, ha.opd hy, (h1 w).2.1, (h1 w).2.2, den]
end Go.X

namespace Go.X
open Go
inductive SubD : Env → Env → Prop
  | nil {E : Env} : SubD [] E
  | cons {t : Nat} {s s' : SV} {I E : Env} (h : look t E = some s') (e : den s' = den s) (hr : SubD I E) : SubD ((t, s) :: I) E
theorem SubD.spec {I E : Env} (h : SubD I E) : ∀ t s, look t I = some s → ∃ s', look t E = some s' ∧ den s' = den s := by
  induction h with
  | nil => intro t s h; cases h
  | @cons t s s' I E h e hr ih =>
    intro t' s1 h1
    simp only [look] at h1
    cases hb : Nat.beq t t' with
    | true =>
      rw [hb] at h1
      simp only [cond_true, Option.some.injEq] at h1
      subst h1
      exact ⟨s', Nat.eq_of_beq_eq_true hb ▸ h, e⟩
    | false => rw [hb] at h1; exact ih t' s1 h1
theorem Has.subD {n ds E I a} (h : Has n ds E a) (hs : SubD I E) : Has n ds I a :=
  ⟨h.size, h.defers, fun t s hl => by obtain ⟨s', h1, h2⟩ := hs.spec t s hl; rw [← h2]; exact h.get t s' h1⟩
theorem Run.weakenD {c : Cx} {x : Code} {E E' : Env} {H H' : List Blk} {k : KC} (h : Run c x E' H' k) (hE : SubD E' E) (hH : HSub H' H) : Run c x E H k :=
  .of fun ms a w ha hk => h.out ms a w (ha.subD hE) (hk.hsub hH)
theorem IK.fap {c : Cx} {o : Oper} {E : Env} {k : SV → Prop} {t f : Nat} {x : Operand} (ho : o.op = .fieldAddr t x f) {b off : Nat} (hx : opd E x = some (.v (.pointer (some ⟨b, off, none⟩)))) (h : fieldF c t f (fun m => k (.v (.pointer (some ⟨b, off + m, none⟩))))) : IK c o E k := by
  obtain ⟨m, h1, h2⟩ := r_fieldAt2 c.ok h b off
  refine ⟨_, fun ms a ha w => ?_, h2⟩
  have e1 := ha.opd hx
  simp only [den] at e1
  simp [execOp, ho, e1, h1 w, den]
theorem PC.drop {c : Cx} {x : Blk} {H : List Blk} {b off : Nat} {cs : List SV} (h : PC c H b off cs) : PC c (x :: H) b off cs := fun ms w hk => h ms w (hk.hsub (HSub.drop (HSub.refl _)))
end Go.X

namespace Go.X
open Go
def AnyR (c : Cx) (all : List Oper) (kc : KC) (n : Nat) (l : List Bool) (E : Env) (H : List Blk) : Prop := ∀ ms a w, Has c.n ms E a → Kn c.W c.S ms H w → wpAnyIn c.F 0 c.P .any all.toArray (QC c kc) n l.toArray a w
theorem AnyR.weaken {c : Cx} {all : List Oper} {kc : KC} {n : Nat} {l : List Bool} {E E' : Env} {H H' : List Blk} (h : AnyR c all kc n l E' H') (hE : SubD E' E) (hH : HSub H' H) : AnyR c all kc n l E H :=
  fun ms a w ha hk => h ms a w (ha.subD hE) (hk.hsub hH)
end Go.X
