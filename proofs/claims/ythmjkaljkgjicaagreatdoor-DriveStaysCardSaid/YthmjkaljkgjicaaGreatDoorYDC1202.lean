/- Contracts and lemmas for the claim (part 2); no condition of its own. -/
import Derived.Test.YthmjkaljkgjicaaGreatDoorYDC1201
import Derived.Deep.AppendSrc
import Derived.Lib.Strings
set_option linter.all false
set_option linter.unusedVariables false
set_option linter.unusedSimpArgs false
set_option linter.unnecessarySimpa false
namespace Go.X
open Go
/-! more operations: equality of structs, comparisons with nil, places of slices -/
def SOk (P : Program) (L : List Nat) : Prop := ∀ t ∈ L, P.stoodInHeld t = false ∧ P.eqGuardType P.depth t = false ∧ ∀ f ∈ (P.fieldsOf t).toList, f.name ≠ "_"
def memN (t : Nat) : List Nat → Bool
  | [] => false
  | x :: l => cond (Nat.beq x t) true (memN t l)
theorem memN_spec {t : Nat} : ∀ {l : List Nat}, memN t l = true → t ∈ l
  | x :: l, h => by
    simp only [memN] at h
    cases hb : Nat.beq x t with
    | true => rw [beq_true hb]; simp
    | false => rw [hb] at h; exact List.mem_cons_of_mem _ (memN_spec h)
def aggF (s : SV) (k : List SV → Prop) : Prop :=
  match s with
  | .agg cs => k cs
  | .v (.agg vs) => valsF vs.toList k
  | _ => False
theorem aggF_spec {s : SV} {k : List SV → Prop} (h : aggF s k) : ∃ cs, den s = .agg (denL cs).toArray ∧ k cs := by
  unfold aggF at h
  split at h
  · exact ⟨_, rfl, h⟩
  · rename_i vs
    refine ⟨_, ?_, valsF_spec h⟩
    simp [den, denL_map_v]
  · exact h.elim
def eqFs (c : Cx) (rec : Nat → SV → SV → (Bool → Prop) → Prop) (xs ys : List SV) : List Field → (Bool → Prop) → Prop
  | [], k => k true
  | f :: fs, k => loadF c f.type xs f.offset (fun a => loadF c f.type ys f.offset (fun b => rec f.type a b (fun r => eqFs c rec xs ys fs (fun r' => k (r && r')))))
def eqF (c : Cx) (L : List Nat) : Nat → Nat → SV → SV → (Bool → Prop) → Prop
  | 0, _, _, _, _ => False
  | d + 1, t, x, y, k => match c.T.get t with
    | none => False
    | some i => match i.desc with
      | .int _ => match x, y with
        | .v (.int q a), .v (.int q' b) => cond (ikEq q q') (k (decide (a = b))) False
        | _, _ => False
      | .string => match x, y with
        | .v (.string a), .v (.string b) => k (decide (a = b))
        | _, _ => False
      | .bool => match x, y with
        | .v (.bool a), .v (.bool b) => k (a == b)
        | _, _ => False
      | .struct fs => cond (memN t L) (aggF x (fun xs => aggF y (fun ys => eqFs c (eqF c L d) xs ys fs.toList k))) False
      | _ => False
def eqV (c : Cx) (L : List Nat) (t : Nat) (x y : SV) (k : Bool → Prop) : Prop :=
  match c.T.get t with
  | none => False
  | some i => match i.desc, x, y with
    | .pointer _, .loc _ _ _, .v (.pointer none) => k false
    | .pointer _, .v (.pointer (some _)), .v (.pointer none) => k false
    | .pointer _, .v (.pointer none), .v (.pointer none) => k true
    | .func _ _ _, .fn _ _, .v .nilFunc => k false
    | .func _ _ _, .v .nilFunc, .v .nilFunc => k true
    | .func _ _ _, .v (.func _ _ _), .v .nilFunc => k false
    | .map _ _, .v (.map (some _)), .v (.map none) => k false
    | .map _ _, .v (.map none), .v (.map none) => k true
    | .slice _, .slc _ _ _ _ _, .v (.slice none _ _) => k false
    | .slice _, .v (.slice none _ _), .v (.slice none _ _) => k true
    | .bool, .v (.bool a), .v (.bool b) => k (a == b)
    | .struct _, .agg xs, y => cond (memN t L) (eqF c L 8 t (.agg xs) y k) False
    | .struct _, .v (.agg xs), y => cond (memN t L) (eqF c L 8 t (.v (.agg xs)) y k) False
    | _, _, _ => False
def op2 (c : Cx) (L : List Nat) (o : Oper) (E : Env) (H : List Blk) (nx : K1) : Prop :=
  match o.op with
  | .binOp op t x y _ => match opd E x, opd E y with
    | some s, some s' => match op with
      | .eql => eqV c L t s s' (fun b => nx (.v (.bool b)) H)
      | .neq => eqV c L t s s' (fun b => nx (.v (.bool (!b))) H)
      | _ => False
    | _, _ => False
  | .indexAddr t x i => match opd E x, opd E i with
    | some (.slc b bi off len _), some (.v (.int _ (.ofNat m))) => match c.T.get t with
      | some ti => match ti.desc with
        | .slice e => match c.T.get e with
          | some j => cond (Nat.blt m len) (nx (.loc b bi (off + m * j.size)) H) False
          | none => False
        | _ => False
      | none => False
    | _, _ => False
  | _ => False
section
variable {c : Cx}
theorem part_run (hT : TOk c.P c.T) {t : Nat} {cs : List SV} {off : Nat} {k : SV → Prop} (h : loadF c t cs off k) :
    ∃ s, (∀ w, (part t (denL cs).toArray off).run c.P w = .ok (den s) w) ∧ k s := by
  unfold loadF at h
  split at h
  · rename_i i hi
    have hti := hT t i hi
    cases ha : TypeDesc.isAgg i.desc with
    | true =>
      rw [ha] at h
      obtain ⟨h1, h2⟩ := dropF_spec h
      obtain ⟨h3, h4⟩ := takeF_spec h2
      refine ⟨_, fun w => ?_, h4⟩
      unfold part
      rw [Sem.run_bind, r_isAgg hti w]
      simp only [Result.andThen_ok, ha, if_true, Sem.run_bind, r_sizeOf hti w, Sem.run_pure]
      simp [den, denL_take, denL_drop, List.extract_eq_take_drop]
    | false =>
      rw [ha] at h
      obtain ⟨s, h1, h2⟩ := nthF_spec h
      refine ⟨s, fun w => ?_, h2⟩
      unfold part
      rw [Sem.run_bind, r_isAgg hti w]
      simp [ha, denL_getElem?, h1]
  · exact h.elim
theorem eqF_spec (hT : TOk c.P c.T) {L : List Nat} (hL : SOk c.P L) : ∀ {d t : Nat} {x y : SV} {k : Bool → Prop}, eqF c L d t x y k →
    ∃ b, (∀ n w, d ≤ n → (Op.equalIn n t (den x) (den y)).run c.P w = .ok b w) ∧ k b := by
  intro d
  induction d with
  | zero => intro t x y k h; exact h.elim
  | succ d ih =>
    intro t x y k h
    unfold eqF at h
    split at h
    · exact h.elim
    · rename_i i hi
      have hu := (hT t i hi).1
      split at h
      · rename_i q hd
        rw [hd] at hu
        split at h
        · obtain ⟨rfl, g⟩ := ikc h
          refine ⟨_, fun n w hn => ?_, g⟩
          obtain ⟨n, rfl⟩ : ∃ m, n = m + 1 := ⟨n - 1, by omega⟩
          simp [den, run_equalIn_int w n t _ _ _ _ hu, int_beq]
        · exact h.elim
      · rename_i hd
        rw [hd] at hu
        split at h
        · refine ⟨_, fun n w hn => ?_, h⟩
          obtain ⟨n, rfl⟩ : ∃ m, n = m + 1 := ⟨n - 1, by omega⟩
          simp [den, run_equalIn_string w n t _ _ hu, str_beq]
        · exact h.elim
      · rename_i hd
        rw [hd] at hu
        split at h
        · refine ⟨_, fun n w hn => ?_, h⟩
          obtain ⟨n, rfl⟩ : ∃ m, n = m + 1 := ⟨n - 1, by omega⟩
          simp [den, run_equalIn_bool' w n t _ _ hu]
        · exact h.elim
      · rename_i fs hd
        rw [hd] at hu
        cases hm : memN t L with
        | false => rw [hm] at h; exact h.elim
        | true =>
          rw [hm] at h
          obtain ⟨hp, _, hnm⟩ := hL t (memN_spec hm)
          obtain ⟨xs, hx, h⟩ := aggF_spec h
          obtain ⟨ys, hy, h⟩ := aggF_spec h
          have hfs : c.P.fieldsOf t = fs := by simp [Program.fieldsOf, hu]
          rw [hfs] at hnm
          have hall : ∀ (l : List Field) (k : Bool → Prop), (∀ f ∈ l, f.name ≠ "_") → eqFs c (eqF c L d) xs ys l k →
              ∃ b, (∀ n w, d ≤ n → (Op.eqFields n (denL xs).toArray (denL ys).toArray l).run c.P w = .ok b w) ∧ k b := by
            intro l
            induction l with
            | nil => intro k _ h; exact ⟨true, fun n w _ => rfl, h⟩
            | cons f l ihl =>
              intro k hf h
              obtain ⟨a, ha, h⟩ := part_run hT h
              obtain ⟨b, hb, h⟩ := part_run hT h
              obtain ⟨r, hr, h⟩ := ih h
              obtain ⟨r', hr', h⟩ := ihl _ (fun f hf' => hf f (by simp [hf'])) h
              refine ⟨r && r', fun n w hn => ?_, h⟩
              simp only [Op.eqFields, if_pos (hf f (by simp)), Sem.run_bind, ha w, hb w, hr n w hn, Result.andThen_ok]
              cases r with
              | true => simpa using hr' n w hn
              | false => simp
          obtain ⟨b, h1, h2⟩ := hall fs.toList k hnm h
          refine ⟨b, fun n w hn => ?_, h2⟩
          obtain ⟨n, rfl⟩ : ∃ m, n = m + 1 := ⟨n - 1, by omega⟩
          rw [hx, hy, run_equalIn_agg w n t _ _ (by rw [hfs]; exact hu) hp, hfs]
          exact h1 n w (by omega)
      · exact h.elim
theorem eqV_spec (hT : TOk c.P c.T) {L : List Nat} (hL : SOk c.P L) {t : Nat} {x y : SV} {k : Bool → Prop} (h : eqV c L t x y k) :
    ∃ b, (∀ w, (Go.binOp .eql t (den x) (den y)).run c.P w = .ok (.bool b) w ∧ (Go.binOp .neq t (den x) (den y)).run c.P w = .ok (.bool (!b)) w ∧
      ∀ op ox oy, (eqGuard op t ox oy (den x) (den y)).run c.P w = .ok () w) ∧ k b := by
  unfold eqV at h
  split at h
  · exact h.elim
  · rename_i i hi
    have hu := (hT t i hi).1
    have g0 : ∀ (x y : Value) (w : World), (∀ a b, x = .agg a → y = .agg b → False) → (x = .nilIface → False) → ∀ op ox oy, (eqGuard op t ox oy x y).run c.P w = .ok () w := by
      intro x y w h1 h2 op ox oy
      unfold eqGuard
      cases op <;> first
        | rfl
        | (cases x <;> cases y <;> first | rfl | exact (h2 rfl).elim | exact (h1 _ _ rfl rfl).elim)
    have nonagg : ∀ (x y : SV) (b : Bool), (∀ n w, (Op.equalIn (n + 1) t (den x) (den y)).run c.P w = .ok b w) →
        (∀ w, (Go.binOp .eql t (den x) (den y)).run c.P w = ((Op.equal t (den x) (den y)).run c.P w).andThen fun b w' => .ok (.bool b) w') →
        (∀ w, (Go.binOp .neq t (den x) (den y)).run c.P w = ((Op.equal t (den x) (den y)).run c.P w).andThen fun b w' => .ok (.bool (!b)) w') →
        (∀ a b, den x = .agg a → den y = .agg b → False) → (den x = .nilIface → False) → k b →
        ∃ b, (∀ w, (Go.binOp .eql t (den x) (den y)).run c.P w = .ok (.bool b) w ∧ (Go.binOp .neq t (den x) (den y)).run c.P w = .ok (.bool (!b)) w ∧
          ∀ op ox oy, (eqGuard op t ox oy (den x) (den y)).run c.P w = .ok () w) ∧ k b := by
      intro x y b h1 h2 h3 h4 h5 hk
      refine ⟨b, fun w => ⟨?_, ?_, g0 _ _ w h4 h5⟩, hk⟩
      · rw [h2]; simp [Op.equal, Op.maxDepth, h1 9999 w]
      · rw [h3]; simp [Op.equal, Op.maxDepth, h1 9999 w]
    have strc : ∀ (x' y' : SV) (fs : Array Field), i.desc = .struct fs → cond (memN t L) (eqF c L 8 t x' y' k) False →
        ∃ b, (∀ w, (Go.binOp .eql t (den x') (den y')).run c.P w = .ok (.bool b) w ∧ (Go.binOp .neq t (den x') (den y')).run c.P w = .ok (.bool (!b)) w ∧
          ∀ op ox oy, (eqGuard op t ox oy (den x') (den y')).run c.P w = .ok () w) ∧ k b := by
      intro x' y' fs hd h
      rw [hd] at hu
      cases hm : memN t L with
      | false => rw [hm] at h; exact h.elim
      | true =>
        rw [hm] at h
        have h : eqF c L 8 t x' y' k := h
        obtain ⟨b, h1, h2⟩ := eqF_spec hT hL h
        have hagg : ∃ xs ys, den x' = .agg xs ∧ den y' = .agg ys := by
          unfold eqF at h
          rw [hi] at h
          simp only [hd, hm, cond_true] at h
          obtain ⟨xs, hx, h⟩ := aggF_spec h
          obtain ⟨ys, hy, h⟩ := aggF_spec h
          exact ⟨_, _, hx, hy⟩
        obtain ⟨xs, ys, hx, hy⟩ := hagg
        obtain ⟨_, hg, _⟩ := hL t (memN_spec hm)
        refine ⟨b, fun w => ⟨?_, ?_, ?_⟩, h2⟩
        · have := h1 10000 w (by omega)
          rw [hx, hy] at this ⊢
          rw [run_eql_struct, this]; rfl
        · have := h1 10000 w (by omega)
          rw [hx, hy] at this ⊢
          simp only [Go.binOp, Sem.run_bind, Op.equal, Op.maxDepth, this]
          rfl
        · intro op ox oy
          rw [hx, hy]
          unfold eqGuard
          cases op <;> first
            | rfl
            | simp [hg]
    split at h
    all_goals first
      | exact h.elim
      | skip
    case h_12 y' fs xs0 hd =>
      exact strc (.agg xs0) _ fs hd h
    case h_13 y' fs xs0 hd =>
      exact strc (.v (.agg xs0)) _ fs hd h
    all_goals
      (have hd := ‹i.desc = _›
       rw [hd] at hu
       refine nonagg _ _ _ (fun n w => ?_) (fun w => ?_) (fun w => ?_) (by intro a b e; cases e) (by intro e; cases e) h <;> simp [den, Op.equalIn, run_underlying hu, Go.binOp])
theorem OpK.val {o : Oper} {E : Env} {H : List Blk} {nx : K1} (hnd : ∀ cl, o.op ≠ .defer cl) (s : SV)
    (h : ∀ ms a w, Has c.n ms E a → Kn c.W c.S ms H w → (execOp a.eval o).run c.P w = .ok (.value (den s)) w) (hn : nx s H) : OpK c o E H nx := by
  refine ⟨?_⟩
  exact sem1_of_run hnd fun ms a w ha hk => ⟨s, H, w, h ms a w ha hk, hk, hn⟩
theorem OpK.more {L : List Nat} (hL : SOk c.P L) {o : Oper} {E : Env} {H : List Blk} {nx : K1} (h : op2 c L o E H nx) : OpK c o E H nx := by
  have hT := c.ok
  unfold op2 at h
  split at h
  · rename_i op t x y ty ho
    have hnd : ∀ cl, o.op ≠ .defer cl := by rw [ho]; intro cl e; cases e
    split at h
    · rename_i s s' hs hs'
      split at h
      · obtain ⟨b, h1, h2⟩ := eqV_spec hT hL h
        refine OpK.val hnd _ (fun ms a w ha hk => ?_) h2
        simp [execOp, ho, ha.opd hs, ha.opd hs', (h1 w).1, (h1 w).2.2, den]
      · obtain ⟨b, h1, h2⟩ := eqV_spec hT hL h
        refine OpK.val hnd _ (fun ms a w ha hk => ?_) h2
        simp [execOp, ho, ha.opd hs, ha.opd hs', (h1 w).2.1, (h1 w).2.2, den]
      · exact h.elim
    · exact h.elim
  · rename_i t x i ho
    have hnd : ∀ cl, o.op ≠ .defer cl := by rw [ho]; intro cl e; cases e
    split at h
    · rename_i b bi off len cap q m hs hi
      split at h
      · rename_i ti hti
        split at h
        · rename_i e hd
          split at h
          · rename_i j hj
            cases hb : Nat.blt m len with
            | false => rw [hb] at h; exact h.elim
            | true =>
              rw [hb] at h
              have hlt : m < len := Nat.le_of_ble_eq_true hb
              refine OpK.val hnd _ (fun ms a w ha hk => ?_) h
              have e1 := ha.opd hs
              have e2 := ha.opd hi
              simp only [den] at e1 e2
              have hu := (hT t ti hti).1
              rw [hd] at hu
              simp [execOp, ho, e1, e2, Instr.indexAt, asIntOf, run_underlying hu, r_sizeOf (hT e j hj) w, hlt, add_none, den]
          · exact h.elim
        · exact h.elim
      · exact h.elim
    · exact h.elim
  · exact h.elim
end
end Go.X

namespace Go.X
open Go
/-- the code, run as far as it goes without a loop -/
def runF (c : Cx) : Code → Env → List Blk → KC → Prop
  | .skip, E, H, k => k .nrm E H
  | .label _, E, H, k => k .nrm E H
  | .ret, E, H, k => k .ret E H
  | .exit id, E, H, k => k (.exit id) E H
  | .seq x y, E, H, k => runF c x E H (fun e E H => match e with
    | .nrm => runF c y E H k
    | .ret => k .ret E H
    | .exit j => k (.exit j) E H)
  | .cond x y z, E, H, k => condF E x (fun E => runF c y E H k) (fun E => runF c z E H k)
  | .block id b, E, H, k => runF c b E H (blockK id k)
  | .region id ops false, E, H, k => opsF c ops.toList ops.toList E H (k .nrm)
  | x, E, H, k => Run c x E H k
theorem runF.run {c : Cx} : ∀ {x : Code} {E : Env} {H : List Blk} {k : KC}, runF c x E H k → Run c x E H k
  | .skip, E, H, k, h => r_skip h
  | .label _, E, H, k, h => r_label h
  | .ret, E, H, k, h => r_ret h
  | .exit id, E, H, k, h => r_exit h
  | .seq x y, E, H, k, h => r_seq fun K hK => by
    have h1 := runF.run (x := x) h
    refine .of fun ms a w ha hk => wpIn_mono (Run.out h1 ms a w ha hk) ?_
    intro e a w hq
    have go : ∀ e E H, (match e with
      | .nrm => runF c y E H k
      | .ret => k .ret E H
      | .exit j => k (.exit j) E H) → thenK K k e E H := by
      intro e E H h
      cases e with
      | nrm => exact hK E H (runF.run h)
      | ret => exact h
      | exit j => exact h
    cases e with
    | normal => obtain ⟨ms', E', H', q1, q2, q3⟩ := hq; exact ⟨ms', E', H', q1, q2, go .nrm E' H' q3⟩
    | ret => obtain ⟨ms', E', H', q1, q2, q3⟩ := hq; exact ⟨ms', E', H', q1, q2, go .ret E' H' q3⟩
    | exit j => obtain ⟨ms', E', H', q1, q2, q3⟩ := hq; exact ⟨ms', E', H', q1, q2, go (.exit j) E' H' q3⟩
    | goto j => exact hq
    | panic j => exact hq
    | outgrown => exact hq
  | .cond x y z, E, H, k, h => r_cond fun KA hA KB hB => by
    have h : condF E x (fun E => runF c y E H k) (fun E => runF c z E H k) := h
    unfold condF at h ⊢
    split at h
    · rename_i p hp
      split at h
      · cases p with
        | true => exact hA _ (runF.run h)
        | false => exact hB _ (runF.run h)
      · cases p with
        | true => exact hA _ (runF.run h)
        | false => exact hB _ (runF.run h)
    · exact h.elim
  | .block id b, E, H, k, h => r_block (runF.run (x := b) h)
  | .region id ops false, E, H, k, h => by
    have := r_region (c := c) (id := id) (l := ops.toList) (E := E) (H := H) (k := k) h
    simpa using this
  | .region id ops true, E, H, k, h => h
  | .scope b, E, H, k, h => h
  | .loop b, E, H, k, h => h
  | .rangeFunc _ _ _ _, E, H, k, h => h
  | .goto _, E, H, k, h => h
  | .refuse _, E, H, k, h => h
theorem if_t {b : Bool} {x y : Prop} (h : b = true) (hx : x) : cond b x y := by rw [h]; exact hx
theorem if_f {b : Bool} {x y : Prop} (h : b = false) (hy : y) : cond b x y := by rw [h]; exact hy
end Go.X

namespace Go.X
open Go
/-! slices: their cells as a list, with spare room behind -/
def bcell (b : UInt8) : Value := .int .u8 b.toNat
def bcells (l : List UInt8) : List Value := l.map bcell
theorem bcells_append (a b : List UInt8) : bcells (a ++ b) = bcells a ++ bcells b := by simp [bcells]
theorem bcells_length (a : List UInt8) : (bcells a).length = a.length := by simp [bcells]
/-- the block b holds the cells cs of a slice of n parts of k cells each -/
def SlAt (w : World) (e : TypeId) (k : Nat) (a : Option Addr) (n cap : Nat) (cs : List Value) (b : Nat) : Prop :=
  ∃ pre post fr, a = some ⟨b, pre.length, none⟩ ∧ w.heap[b]? = some (.cells (pre ++ cs ++ post).toArray e fr) ∧ cs.length = n * k ∧ n ≤ cap ∧ (cap - n) * k ≤ post.length ∧
    (fr.1 ≠ fr.2 → k = 1 ∧ pre.length + cs.length + post.length ≤ fr.1)
theorem SlAt.loc {w w' : World} {e k a n cap cs b} (h : SlAt w e k a n cap cs b) (hb : w'.heap[b]? = w.heap[b]?) : SlAt w' e k a n cap cs b := by
  obtain ⟨pre, post, fr, h1, h2, h3⟩ := h
  exact ⟨pre, post, fr, h1, by rw [hb]; exact h2, h3⟩
def SlA (e : TypeId) (k : Nat) (a : Option Addr) (n cap : Nat) (cs : List Value) : Ass :=
  ⟨fun w S => (a = none ∧ n = 0 ∧ cap = 0 ∧ cs = []) ∨ ∃ b, S b ∧ SlAt w e k a n cap cs b, fun _ _ _ h hx => hx.imp id fun ⟨b, hb, hs⟩ => ⟨b, hb, hs.loc (h b hb)⟩⟩
theorem SlA.len {e k a n cap cs w S} (h : (SlA e k a n cap cs).holds w S) : cs.length = n * k := by
  rcases h with ⟨_, rfl, _, rfl⟩ | ⟨b, _, pre, post, fr, _, _, h, _⟩
  · simp
  · exact h
theorem setCells_heap {b : Nat} {t : TypeId} {f : Nat × Nat} : ∀ (vs : List Value) (o : Nat) (w : World) (C : List Value), w.heap[b]? = some (.cells C.toArray t f) → o + vs.length ≤ C.length →
    (w.setCells b o vs).heap[b]? = some (.cells (C.take o ++ vs ++ C.drop (o + vs.length)).toArray t f)
  | [], o, w, C, h, hl => by simp [World.setCells, h]
  | v :: vs, o, w, C, h, hl => by
    simp only [List.length_cons] at hl
    have h1 : (w.setCell ⟨b, o, none⟩ v).heap[b]? = some (.cells (C.set o v).toArray t f) := by
      simp [World.setCell, h, Array.getElem?_modify]
    rw [World.setCells, setCells_heap vs (o + 1) _ _ h1 (by simp; omega)]
    have h2 : C.set o v = C.take o ++ v :: C.drop (o + 1) := by
      rw [List.set_eq_take_append_cons_drop, if_pos (by omega)]
    have h3 : (C.take o).length = o := by rw [List.length_take]; omega
    have h4 : (C.set o v).take (o + 1) = C.take o ++ [v] := by
      rw [h2, List.take_append, h3, List.take_of_length_le (by omega), Nat.add_sub_cancel_left]
      simp
    have h5 : (C.set o v).drop (o + 1 + vs.length) = C.drop (o + (vs.length + 1)) := by
      rw [h2, List.drop_append, h3, List.drop_of_length_le (by omega), show o + 1 + vs.length - o = vs.length + 1 by omega]
      simp only [List.nil_append, List.drop_succ_cons, List.drop_drop]
      congr 1
      omega
    rw [h4, h5]
    simp
theorem setCells_other {b : Nat} : ∀ (vs : List Value) (o : Nat) (w : World) (k : Nat), k ≠ b → (w.setCells b o vs).heap[k]? = w.heap[k]?
  | [], _, _, _, _ => rfl
  | v :: vs, o, w, k, h => by
    rw [World.setCells, setCells_other vs _ _ k h]
    simp only [World.setCell, Array.getElem?_modify]
    rw [if_neg (fun e => h e.symm)]
theorem setCells_same {b : Nat} : ∀ (vs : List Value) (o : Nat) (w : World), (w.setCells b o vs).os = w.os ∧ (w.setCells b o vs).tape = w.tape ∧ (w.setCells b o vs).output = w.output ∧ (w.setCells b o vs).heap.size = w.heap.size
  | [], _, _ => ⟨rfl, rfl, rfl, rfl⟩
  | v :: vs, o, w => by
    rw [World.setCells]
    obtain ⟨h1, h2, h3, h4⟩ := setCells_same (b := b) vs (o + 1) (w.setCell ⟨b, o, none⟩ v)
    exact ⟨h1, h2, h3, by rw [h4]; simp [World.setCell]⟩
theorem info_of {P : Program} {e : Nat} {j : TI} (h : TIok P e j) : ∃ i, P.info? e = some i ∧ i.size = j.size ∧ i.bytes = j.bytes ∧ i.zero = some j.zero := by
  have := h.2
  cases hi : P.info? e with
  | none => rw [hi] at this; cases this
  | some i =>
    rw [hi] at this
    simp only [Option.map_some, Option.some.injEq, Prod.mk.injEq] at this
    exact ⟨i, rfl, this.1, this.2.1, this.2.2⟩
/-- append, at a slice of one's own -/
theorem app_core {P : Program} {t tx ty e : Nat} {j : TI} (ht : P.underlying t = some (.slice e)) (hj : TIok P e j) (hz : j.zero.cells.size = j.size)
    {a : Option Addr} {n cap : Nat} {cs : List Value} {w : World} {S : Nat → Prop} (hs : (SlA e j.size a n cap cs).holds w S) (hS : ∀ k, S k → k < w.heap.size)
    {x : Value} {m : Nat} {news : List Value} (hx : Src P j.size tx x m news w) (hbig : (n + m) * (j.bytes + 1) ≤ 140737488355328) :
    ∃ a' cap' w', (Builtin.append_ #[t, tx] ty #[.slice a n cap, x]).run P w = .ok (.slice a' (n + m) cap') w' ∧ FPost S w (SlA e j.size a' (n + m) cap' (cs ++ news)) w' := by
  obtain ⟨i, hi, hi1, hi2, hi3⟩ := info_of hj
  have hcs := SlA.len hs
  have hbig1 : (n + m) * j.bytes ≤ 140737488355328 := Nat.le_trans (Nat.mul_le_mul_left _ (Nat.le_succ _)) hbig
  have hbig2 : n + m ≤ 140737488355328 := Nat.le_trans (Nat.le_mul_of_pos_right _ (Nat.succ_pos _)) hbig
  rw [← hi1] at hx hz hcs
  by_cases hroom : n + m ≤ cap
  · rcases hs with ⟨rfl, rfl, rfl, rfl⟩ | ⟨b, hb, pre, post, fr, rfl, hh, hl, hnc, hp, hf⟩
    · obtain rfl : m = 0 := by omega
      have hn : news = [] := by have := hx.newsLen; simpa using this
      subst hn
      refine ⟨none, 0, w, ?_, ⟨rfl, rfl, rfl, Nat.le_refl _, fun _ _ _ => rfl⟩, fun _ => False, .inl ⟨rfl, rfl, rfl, rfl⟩, fun _ h => h.elim⟩
      rcases hx.kind with ⟨e', hk⟩ | hk <;> simp [Builtin.append_, run_underlying ht, run_underlying hk, sizeOf, typeInfo, hi, hx.len, hx.cells]
    · rw [← hi1] at hl hp
      have hmul : (cap - n) * i.size = (cap - n - m) * i.size + m * i.size := by rw [← Nat.add_mul]; congr 1; omega
      have hroom2 : news.length ≤ post.length := by rw [hx.newsLen]; omega
      have hcell : ∀ j, j < news.length → w.cell? ⟨b, pre.length + n * i.size + j, none⟩ = post[j]? := by
        intro j hj
        rw [cell_of hh]
        simp only [List.getElem?_toArray]
        rw [List.getElem?_append_right (by simp; omega)]
        congr 1
        simp; omega
      have hfr : ∀ j, j < news.length → w.frozen? ⟨b, pre.length + n * i.size + j, none⟩ = false := by
        intro j hj
        simp only [World.frozen?, hh]
        simp only [Bool.and_eq_false_iff, decide_eq_false_iff_not]
        by_cases hlt : fr.1 < fr.2
        · left; have := (hf (Nat.ne_of_lt hlt)).2; omega
        · by_cases h0 : fr.1 ≤ pre.length + n * i.size + j
          · right; omega
          · left; exact h0
      have hr := run_append_room_src (P := P) w t tx ty e i ht hi b pre.length n cap x m news hx hroom (fun j hj => by rw [hcell j hj, List.getElem?_eq_getElem (by omega)]; rfl) hfr
      obtain ⟨q1, q2, q3, q4⟩ := setCells_same (b := b) news (pre.length + n * i.size) w
      have hbl := hS b hb
      refine ⟨_, _, _, hr, ⟨q1, q2, q3, by rw [q4]; exact Nat.le_refl _, fun k hk hn => setCells_other _ _ _ _ (fun e => hn (e ▸ hb))⟩, fun k => k = b, .inr ⟨b, rfl, pre, post.drop news.length, fr, rfl, ?_, ?_, hroom, ?_, ?_⟩, ?_⟩
      · rw [setCells_heap news (pre.length + n * i.size) w _ hh (by simp; omega)]
        congr 3
        have e1 : (pre ++ cs ++ post).take (pre.length + n * i.size) = pre ++ cs := by
          rw [← hl, ← List.length_append, List.take_left']; rfl
        have e2 : (pre ++ cs ++ post).drop (pre.length + n * i.size + news.length) = post.drop news.length := by
          rw [← hl, ← List.length_append, List.drop_append]
          simp
        rw [e1, e2]
        simp [List.append_assoc]
      · rw [List.length_append, hcs, hx.newsLen, Nat.add_mul, hi1]
      · rw [List.length_drop, hx.newsLen, ← hi1]
        have : (cap - (n + m)) * i.size + m * i.size = (cap - n) * i.size := by rw [← Nat.add_mul]; congr 1; omega
        omega
      · intro hlt
        have := hf hlt
        rw [List.length_append, List.length_drop]
        exact ⟨this.1, by omega⟩
      · rintro k rfl
        exact ⟨by rw [q4]; exact hbl, .inl hb⟩
  · have hold : (Builtin.firstCells i.size n (.slice a n cap)).run P w.drew = .ok cs.toArray w.drew := by
      rcases hs with ⟨rfl, rfl, rfl, rfl⟩ | ⟨b, hb, pre, post, fr, rfl, hh, hl, hnc, hp, hf⟩
      · exact run_firstCells_none w.drew i.size 0 0 0
      · refine run_firstCells_some w.drew i.size n _ n cap cs hcs fun j v hj => ?_
        have hlt : j < cs.length := (List.getElem?_eq_some_iff.1 hj).1
        rw [add_none]
        have : w.drew.cell? ⟨b, pre.length + j, none⟩ = w.cell? ⟨b, pre.length + j, none⟩ := rfl
        rw [this, cell_of hh]
        simp only [List.getElem?_toArray]
        rw [List.append_assoc, List.getElem?_append_right (by omega), List.getElem?_append_left (by omega)]
        simpa using hj
    have hg : cap < n + m := by omega
    have hr := run_append_grow_src (P := P) w t tx ty e i j.zero ht hi hi3 a n cap cs hold x m news hx hg (by omega) (growslice_fits hg (by rw [hi2]; omega))
    have hge := grownCap_ge w (n + m) cap e
    have hsz : (w.drew.alloc (.cells ((cs ++ news).toArray ++ Builtin.zeroCells j.zero.cells (grownCap w (n + m) cap e - (n + m))) e)).heap.size = w.heap.size + 1 := by
      rw [heap_alloc, Array.size_push]; rfl
    refine ⟨_, _, _, hr, ⟨rfl, rfl, rfl, by rw [hsz]; omega, fun k hk _ => ?_⟩, fun k => k = w.heap.size, .inr ⟨w.heap.size, rfl, [], (Builtin.zeroCells j.zero.cells (grownCap w (n + m) cap e - (n + m))).toList, (0, 0), rfl, ?_, ?_, hge, ?_, ?_⟩, ?_⟩
    · rw [heap_alloc, Array.getElem?_push]
      rw [if_neg (by show ¬ k = w.heap.size; omega)]
      rfl
    · rw [heap_alloc]
      have : w.drew.heap.size = w.heap.size := rfl
      rw [← this, Array.getElem?_push_size]
      congr 2
      apply Array.ext'
      simp
    · rw [List.length_append, hcs, hx.newsLen, Nat.add_mul, hi1]
    · rw [Array.length_toList, size_zeroCells, hz, ← hi1]
      exact Nat.le_refl _
    · simp
    · rintro k rfl
      exact ⟨by rw [hsz]; omega, .inr (Nat.le_refl _)⟩
/-- x stands in H; f lays something else in its place -/
inductive At : List Blk → Blk → (Blk → List Blk) → Prop
  | head {x : Blk} {H : List Blk} : At (x :: H) x (fun y => y :: H)
  | tail {z x : Blk} {H : List Blk} {f : Blk → List Blk} (h : At H x f) : At (z :: H) x (fun y => z :: f y)
theorem At.spec {H : List Blk} {x : Blk} {f : Blk → List Blk} (h : At H x f) : ∃ A B, H = A ++ x :: B ∧ ∀ y, f y = A ++ y :: B := by
  induction h with
  | head => exact ⟨[], _, rfl, fun _ => rfl⟩
  | @tail z _ _ _ _ ih => obtain ⟨A, B, h1, h2⟩ := ih; exact ⟨z :: A, B, by rw [h1]; rfl, fun y => by show z :: _ = _; rw [h2]; rfl⟩
theorem Kn.upd1 {W S ms H w} {x : Blk} {f : Blk → List Blk} (hu : At H x f) (h : Kn W S ms H w) :
    ∃ T, x.ass.holds w T ∧ (∀ k, T k → k < w.heap.size) ∧ (∀ k, T k → S k ∨ W.heap.size ≤ k) ∧ ∀ (y : Blk) w', FPost T w y.ass w' → Kn W S ms (f y) w' := by
  obtain ⟨A, B, rfl, h2⟩ := hu.spec
  have hp : ∀ y, (ms.map DB ++ (A ++ y :: B)).Perm (y :: (ms.map DB ++ (A ++ B))) := by
    intro y
    rw [← List.append_assoc, ← List.append_assoc]
    exact List.perm_middle
  have h0 := Kn0.perm h (hp x)
  obtain ⟨T0, hT0, hb⟩ := h0.foot
  cases hT0 with
  | @cons _ _ T T' hx hbx hH hd =>
    refine ⟨T, (Blk.ass_holds _ _ _).2 hx, hbx, fun k hk => hb k (.inl hk), fun y w' ⟨he, S', h1, h2'⟩ => ?_⟩
    rw [h2]
    refine (Kn0.eff h0 (T := T) (fun k hk => hb k (.inl hk)) he (H' := y :: (ms.map DB ++ (A ++ B)))
      (.cons ((Blk.ass_holds _ _ _).1 h1) (fun k hk => (h2' k hk).1) (hH.mono he.size fun k hk => he.old k (hH.lt k hk) fun h => hd k h hk) fun k hk hk' => ?_) fun k hk => ?_).perm (hp y).symm
    · rcases (h2' k hk).2 with h | h
      · exact hd k h hk'
      · have := hH.lt k hk'; omega
    · rcases hk with hk | hk
      · rcases (h2' k hk).2 with h | h
        · exact .inl h
        · have := h0.size; exact .inr (.inr (by omega))
      · exact .inr (hb k (.inr hk))
/-- an assertion that owns nothing may be laid by -/
theorem Kn.free {W S ms H w} (h : Kn W S ms H w) (i : Nat) {A : Ass} (hA : A.holds w (fun _ => False)) : Kn W S ms (.ext i A :: H) w := by
  obtain ⟨T, hT, hb⟩ := Kn0.foot h
  have h1 : Kn0 W S (.ext i A :: (ms.map DB ++ H)) w :=
    ⟨Kn0.os h, Kn0.tape h, Kn0.output h, Kn0.size h, Kn0.old h, _, .cons (x := .ext i A) hA (fun _ h => h.elim) hT (fun _ h _ => h), fun k hk => hk.elim False.elim (hb k)⟩
  exact Kn0.perm h1 (List.perm_middle.symm)
section
variable {c : Cx} {o : Oper} {E : Env} {H : List Blk} {nx : K1}
theorem OpK.run (hnd : ∀ cl, o.op ≠ .defer cl)
    (h : ∀ ms a w, Has c.n ms E a → Kn c.W c.S ms H w → ∃ s H' w', (execOp a.eval o).run c.P w = .ok (.value (den s)) w' ∧ Kn c.W c.S ms H' w' ∧ nx s H') : OpK c o E H nx := by
  refine ⟨?_⟩
  exact sem1_of_run hnd fun ms a w ha hk => by
    obtain ⟨s, H', w', h1, h2, h3⟩ := h ms a w ha hk
    exact ⟨s, H', w', h1, h2, h3⟩
/-- what is seen behind a slice -/
def Sees (c : Cx) (H : List Blk) (e k : Nat) (a : Option Addr) (n cap : Nat) (cs : List Value) : Prop :=
  ∀ ms w, Kn c.W c.S ms H w → ∃ S, (SlA e k a n cap cs).holds w S ∧ ∀ k, S k → k < w.heap.size
theorem Sees.ext {i e k a n cap cs f} (hu : At H (.ext i (SlA e k a n cap cs)) f) : Sees c H e k a n cap cs := fun ms w hk => by
  obtain ⟨T, h1, h2, _⟩ := hk.upd1 hu
  exact ⟨T, h1, h2⟩
/-- memory that was there, and is not ours -/
def Old (W : World) (S : Nat → Prop) (A : Ass) : Prop := ∃ T, A.holds W T ∧ ∀ k, T k → k < W.heap.size ∧ ¬ S k
theorem Old.now {W S ms H w A} (h : Old W S A) (hk : Kn W S ms H w) : ∃ T, A.holds w T ∧ ∀ k, T k → k < w.heap.size := by
  obtain ⟨T, h1, h2⟩ := h
  exact ⟨T, A.loc W w T (fun k hT => Kn0.old hk k (h2 k hT).1 (h2 k hT).2) h1, fun k hT => Nat.lt_of_lt_of_le (h2 k hT).1 (Kn0.size hk)⟩
theorem Sees.old {e k a n cap cs} (h : Old c.W c.S (SlA e k a n cap cs)) : Sees c H e k a n cap cs := fun _ _ hk => h.now hk
def SrcK (c : Cx) (H : List Blk) (k tx : Nat) (s : SV) (m : Nat) (news : List Value) : Prop :=
  ∀ ms w, Kn c.W c.S ms H w → Src c.P k tx (den s) m news w
theorem SrcK.str {tx : Nat} {ti : TI} (hti : c.T.get tx = some ti) (hd : ti.desc = .string) {b : ByteArray} : SrcK c H 1 tx (.v (.string b)) b.size (bcells b.data.toList) := fun _ w _ => by
  have hu := (c.ok tx ti hti).1
  rw [hd] at hu
  exact Src.ofString w hu b
theorem SrcK.sees {tx e e' k : Nat} {ti : TI} (hti : c.T.get tx = some ti) (hd : ti.desc = .slice e') {a n cap cs} (hs : Sees c H e k a n cap cs) (h1 : ∀ u ∈ cs, u.oneCell' = true) : SrcK c H k tx (.v (.slice a n cap)) n cs := fun ms w hk => by
  have hu := (c.ok tx ti hti).1
  rw [hd] at hu
  obtain ⟨S, h, hS⟩ := hs ms w hk
  have hl := SlA.len h
  rcases h with ⟨rfl, rfl, rfl, rfl⟩ | ⟨b, hb, pre, post, fr, rfl, hh, _, hnc, hp, hf⟩
  · exact Src.ofNil w hu 0
  · refine Src.ofSlice w hu _ n cap cs hl (fun j v hj => ?_) h1
    have hlt : j < cs.length := (List.getElem?_eq_some_iff.1 hj).1
    rw [add_none, cell_of hh]
    simp only [List.getElem?_toArray]
    rw [List.append_assoc, List.getElem?_append_right (by omega), List.getElem?_append_left (by omega)]
    simpa using hj
theorem SrcK.slc {tx e' k : Nat} {ti : TI} (hti : c.T.get tx = some ti) (hd : ti.desc = .slice e') {b i off len cap : Nat} {cs : List SV} {t : Nat} (hm : .blk i b cs t ∈ H)
    (hl : off + len * k ≤ cs.length) (h1 : allOne ((cs.drop off).take (len * k)) = true) : SrcK c H k tx (.slc b i off len cap) len (denL ((cs.drop off).take (len * k))) := fun ms w hk => by
  have hu := (c.ok tx ti hti).1
  rw [hd] at hu
  have hg := hk.got hm
  refine Src.ofSlice w hu _ len cap _ (by rw [denL_length]; simp; omega) (fun j v hj => ?_) (allOne_den h1)
  rw [add_none, cell_of hg]
  simp only [List.getElem?_toArray]
  rw [denL_take, denL_drop, List.getElem?_take] at hj
  split at hj
  · rwa [List.getElem?_drop] at hj
  · cases hj
theorem OpK.app {x y : Operand} {t tx e : Nat} {ti j : TI} (ho : o.op = .call { callee := .builtin .append, args := #[x, y], argTypes := #[t, tx] })
    {a : Option Addr} {n cap : Nat} {s : SV} (hx : opd E x = some (.v (.slice a n cap))) (hy : opd E y = some s) (hti : c.T.get t = some ti) (hd : ti.desc = .slice e) (hj : c.T.get e = some j) (hz : j.zero.cells.size = j.size) {k : Nat} (hkk : j.size = k)
    {i : Nat} {cs : List Value} {f : Blk → List Blk} (hu : At H (.ext i (SlA e k a n cap cs)) f) {m : Nat} {news : List Value} (hs : SrcK c H k tx s m news) (hbig : (n + m) * (j.bytes + 1) ≤ 140737488355328)
    (h : ∀ a' cap', nx (.v (.slice a' (n + m) cap')) (f (.ext i (SlA e k a' (n + m) cap' (cs ++ news))))) : OpK c o E H nx := by
  subst hkk
  have hnd : ∀ cl, o.op ≠ .defer cl := by rw [ho]; intro cl e; cases e
  refine OpK.run hnd fun ms ac w ha hk => ?_
  obtain ⟨T, h1, h2, h3, h4⟩ := hk.upd1 hu
  have hu := (c.ok t ti hti).1
  rw [hd] at hu
  obtain ⟨a', cap', w', hr, hp⟩ := app_core (ty := o.type) hu (c.ok e j hj) hz h1 h2 (hs ms w hk) hbig
  refine ⟨_, _, w', ?_, h4 (.ext i (SlA e j.size a' (n + m) cap' (cs ++ news))) w' hp, h a' cap'⟩
  have e1 := ha.opd hx
  have e2 := ha.opd hy
  simp only [den] at e1
  simp [execOp, ho, resolve, invoke, builtin, e1, e2, hr, den]
/-- cells behind an address -/
def PC (c : Cx) (H : List Blk) (b off : Nat) (cs : List SV) : Prop :=
  ∀ ms w, Kn c.W c.S ms H w → ∃ C t f, w.heap[b]? = some (.cells C t f) ∧ ∀ j v, (denL cs)[j]? = some v → C[off + j]? = some v
theorem PC.field {b off : Nat} {cs : List SV} (k : Nat) (h : PC c H b off cs) : PC c H b (off + k) (cs.drop k) := fun ms w hk => by
  obtain ⟨C, t, f, h1, h2⟩ := h ms w hk
  refine ⟨C, t, f, h1, fun j v hj => ?_⟩
  rw [denL_drop, List.getElem?_drop] at hj
  have := h2 _ _ hj
  rwa [← Nat.add_assoc] at this
theorem OpK.ldp {t : Nat} {x : Operand} (ho : o.op = .load t x) {b off : Nat} {cs : List SV} (hx : opd E x = some (.v (.pointer (some ⟨b, off, none⟩)))) (hp : PC c H b off cs) (hne : cs ≠ []) (h : loadF c t cs 0 (fun s => nx s H)) : OpK c o E H nx := by
  have hnd : ∀ cl, o.op ≠ .defer cl := by rw [ho]; intro cl e; cases e
  unfold loadF at h
  split at h
  · rename_i i hi
    have hti := c.ok t i hi
    cases ha : TypeDesc.isAgg i.desc with
    | true =>
      rw [ha] at h
      obtain ⟨h1, h2⟩ := takeF_spec (show takeF i.size cs (fun l => nx (.agg l) H) from h)
      refine OpK.run hnd fun ms ac w hac hk => ⟨_, H, w, ?_, hk, h2⟩
      obtain ⟨C, t', f, h3, h4⟩ := hp ms w hk
      have e1 := hac.opd hx
      simp only [den] at e1
      have hsz : ∀ j, j < i.size → C[off + j]? = (denL cs)[j]? := fun j hj => by
        have : j < (denL cs).length := by rw [denL_length]; omega
        rw [h4 j _ (List.getElem?_eq_getElem this), List.getElem?_eq_getElem this]
      have hC : off + i.size ≤ C.size := by
        cases hz : i.size with
        | zero =>
          have h0 : 0 < (denL cs).length := by rw [denL_length]; exact List.length_pos_iff.2 hne
          have := h4 0 _ (List.getElem?_eq_getElem h0)
          have := (Array.getElem?_eq_some_iff.1 this).1
          omega
        | succ m =>
          have := hsz m (by omega)
          rw [List.getElem?_eq_getElem (by rw [denL_length]; omega)] at this
          have := (Array.getElem?_eq_some_iff.1 this).1
          omega
      have h5 := (r_loadVar hti h3).1 ha hC
      have h6 : (C.toList.drop off).take i.size = denL (cs.take i.size) := by
        apply List.ext_getElem?
        intro j
        rw [denL_take, List.getElem?_take, List.getElem?_take]
        split
        · rename_i hj
          rw [List.getElem?_drop, Array.getElem?_toList, hsz j hj]
        · rfl
      simp [execOp, ho, e1, Instr.loadAt, Instr.sureAddr, h5, den, h6]
    | false =>
      rw [ha] at h
      obtain ⟨s, h1, h2⟩ := nthF_spec (show nthF 0 cs (fun s => nx s H) from h)
      refine OpK.run hnd fun ms ac w hac hk => ⟨_, H, w, ?_, hk, h2⟩
      obtain ⟨C, t', f, h3, h4⟩ := hp ms w hk
      have e1 := hac.opd hx
      simp only [den] at e1
      have h5 := (r_loadVar hti h3 (off := off)).2 ha (den s) (by simpa using h4 0 _ (by rw [denL_getElem?, h1]; rfl))
      simp [execOp, ho, e1, Instr.loadAt, Instr.sureAddr, h5]
  · exact h.elim
theorem OpK.fap {t f : Nat} {x : Operand} (ho : o.op = .fieldAddr t x f) {b off : Nat} {cs : List SV} (hx : opd E x = some (.v (.pointer (some ⟨b, off, none⟩)))) (hp : PC c H b off cs)
    (h : fieldF c t f (fun k => PC c H b (off + k) (cs.drop k) → nx (.v (.pointer (some ⟨b, off + k, none⟩))) H)) : OpK c o E H nx := by
  have hnd : ∀ cl, o.op ≠ .defer cl := by rw [ho]; intro cl e; cases e
  obtain ⟨i, fs, fd, j, h1, h2, h3, h4, h5, h6⟩ := fieldF_spec h
  refine OpK.run hnd fun ms ac w hac hk => ?_
  have hf : fieldF c t f (fun k => k = fd.offset) := by
    unfold fieldF
    simp only [h1, h2, h3, h4]
    split
    · exact absurd (by assumption) h5
    · trivial
  obtain ⟨m, hr, rfl⟩ := r_fieldAt c.ok hf b off w
  refine ⟨_, H, w, ?_, hk, h6 (hp.field _)⟩
  have e1 := hac.opd hx
  simp only [den] at e1
  simp [execOp, ho, e1, hr, den]
theorem OpK.idx {t e : Nat} {x ix : Operand} {ti j : TI} (ho : o.op = .indexAddr t x ix) {a : Option Addr} {n cap : Nat} {q : IntKind} {z : Int} (hx : opd E x = some (.v (.slice a n cap))) (hi : opd E ix = some (.v (.int q z)))
    (hti : c.T.get t = some ti) (hd : ti.desc = .slice e) (hj : c.T.get e = some j) {k : Nat} (hkk : j.size = k) {cs : List Value} (hs : Sees c H e k a n cap cs) (h0 : 0 ≤ z) (hlt : z < n) {ecs : List SV} (hc : (cs.drop (z.toNat * k)).take k = denL ecs)
    (h : ∀ b off, PC c H b off ecs → nx (.v (.pointer (some ⟨b, off, none⟩))) H) : OpK c o E H nx := by
  subst hkk
  have hnd : ∀ cl, o.op ≠ .defer cl := by rw [ho]; intro cl e; cases e
  refine OpK.run hnd fun ms ac w hac hk => ?_
  have hu := (c.ok t ti hti).1
  rw [hd] at hu
  obtain ⟨S, hS, _⟩ := hs ms w hk
  rcases hS with ⟨_, rfl, _, _⟩ | ⟨b, hb, pre, post, fr, rfl, hh, hl, hnc, hp, hf⟩
  · omega
  · have e1 := hac.opd hx
    have e2 := hac.opd hi
    simp only [den] at e1 e2
    refine ⟨_, H, w, ?_, hk, h b (pre.length + z.toNat * j.size) ?_⟩
    · simp [execOp, ho, e1, e2, Instr.indexAt, asIntOf, run_underlying hu, r_sizeOf (c.ok e j hj) w, hlt, h0, add_none, den]
    · intro ms' w' hk'
      obtain ⟨S', hS', _⟩ := hs ms' w' hk'
      rcases hS' with ⟨hn, _⟩ | ⟨b', hb', pre', post', fr', he, hh', hl', hnc', hp', hf'⟩
      · cases hn
      · simp only [Option.some.injEq, Addr.mk.injEq, and_true] at he
        obtain ⟨rfl, he⟩ := he
        refine ⟨_, _, _, hh', fun m v hm => ?_⟩
        rw [← hc, List.getElem?_take] at hm
        split at hm
        · rw [List.getElem?_drop] at hm
          have hlt : z.toNat * j.size + m < cs.length := (List.getElem?_eq_some_iff.1 hm).1
          simp only [List.getElem?_toArray]
          rw [List.append_assoc, List.getElem?_append_right (by omega), List.getElem?_append_left (by omega)]
          rw [show pre.length + z.toNat * j.size + m - pre'.length = z.toNat * j.size + m by omega]
          exact hm
        · cases hm
end
end Go.X

namespace Go.X
open Go
section
variable {c : Cx} {o : Oper} {E : Env} {H : List Blk} {nx : K1}
/-- a bound of a slicing -/
def bnd (E : Env) (o : Option Operand) (d : Int) (k : Int → Prop) : Prop :=
  match o with
  | none => k d
  | some x => match opd E x with
    | some (.v (.int _ z)) => k z
    | _ => False
theorem bnd_spec {E : Env} {o : Option Operand} {d : Int} {k : Int → Prop} (h : bnd E o d k) :
    ∃ z, k z ∧ ((o = none ∧ z = d) ∨ ∃ x q, o = some x ∧ opd E x = some (.v (.int q z))) := by
  unfold bnd at h
  split at h
  · exact ⟨d, h, .inl ⟨rfl, rfl⟩⟩
  · split at h
    · rename_i x _ q z hx
      exact ⟨z, h, .inr ⟨x, q, rfl, hx⟩⟩
    · exact h.elim
theorem run_bounds {n ms a} (ha : Has n ms E a) {lo hi : Option Operand} {len cap : Nat} {l h : Int} {sl : Bool} (P : Program) (w : World)
    (hl : (lo = none ∧ l = 0) ∨ ∃ x q, lo = some x ∧ opd E x = some (.v (.int q l))) (hh : (hi = none ∧ h = len) ∨ ∃ x q, hi = some x ∧ opd E x = some (.v (.int q h)))
    (h0 : 0 ≤ l) (h1 : l ≤ h) (h2 : h ≤ cap) :
    (Instr.sliceBounds sl len cap (lo.map a.eval) (hi.map a.eval) none).run P w = .ok (l.toNat, h.toNat, cap) w := by
  have hb : (Instr.sliceBounds sl len cap none (hi.map a.eval) none).run P w = .ok (0, h.toNat, cap) w := by
    rcases hh with ⟨rfl, rfl⟩ | ⟨x, q, rfl, hx⟩
    · simp [Instr.sliceBounds]
    · have e := ha.opd hx
      simp only [den] at e
      simp [Instr.sliceBounds, e, run_sliceBound w q h cap _ (by omega) h2]
  rcases hl with ⟨rfl, rfl⟩ | ⟨x, q, rfl, hx⟩
  · simpa using hb
  · have e := ha.opd hx
    simp only [den] at e
    rcases hh with ⟨rfl, rfl⟩ | ⟨y, q', rfl, hy⟩
    · simp [Instr.sliceBounds, e, run_sliceBound w q l len _ h0 h1]
    · have e' := ha.opd hy
      simp only [den] at e'
      have hl' : l ≤ (h.toNat : Int) := by omega
      simp [Instr.sliceBounds, e, e', run_sliceBound w q' h cap _ (by omega) h2, run_sliceBound w q l h.toNat _ h0 hl']
/-- a part of a string -/
theorem OpK.slS {t : Nat} {x : Operand} {lo hi : Option Operand} {ti : TI} (ho : o.op = .slice t x lo hi none) {s : ByteArray} (hx : opd E x = some (.v (.string s))) (hti : c.T.get t = some ti) (hd : ti.desc = .string)
    (h : bnd E lo 0 fun l => bnd E hi s.size fun u => 0 ≤ l ∧ l ≤ u ∧ u ≤ s.size ∧ nx (.v (.string (s.extract l.toNat u.toNat))) H) : OpK c o E H nx := by
  have hnd : ∀ cl, o.op ≠ .defer cl := by rw [ho]; intro cl e; cases e
  obtain ⟨l, h, hl⟩ := bnd_spec h
  obtain ⟨u, ⟨h0, h1, h2, h⟩, hh⟩ := bnd_spec h
  refine OpK.val hnd _ (fun ms a w ha hk => ?_) h
  have hu := (c.ok t ti hti).1
  rw [hd] at hu
  have e1 := ha.opd hx
  simp only [den] at e1
  simp only [execOp, ho, e1, Option.map_none, Sem.run_bind, run_sliceAt_string w t _ _ _ _ hu, Instr.slice, run_underlying hu, Result.andThen_ok]
  simp [run_bounds ha c.P w hl hh h0 h1 h2, den]
theorem SlAt.part {w : World} {e k : Nat} {a : Option Addr} {n cap : Nat} {cs : List Value} {b : Nat} (h : SlAt w e k a n cap cs b) {l u : Nat} (h1 : l ≤ u) (h2 : u ≤ n) :
    SlAt w e k (if cap = l then a else a.map (·.add (l * k))) (u - l) (cap - l) ((cs.drop (l * k)).take ((u - l) * k)) b := by
  obtain ⟨pre, post, fr, rfl, hh, hl, hnc, hp, hf⟩ := h
  have e1 : cs = cs.take (l * k) ++ ((cs.drop (l * k)).take ((u - l) * k) ++ (cs.drop (l * k)).drop ((u - l) * k)) := by
    rw [List.take_append_drop, List.take_append_drop]
  have hlk : l * k ≤ n * k := Nat.mul_le_mul_right _ (by omega)
  have huk : (u - l) * k + l * k ≤ n * k := by rw [← Nat.add_mul]; exact Nat.mul_le_mul_right _ (by omega)
  have hrest : (cap - l - (u - l)) * k = (cap - n) * k + (n - u) * k := by rw [← Nat.add_mul]; congr 1; omega
  have hnu : (n - u) * k + u * k = n * k := by rw [← Nat.add_mul]; congr 1; omega
  have hul : (u - l) * k + l * k = u * k := by rw [← Nat.add_mul]; congr 1; omega
  by_cases hcl : cap = l
  · have hln : l = n := by omega
    have hun : u = n := by omega
    subst hln hun
    subst hcl
    refine ⟨pre, cs ++ post, fr, by rw [if_pos rfl], by rw [hh]; simp, by simp, by omega, by simp, fun hlt => ?_⟩
    have := hf hlt
    refine ⟨this.1, ?_⟩
    simp; omega
  refine ⟨pre ++ cs.take (l * k), (cs.drop (l * k)).drop ((u - l) * k) ++ post, fr, ?_, ?_, ?_, by omega, ?_, ?_⟩
  · have hpl : (pre ++ cs.take (l * k)).length = pre.length + l * k := by simp; omega
    rw [hpl, if_neg hcl]
    simp [add_none]
  · rw [hh]
    congr 3
    conv => lhs; rw [e1]
    simp [List.append_assoc]
  · simp; omega
  · simp; omega
  · intro hlt
    have := hf hlt
    refine ⟨this.1, ?_⟩
    simp; omega
theorem SlA.part {w : World} {S : Nat → Prop} {e k : Nat} {a : Option Addr} {n cap : Nat} {cs : List Value} (h : (SlA e k a n cap cs).holds w S) {l u : Nat} (h1 : l ≤ u) (h2 : u ≤ n) :
    (SlA e k (if cap = l then a else a.map (·.add (l * k))) (u - l) (cap - l) ((cs.drop (l * k)).take ((u - l) * k))).holds w S := by
  rcases h with ⟨rfl, rfl, rfl, rfl⟩ | ⟨b, hb, hs⟩
  · exact .inl ⟨by simp, by omega, by omega, by simp⟩
  · exact .inr ⟨b, hb, hs.part h1 h2⟩
theorem Kn.same {W S ms H w} {x y : Blk} {f : Blk → List Blk} (hu : At H x f) (h : Kn W S ms H w) (hxy : ∀ T, x.ass.holds w T → y.ass.holds w T) : Kn W S ms (f y) w := by
  obtain ⟨T, h1, h2, _, h4⟩ := h.upd1 hu
  exact h4 y w ⟨⟨rfl, rfl, rfl, Nat.le_refl _, fun _ _ _ => rfl⟩, T, hxy T h1, fun k hk => ⟨h2 k hk, .inl hk⟩⟩
theorem run_sl {t e : Nat} {x : Operand} {lo hi : Option Operand} {ti j : TI} (ho : o.op = .slice t x lo hi none) {a : Option Addr} {n cap : Nat} (hx : opd E x = some (.v (.slice a n cap)))
    (hti : c.T.get t = some ti) (hd : ti.desc = .slice e) (hj : c.T.get e = some j) {l u : Int}
    (hl : (lo = none ∧ l = 0) ∨ ∃ x q, lo = some x ∧ opd E x = some (.v (.int q l))) (hh : (hi = none ∧ u = n) ∨ ∃ x q, hi = some x ∧ opd E x = some (.v (.int q u)))
    (h0 : 0 ≤ l) (h1 : l ≤ u) (h2 : u ≤ cap) {ms ac w} (ha : Has c.n ms E ac) :
    (execOp ac.eval o).run c.P w = .ok (.value (.slice (if cap = l.toNat then a else a.map (·.add (l.toNat * j.size))) (u.toNat - l.toNat) (cap - l.toNat))) w := by
  have hu := (c.ok t ti hti).1
  rw [hd] at hu
  have e1 := ha.opd hx
  simp only [den] at e1
  simp [execOp, ho, e1, Instr.sliceAt, Instr.slice, run_underlying hu, run_bounds ha c.P w hl hh h0 h1 h2, r_sizeOf (c.ok e j hj) w]
/-- a part of a slice: the slice itself is given up -/
theorem OpK.slE {t e : Nat} {x : Operand} {lo hi : Option Operand} {ti j : TI} (ho : o.op = .slice t x lo hi none) {a : Option Addr} {n cap : Nat} (hx : opd E x = some (.v (.slice a n cap)))
    (hti : c.T.get t = some ti) (hd : ti.desc = .slice e) (hj : c.T.get e = some j) {k : Nat} (hkk : j.size = k) {i : Nat} {cs : List Value} {f : Blk → List Blk} (hu : At H (.ext i (SlA e k a n cap cs)) f)
    (h : bnd E lo 0 fun l => bnd E hi n fun u => 0 ≤ l ∧ l ≤ u ∧ u ≤ n ∧ ∀ a', nx (.v (.slice a' (u.toNat - l.toNat) (cap - l.toNat))) (f (.ext i (SlA e k a' (u.toNat - l.toNat) (cap - l.toNat) ((cs.drop (l.toNat * k)).take ((u.toNat - l.toNat) * k)))))) : OpK c o E H nx := by
  subst hkk
  have hnd : ∀ cl, o.op ≠ .defer cl := by rw [ho]; intro cl e; cases e
  obtain ⟨l, h, hl⟩ := bnd_spec h
  obtain ⟨u, ⟨h0, h1, h2, h⟩, hh⟩ := bnd_spec h
  refine OpK.run hnd fun ms ac w ha hk => ?_
  have hle : n ≤ cap := by
    obtain ⟨T, h3, _⟩ := hk.upd1 hu
    rcases h3 with ⟨_, rfl, rfl, _⟩ | ⟨b, _, pre, post, fr, _, _, _, h, _⟩
    · omega
    · exact h
  have h3 : u ≤ (cap : Int) := by omega
  exact ⟨.v _, _, w, run_sl ho hx hti hd hj hl hh h0 h1 h3 ha, hk.same (y := .ext i (SlA e j.size (if cap = l.toNat then a else a.map (·.add (l.toNat * j.size))) (u.toNat - l.toNat) (cap - l.toNat) ((cs.drop (l.toNat * j.size)).take ((u.toNat - l.toNat) * j.size)))) hu fun T hT => SlA.part hT (by omega) (by omega), h _⟩
/-- a part of a slice, to be read -/
theorem OpK.slR {t e : Nat} {x : Operand} {lo hi : Option Operand} {ti j : TI} (ho : o.op = .slice t x lo hi none) {a : Option Addr} {n cap : Nat} (hx : opd E x = some (.v (.slice a n cap)))
    (hti : c.T.get t = some ti) (hd : ti.desc = .slice e) (hj : c.T.get e = some j) {k : Nat} (hkk : j.size = k) {cs : List Value} (hs : Sees c H e k a n cap cs)
    (h : bnd E lo 0 fun l => bnd E hi n fun u => 0 ≤ l ∧ l ≤ u ∧ u ≤ n ∧ ∀ a', Sees c H e k a' (u.toNat - l.toNat) (cap - l.toNat) ((cs.drop (l.toNat * k)).take ((u.toNat - l.toNat) * k)) →
      nx (.v (.slice a' (u.toNat - l.toNat) (cap - l.toNat))) H) : OpK c o E H nx := by
  subst hkk
  have hnd : ∀ cl, o.op ≠ .defer cl := by rw [ho]; intro cl e; cases e
  obtain ⟨l, h, hl⟩ := bnd_spec h
  obtain ⟨u, ⟨h0, h1, h2, h⟩, hh⟩ := bnd_spec h
  refine OpK.run hnd fun ms ac w ha hk => ?_
  have hle : n ≤ cap := by
    obtain ⟨T, h3, _⟩ := hs ms w hk
    rcases h3 with ⟨_, rfl, rfl, _⟩ | ⟨b, _, pre, post, fr, _, _, _, h, _⟩
    · omega
    · exact h
  refine ⟨.v _, H, w, run_sl ho hx hti hd hj hl hh h0 h1 (by omega) ha, hk, h _ fun ms' w' hk' => ?_⟩
  obtain ⟨T, h3, h4⟩ := hs ms' w' hk'
  exact ⟨T, SlA.part h3 (by omega) (by omega), h4⟩
/-- string(b) -/
theorem OpK.cvBS {q t e : Nat} {x : Operand} {qi ti j : TI} (ho : o.op = .convert q t x) {a : Option Addr} {n cap : Nat} (hx : opd E x = some (.v (.slice a n cap)))
    (hq : c.T.get q = some qi) (hqd : qi.desc = .slice e) (hti : c.T.get t = some ti) (hd : ti.desc = .string) (hj : c.T.get e = some j) (hjd : j.desc = .int .u8) {l : List UInt8} (hs : Sees c H e 1 a n cap (bcells l))
    (h : nx (.v (.string ⟨l.toArray⟩)) H) : OpK c o E H nx := by
  have hnd : ∀ cl, o.op ≠ .defer cl := by rw [ho]; intro cl e; cases e
  refine OpK.val hnd _ (fun ms ac w ha hk => ?_) h
  have hqu := (c.ok q qi hq).1
  rw [hqd] at hqu
  have htu := (c.ok t ti hti).1
  rw [hd] at htu
  have hju := (c.ok e j hj).1
  rw [hjd] at hju
  have e1 := ha.opd hx
  simp only [den] at e1
  obtain ⟨S, hS, _⟩ := hs ms w hk
  have hlen := SlA.len hS
  rw [bcells_length, Nat.mul_one] at hlen
  rcases hS with ⟨rfl, rfl, rfl, hnil⟩ | ⟨b, hb, pre, post, fr, rfl, hh, hl, hnc, hp, hf⟩
  · have : l = [] := List.length_eq_zero_iff.1 (by omega)
    subst this
    simp [execOp, ho, e1, convert, run_underlying hqu, run_underlying htu, run_underlying hju, Conv.bytesToString, den]
    rfl
  · subst hlen
    have := run_convert_bytes_back (P := c.P) w q t e ⟨b, pre.length, none⟩ cap l hqu hju htu (fun j hj => by
      rw [add_none, cell_of hh]
      simp only [List.getElem?_toArray]
      rw [List.append_assoc, List.getElem?_append_right (by omega), List.getElem?_append_left (by rw [bcells_length]; omega)]
      simp [bcells, hj, bcell])
    simp [execOp, ho, e1, this, den]
/-- []byte(s) -/
theorem OpK.cvSB {q t e : Nat} {x : Operand} {qi ti j : TI} (ho : o.op = .convert q t x) {s : ByteArray} (hx : opd E x = some (.v (.string s)))
    (hq : c.T.get q = some qi) (hqd : qi.desc = .string) (hti : c.T.get t = some ti) (hd : ti.desc = .slice e) (hj : c.T.get e = some j) (hjd : j.desc = .int .u8)
    (h : nextF H fun i => ∀ a' cap', nx (.v (.slice a' s.size cap')) (.ext i (SlA e 1 a' s.size cap' (bcells s.data.toList)) :: H)) : OpK c o E H nx := by
  have hnd : ∀ cl, o.op ≠ .defer cl := by rw [ho]; intro cl e; cases e
  obtain ⟨i, h⟩ := nextF_spec h
  have hqu := (c.ok q qi hq).1
  rw [hqd] at hqu
  have htu := (c.ok t ti hti).1
  rw [hd] at htu
  have hju := (c.ok e j hj).1
  rw [hjd] at hju
  refine OpK.run hnd fun ms ac w ha hk => ?_
  have e1 := ha.opd hx
  simp only [den] at e1
  have hr := run_bytes_of_string (P := c.P) w q t e s hqu htu hju
  have hge := grownCap_ge w s.size 0 e
  have hfree := hk.free i (A := SlA e 1 none 0 0 []) (.inl ⟨rfl, rfl, rfl, rfl⟩)
  obtain ⟨T, h1, h2, h3, h4⟩ := hfree.upd1 .head
  have hsz : s.data.toList.length = s.size := by rw [Array.length_toList]; rfl
  refine ⟨.v (.slice (some ⟨w.heap.size, 0, none⟩) s.size (grownCap w s.size 0 e)), _, (w.drew.alloc (.cells (bytesRow s (grownCap w s.size 0 e)) e ((bytesRow s (grownCap w s.size 0 e)).size, (bytesRow s (grownCap w s.size 0 e)).size + 1))), by simp [execOp, ho, e1, hr, den], h4 (.ext i (SlA e 1 (some ⟨w.heap.size, 0, none⟩) s.size (grownCap w s.size 0 e) (bcells s.data.toList))) _ ?_, h _ _⟩
  have hwsz : (w.drew.alloc (.cells (bytesRow s (grownCap w s.size 0 e)) e ((bytesRow s (grownCap w s.size 0 e)).size, (bytesRow s (grownCap w s.size 0 e)).size + 1))).heap.size = w.heap.size + 1 := by
    rw [heap_alloc, Array.size_push]; rfl
  have hrow : bytesRow s (grownCap w s.size 0 e) = ([] ++ bcells s.data.toList ++ List.replicate (grownCap w s.size 0 e - s.size) (Value.int .u8 0)).toArray := by
    apply Array.ext'
    simp [bytesRow, bcells, bcell]
  have hhp : (w.drew.alloc (.cells (bytesRow s (grownCap w s.size 0 e)) e ((bytesRow s (grownCap w s.size 0 e)).size, (bytesRow s (grownCap w s.size 0 e)).size + 1))).heap[w.heap.size]? =
      some (.cells (bytesRow s (grownCap w s.size 0 e)) e ((bytesRow s (grownCap w s.size 0 e)).size, (bytesRow s (grownCap w s.size 0 e)).size + 1)) := by
    rw [heap_alloc]
    have : w.drew.heap.size = w.heap.size := rfl
    rw [← this, Array.getElem?_push_size]
  refine ⟨⟨rfl, rfl, rfl, by rw [hwsz]; omega, fun k hk _ => ?_⟩, fun k => k = w.heap.size, .inr ⟨w.heap.size, rfl, [], List.replicate (grownCap w s.size 0 e - s.size) (Value.int .u8 0), ((bytesRow s (grownCap w s.size 0 e)).size, (bytesRow s (grownCap w s.size 0 e)).size + 1), rfl, ?_, ?_, hge, ?_, ?_⟩, ?_⟩
  · rw [heap_alloc, Array.getElem?_push, if_neg (by show ¬ k = w.heap.size; omega)]
    rfl
  · rw [hhp, ← hrow]
  · rw [bcells_length, hsz, Nat.mul_one]
  · simp
  · intro _
    rw [hrow]
    simp
  · rintro k rfl
    exact ⟨by rw [hwsz]; omega, .inr (Nat.le_refl _)⟩
/-- s[i] -/
theorem OpK.sIx {t : Nat} {x ix : Operand} {ti : TI} (ho : o.op = .index t x ix) {s : ByteArray} {q : IntKind} {z : Int} (hx : opd E x = some (.v (.string s))) (hi : opd E ix = some (.v (.int q z)))
    (hti : c.T.get t = some ti) (hd : ti.desc = .string) (h0 : 0 ≤ z) {b : UInt8} (hb : s.data.toList[z.toNat]? = some b) (h : nx (.v (.int .u8 b.toNat)) H) : OpK c o E H nx := by
  have hnd : ∀ cl, o.op ≠ .defer cl := by rw [ho]; intro cl e; cases e
  refine OpK.val hnd _ (fun ms ac w ha hk => ?_) h
  have hu := (c.ok t ti hti).1
  rw [hd] at hu
  have e1 := ha.opd hx
  have e2 := ha.opd hi
  simp only [den] at e1 e2
  have hb' : s[z.toNat]? = some b := by
    obtain ⟨hlt, he⟩ := List.getElem?_eq_some_iff.1 hb
    have hlt' : z.toNat < s.size := by simpa using hlt
    rw [getElem?_pos s z.toNat hlt']
    congr 1
  simp [execOp, ho, e1, e2, Instr.index, asIntOf, run_underlying hu, h0, hb', den]
end
end Go.X

namespace Go.X
open Go
section
variable {c : Cx} {o : Oper} {E : Env} {H : List Blk} {nx : K1}
theorem WrapK.eq {k : IntKind} {z z' : Int} {f : Int → Prop} (h : k.wrap z = z') (hf : f z') : WrapK k z f := ⟨by rw [h]; exact hf⟩
theorem QuoK.eq {k : IntKind} {x y z : Int} {f : Int → Prop} (h0 : y ≠ 0) (h : k.wrap (x.tdiv y) = z) (hf : f z) : QuoK k x y f := ⟨by rw [h]; exact ⟨h0, hf⟩⟩
theorem RemK.eq {x y z : Int} {f : Int → Prop} (h0 : y ≠ 0) (h : x.tmod y = z) (hf : f z) : RemK x y f := ⟨by rw [h]; exact ⟨h0, hf⟩⟩
theorem BitK.eq {op : BinOp} {k : IntKind} {x y z : Int} {f : Int → Prop} (h : k.wrap (bitN op k x y) = z) (hf : f z) : BitK op k x y f := ⟨by rw [h]; exact hf⟩
theorem OpK.shl {t t' : Nat} {x y : Operand} (ho : o.op = .binOp .shl t x y t') {k q : IntKind} {a b : Int} (hx : opd E x = some (.v (.int k a))) (hy : opd E y = some (.v (.int q b))) (h0 : 0 ≤ b) {z : Int}
    (hz : k.wrap (a * 2 ^ min b.toNat k.bits) = z) (h : nx (.v (.int k z)) H) : OpK c o E H nx := by
  have hnd : ∀ cl, o.op ≠ .defer cl := by rw [ho]; intro cl e; cases e
  refine OpK.val hnd _ (fun ms ac w ha hk => ?_) h
  have e1 := ha.opd hx
  have e2 := ha.opd hy
  simp only [den] at e1 e2
  subst hz
  simp [execOp, ho, e1, e2, eqGuard, Go.binOp, Op.shift, show ¬ b < 0 by omega, den]
theorem OpK.shr {t t' : Nat} {x y : Operand} (ho : o.op = .binOp .shr t x y t') {k q : IntKind} {a b : Int} (hx : opd E x = some (.v (.int k a))) (hy : opd E y = some (.v (.int q b))) (h0 : 0 ≤ b) {z : Int}
    (hz : a.fdiv (2 ^ min b.toNat k.bits) = z) (h : nx (.v (.int k z)) H) : OpK c o E H nx := by
  have hnd : ∀ cl, o.op ≠ .defer cl := by rw [ho]; intro cl e; cases e
  refine OpK.val hnd _ (fun ms ac w ha hk => ?_) h
  have e1 := ha.opd hx
  have e2 := ha.opd hy
  simp only [den] at e1 e2
  subst hz
  simp [execOp, ho, e1, e2, eqGuard, Go.binOp, Op.shift, show ¬ b < 0 by omega, den]
theorem if_decT {p : Prop} [Decidable p] {x y : Prop} (hp : p) (hx : x) : cond (decide p) x y := by rw [decide_eq_true hp]; exact hx
theorem if_decF {p : Prop} [Decidable p] {x y : Prop} (hp : ¬ p) (hy : y) : cond (decide p) x y := by rw [decide_eq_false hp]; exact hy
theorem if_ndecT {p : Prop} [Decidable p] {x y : Prop} (hp : ¬ p) (hx : x) : cond (!decide p) x y := by rw [decide_eq_false hp]; exact hx
theorem if_ndecF {p : Prop} [Decidable p] {x y : Prop} (hp : p) (hy : y) : cond (!decide p) x y := by rw [decide_eq_true hp]; exact hy
end
/-! bytes of numbers -/
theorem bits_andNot (c : UInt8) : IntKind.u8.wrap (bitN .andNot .u8 c.toNat 128) = ((c.toNat % 128 : Nat) : Int) := by
  have : ∀ n : Fin 256, IntKind.u8.wrap (bitN .andNot .u8 (n.val : Int) 128) = ((n.val % 128 : Nat) : Int) := by decide +kernel
  exact this ⟨c.toNat, c.toNat_lt⟩
theorem bits_or128 (n : Nat) (h : n < 256) : IntKind.u8.wrap (bitN .or .u8 (n : Int) 128) = ((n % 128 + 128 : Nat) : Int) := by
  have : ∀ n : Fin 256, IntKind.u8.wrap (bitN .or .u8 (n.val : Int) 128) = ((n.val % 128 + 128 : Nat) : Int) := by decide +kernel
  exact this ⟨n, h⟩
theorem bits_or64 (a x i : Nat) (ha : a < 2 ^ i) (hx : x * 2 ^ i < 2 ^ 64) (ha' : a < 2 ^ 64) : IntKind.u64.wrap (bitN .or .u64 (a : Int) ((x * 2 ^ i : Nat) : Int)) = ((a + x * 2 ^ i : Nat) : Int) := by
  have h1 : bitN .or .u64 (a : Int) ((x * 2 ^ i : Nat) : Int) = a ||| (x * 2 ^ i) := by
    show (BitVec.ofInt 64 (a : Int) ||| BitVec.ofInt 64 ((x * 2 ^ i : Nat) : Int)).toNat = _
    rw [BitVec.toNat_or, BitVec.ofInt_natCast, BitVec.ofInt_natCast, BitVec.toNat_ofNat, BitVec.toNat_ofNat, Nat.mod_eq_of_lt ha', Nat.mod_eq_of_lt hx]
  have h2 : a ||| (x * 2 ^ i) = a + x * 2 ^ i := by
    rw [Nat.or_comm, ← Nat.shiftLeft_eq, ← Nat.shiftLeft_add_eq_or_of_lt ha, Nat.add_comm]
  have h3 : a ||| (x * 2 ^ i) < 2 ^ 64 := Nat.or_lt_two_pow ha' hx
  rw [h1, ← h2]
  exact IntWalk.u64_in _ (by omega)
def uvar (n : Nat) : List UInt8 := if h : n < 128 then [UInt8.ofNat n] else UInt8.ofNat (n % 128 + 128) :: uvar (n / 128)
termination_by n
decreasing_by omega
/-- the number at the beginning of bytes, and its length -/
def numG : Nat → Nat → List UInt8 → Nat × Nat
  | _, _, [] => (0, 0)
  | i, a, c :: l => if (i = 9 ∧ 1 < c.toNat) ∨ (0 < i ∧ c.toNat = 0) then (0, 0) else if c.toNat < 128 then (a + c.toNat % 128 * 2 ^ (7 * i), i + 1) else numG (i + 1) (a + c.toNat % 128 * 2 ^ (7 * i)) l
def numR (l : List UInt8) : Nat × Nat := numG 0 0 l
end Go.X

namespace Go.X
open Go
/-! contracts whose value and assertion are told by a ghost -/
def FrZ {α : Type} (P : Program) (f : FuncId) (args : Array Value) (w : World) (A : Ass) (v : α → Value) (A' : α → Ass) : Prop :=
  ∀ S, A.holds w S → (∀ k, S k → k < w.heap.size) → CT P f args w (fun e w' => ∃ z, e = .returned (v z) ∧ FPost S w (A' z) w')
/-- nothing is owned -/
def emp : Ass := ⟨fun _ S => ∀ k, ¬ S k, fun _ _ _ _ h => h⟩
/-- what is known says so of memory -/
def RdS (w : World) (e k : Nat) (a : Option Addr) (n cap : Nat) (cs : List Value) : Prop := ∃ T, (SlA e k a n cap cs).holds w T ∧ ∀ k, T k → k < w.heap.size
theorem RdS.oldE {w e k a n cap cs S} (h : RdS w e k a n cap cs) (hS : emp.holds w S) : Old w S (SlA e k a n cap cs) := by
  obtain ⟨T, h1, h2⟩ := h
  exact ⟨T, h1, fun k hk => ⟨h2 k hk, hS k⟩⟩
theorem RdS.old {w e k a n cap cs} (h : RdS w e k a n cap cs) : Old w noS (SlA e k a n cap cs) := by
  obtain ⟨T, h1, h2⟩ := h
  exact ⟨T, h1, fun k hk => ⟨h2 k hk, id⟩⟩
theorem RdS.len {w e k a n cap cs} (h : RdS w e k a n cap cs) : cs.length = n * k := by
  obtain ⟨T, h1, _⟩ := h
  exact SlA.len h1
section
variable {c : Cx} {o : Oper} {E : Env} {H : List Blk} {nx : K1}
theorem Sees.rd {e k a n cap cs ms w} (h : Sees c H e k a n cap cs) (hk : Kn c.W c.S ms H w) : RdS w e k a n cap cs := h ms w hk
theorem CallK.frZ {α : Type} {g : FuncId} {l : List SV} {x : Blk} {f : Blk → List Blk} {v : α → Value} {A' : α → Ass} (i : Nat)
    (hu : At H x f) (h : ∀ ms w, Kn c.W c.S ms H w → FrZ c.P g (denL l).toArray w x.ass v A') (hn : ∀ z, nx (.v (v z)) (f (.ext i (A' z)))) : CallK c g l H nx := by
  refine CallK.gen fun ms w hk => ?_
  obtain ⟨T, h1, h2, _, h3⟩ := hk.upd1 hu
  refine (h ms w hk T h1 h2).mono ?_
  rintro e w' ⟨z, rfl, hp⟩
  exact ⟨.v (v z), _, rfl, h3 (.ext i (A' z)) w' hp, hn z⟩
theorem CallK.fr1 {g : FuncId} {l : List SV} {x : Blk} {f : Blk → List Blk} {v : Value} {A' : Ass} (i : Nat)
    (hu : At H x f) (h : ∀ ms w, Kn c.W c.S ms H w → Fr c.P g (denL l).toArray w x.ass v A') (hn : nx (.v v) (f (.ext i A'))) : CallK c g l H nx := by
  refine CallK.gen fun ms w hk => ?_
  obtain ⟨T, h1, h2, _, h3⟩ := hk.upd1 hu
  refine (h ms w hk T h1 h2).mono ?_
  rintro e w' ⟨rfl, hp⟩
  exact ⟨.v v, _, rfl, h3 (.ext i A') w' hp, hn⟩
/-- a call that returns fresh memory -/
theorem CallK.fresh {α : Type} {g : FuncId} {l : List SV} {v : α → Value} {A' : α → Ass}
    (h : ∀ ms w, Kn c.W c.S ms H w → FrZ c.P g (denL l).toArray w emp v A') (hn : nextF H fun i => ∀ z, nx (.v (v z)) (.ext i (A' z) :: H)) : CallK c g l H nx := by
  obtain ⟨i, hn⟩ := nextF_spec hn
  refine CallK.gen fun ms w hk => ?_
  obtain ⟨T, h1, h2, _, h3⟩ := (hk.free i (A := emp) (fun _ h => h)).upd1 .head
  refine (h ms w hk T h1 h2).mono ?_
  rintro e w' ⟨z, rfl, hp⟩
  exact ⟨.v (v z), _, rfl, h3 (.ext i (A' z)) w' hp, hn z⟩
theorem enter_frZ {α : Type} {P : Program} {T : TR} (hT : TOk P T) {f : FuncId} {fn : Func} {x : Code} {W : World} {A : Ass} {A' : α → Ass} {v : α → Value} {n : Nat} {H : List Blk}
    (hA : ∀ S, A.holds W S → (∀ k, S k → k < W.heap.size) → ∃ T, Holds W H T ∧ ∀ k, T k → S k)
    (hf : P.funcs[f]? = some fn) (hb : fn.body = some x) (hnm : (fn.name == "runtime.NumGoroutine") = false) (hn : fn.ntmps = n)
    (args : List SV) (hlen : Nat.ble (lenL args) n = true) {rs : List ResultVar} (hrs : fn.results.toList = rs)
    (h' : ∀ S, A.holds W S → (∀ k, S k → k < W.heap.size) → envF 0 args (fun E => Run ⟨P, T, n, W, S, none, hT⟩ x E H (endF ⟨P, T, n, W, S, none, hT⟩ rs (fun e w' => ∃ z, e = .returned (v z) ∧ FPost S W (A' z) w')))) :
    FrZ P f (denL args).toArray W A v A' := by
  intro S hS hlt
  obtain ⟨T, h1, h2⟩ := hA S hS hlt
  exact enter_sound hT hf hb hnm hn args (Kn.init h1 h2) hlen hrs (h' S hS hlt)
theorem emp_foot {W : World} : ∀ S, emp.holds W S → (∀ k, S k → k < W.heap.size) → ∃ T, Holds W [] T ∧ ∀ k, T k → S k :=
  fun _ _ _ => ⟨_, .nil, fun _ h => h.elim⟩
theorem FinK.frZ {α : Type} {P : Program} {T : TR} {n : Nat} {W : World} {S : Nat → Prop} {r : Option Nat} {hT : TOk P T} {v : α → Value} {s : SV} {H : List Blk} {A' : α → Ass} {i : Nat} (z : α) (hs : den s = v z) (hH : HSub [.ext i (A' z)] H) :
    FinK ⟨P, T, n, W, S, r, hT⟩ (fun e w' => ∃ z, e = .returned (v z) ∧ FPost S W (A' z) w') s H := by
  refine FinK.mk fun w hk => ⟨z, by rw [hs], ⟨Kn0.os hk, Kn0.tape hk, Kn0.output hk, Kn0.size hk, Kn0.old hk⟩, ?_⟩
  obtain ⟨T, h1, h2⟩ := Kn0.foot (hk.hsub hH)
  cases h1 with
  | @cons _ _ Sy T' hx hb hH hd =>
    cases hH
    exact ⟨Sy, hx, fun k hk => ⟨hb k hk, h2 k (.inl hk)⟩⟩
/-- is a slice nil? -/
theorem OpK.slNil {op : BinOp} {t t' : Nat} {x y : Operand} {ti : TI} (ho : o.op = .binOp op t x y t') {a : Option Addr} {n cap m cap' : Nat} (hx : opd E x = some (.v (.slice a n cap))) (hy : opd E y = some (.v (.slice none m cap')))
    {e : Nat} (hti : c.T.get t = some ti) (hd : ti.desc = .slice e) {b : Bool} (hb : (op = .eql ∧ b = a.isNone) ∨ (op = .neq ∧ b = a.isSome)) (h : nx (.v (.bool b)) H) : OpK c o E H nx := by
  have hnd : ∀ cl, o.op ≠ .defer cl := by rw [ho]; intro cl e; cases e
  refine OpK.val hnd _ (fun ms ac w ha hk => ?_) h
  have hu := (c.ok t ti hti).1
  rw [hd] at hu
  have e1 := ha.opd hx
  have e2 := ha.opd hy
  simp only [den] at e1 e2
  have h1 : ∀ n', (Op.equalIn (n' + 1) t (.slice a n cap) (.slice none m cap')).run c.P w = .ok a.isNone w := by
    intro n'
    cases a <;> simp [Op.equalIn, run_underlying hu]
  have h2 := h1 9999
  rcases hb with ⟨rfl, rfl⟩ | ⟨rfl, rfl⟩
  · have h3 : (Go.binOp .eql t (.slice a n cap) (.slice none m cap')).run c.P w = .ok (.bool a.isNone) w := by
      show ((Op.equal t (.slice a n cap) (.slice none m cap')) >>= fun b => (pure (Value.bool b) : Sem Value)).run c.P w = _
      rw [Sem.run_bind, show Op.equal t (.slice a n cap) (.slice none m cap') = Op.equalIn 10000 t (.slice a n cap) (.slice none m cap') from rfl, h2]
      rfl
    have h4 : (eqGuard .eql t x y (.slice a n cap) (.slice none m cap')).run c.P w = .ok () w := rfl
    simp only [execOp, ho, e1, e2, Sem.run_bind, h4, h3, Result.andThen_ok, Sem.run_pure, den]
  · have h3 : (Go.binOp .neq t (.slice a n cap) (.slice none m cap')).run c.P w = .ok (.bool (!a.isNone)) w := by
      show ((Op.equal t (.slice a n cap) (.slice none m cap')) >>= fun b => (pure (Value.bool (!b)) : Sem Value)).run c.P w = _
      rw [Sem.run_bind, show Op.equal t (.slice a n cap) (.slice none m cap') = Op.equalIn 10000 t (.slice a n cap) (.slice none m cap') from rfl, h2]
      rfl
    have h4 : (eqGuard .neq t x y (.slice a n cap) (.slice none m cap')).run c.P w = .ok () w := rfl
    simp only [execOp, ho, e1, e2, Sem.run_bind, h4, h3, Result.andThen_ok, Sem.run_pure, den]
    cases a <;> rfl
theorem OpK.cvBS' {q t e : Nat} {x : Operand} {qi ti j : TI} (ho : o.op = .convert q t x) {a : Option Addr} {n cap : Nat} (hx : opd E x = some (.v (.slice a n cap)))
    (hq : c.T.get q = some qi) (hqd : qi.desc = .slice e) (hti : c.T.get t = some ti) (hd : ti.desc = .string) (hj : c.T.get e = some j) (hjd : j.desc = .int .u8) {cs : List Value} (hs : Sees c H e 1 a n cap cs) {l : List UInt8} (hcs : cs = bcells l)
    (h : nx (.v (.string ⟨l.toArray⟩)) H) : OpK c o E H nx := by
  subst hcs
  exact OpK.cvBS ho hx hq hqd hti hd hj hjd hs h
/-- a local slice, as an assertion -/
theorem slc_SlA {e : Nat} {k b len : Nat} {cs : List SV} {w : World} {T : Nat → Prop} (hl : cs.length = len * k) (h : (blkA b (denL cs) e).holds w T) : (SlA e k (some ⟨b, 0, none⟩) len len (denL cs)).holds w T :=
  .inr ⟨b, h.1, [], [], (0, 0), rfl, by simpa using h.2, by rw [denL_length, hl], Nat.le_refl _, by simp, by simp⟩
/-- append to a local slice -/
theorem OpK.appS {x y : Operand} {t tx e : Nat} {ti j : TI} (ho : o.op = .call { callee := .builtin .append, args := #[x, y], argTypes := #[t, tx] })
    {b i n : Nat} {s : SV} (hx : opd E x = some (.slc b i 0 n n)) (hy : opd E y = some s) (hti : c.T.get t = some ti) (hd : ti.desc = .slice e) (hj : c.T.get e = some j) (hz : j.zero.cells.size = j.size) {k : Nat} (hkk : j.size = k)
    {i' : Nat} {cs : List SV} {f : Blk → List Blk} (hu : At H (.blk i' b cs e) f) (hl : cs.length = n * k) {m : Nat} {news : List Value} (hs : SrcK c H k tx s m news) (hbig : (n + m) * (j.bytes + 1) ≤ 140737488355328)
    (h : ∀ a' cap', nx (.v (.slice a' (n + m) cap')) (f (.ext i' (SlA e k a' (n + m) cap' (denL cs ++ news))))) : OpK c o E H nx := by
  subst hkk
  have hnd : ∀ cl, o.op ≠ .defer cl := by rw [ho]; intro cl e; cases e
  refine OpK.run hnd fun ms ac w ha hk => ?_
  obtain ⟨T, h1, h2, h3, h4⟩ := hk.upd1 hu
  have hu := (c.ok t ti hti).1
  rw [hd] at hu
  obtain ⟨a', cap', w', hr, hp⟩ := app_core (ty := o.type) hu (c.ok e j hj) hz (slc_SlA hl h1) h2 (hs ms w hk) hbig
  refine ⟨_, _, w', ?_, h4 (.ext i' (SlA e j.size a' (n + m) cap' (denL cs ++ news))) w' hp, h a' cap'⟩
  have e1 := ha.opd hx
  have e2 := ha.opd hy
  simp only [den] at e1
  simp [execOp, ho, resolve, invoke, builtin, e1, e2, hr, den]
end
/-! readers -/
abbrev RSt := Option (List UInt8)
def rdU : RSt → Nat × RSt
  | none => (0, none)
  | some l => if (numR l).2 = 0 then (0, none) else ((numR l).1, some (l.drop (numR l).2))
def rdS (most : Nat) (st : RSt) : Nat × RSt := if (rdU st).1 > most then (0, none) else rdU st
def zagI (u : Nat) : Int := if u % 2 = 0 then (u / 2 : Nat) else -((u / 2 : Nat) : Int) - 1
def zigN (a : Int) : Nat := if 0 ≤ a then (2 * a).toNat else (-2 * a - 1).toNat
def rdI : RSt → Int × RSt
  | none => (0, none)
  | some l => if (numR l).2 = 0 then (0, none) else (zagI (numR l).1, some (l.drop (numR l).2))
/-- the text at the beginning, and its length with its head -/
def txtR (l : List UInt8) : ByteArray × Nat :=
  if (numR l).2 = 0 ∨ (numR l).1 > 65536 ∨ (numR l).1 > l.length - (numR l).2 then (⟨#[]⟩, 0) else (⟨((l.drop (numR l).2).take (numR l).1).toArray⟩, (numR l).2 + (numR l).1)
def rdT : RSt → ByteArray × RSt
  | none => (⟨#[]⟩, none)
  | some l => if (txtR l).2 = 0 then (⟨#[]⟩, none) else ((txtR l).1, some (l.drop (txtR l).2))
theorem bc_drop (l : List UInt8) (m : Nat) : ((bcells l).drop ((m : Int).toNat * 1)).take (((l.length : Int).toNat - (m : Int).toNat) * 1) = bcells (l.drop m) := by
  rw [List.take_of_length_le (by simp [bcells])]
  simp [bcells]
theorem bc_len (l : List UInt8) (m : Nat) : (l.length : Int).toNat - (m : Int).toNat = (l.drop m).length := by simp
theorem numG_le : ∀ (l : List UInt8) (i a : Nat), (numG i a l).2 = 0 ∨ (i < (numG i a l).2 ∧ (numG i a l).2 ≤ i + l.length)
  | [], i, a => .inl rfl
  | c :: l, i, a => by
    rw [numG]
    split
    · exact .inl rfl
    · split
      · right; simp
      · rcases numG_le l (i + 1) (a + c.toNat % 128 * 2 ^ (7 * i)) with h | h
        · exact .inl h
        · right; simp only [List.length_cons]; omega
theorem numR_le (l : List UInt8) : (numR l).2 ≤ l.length := by
  rcases numG_le l 0 0 with h | h
  · unfold numR; omega
  · unfold numR; omega
end Go.X

namespace Go.X
open Go
section
variable {c : Cx} {o : Oper} {E : Env} {H : List Blk} {nx : K1}
/-- the place of an array's element -/
theorem OpK.ixA {t e len : Nat} {x ix : Operand} {ti j : TI} (ho : o.op = .indexAddr t x ix) {b i off : Nat} {q : IntKind} {z : Int} (hx : opd E x = some (.loc b i off)) (hi : opd E ix = some (.v (.int q z)))
    (hti : c.T.get t = some ti) (hd : ti.desc = .array len e) (hj : c.T.get e = some j) (h0 : 0 ≤ z) (hlt : z < len) (h : nx (.v (.pointer (some ⟨b, off + z.toNat * j.size, none⟩))) H) : OpK c o E H nx := by
  have hnd : ∀ cl, o.op ≠ .defer cl := by rw [ho]; intro cl e; cases e
  refine OpK.val hnd _ (fun ms ac w ha hk => ?_) h
  have hu := (c.ok t ti hti).1
  rw [hd] at hu
  have e1 := ha.opd hx
  have e2 := ha.opd hi
  simp only [den] at e1 e2
  simp [execOp, ho, e1, e2, Instr.indexAt, asIntOf, Instr.sureAddr, run_underlying hu, r_sizeOf (c.ok e j hj) w, hlt, h0, add_none, den]
theorem OpK.ixP {t e len : Nat} {x ix : Operand} {ti j : TI} (ho : o.op = .indexAddr t x ix) {b off : Nat} {q : IntKind} {z : Int} (hx : opd E x = some (.v (.pointer (some ⟨b, off, none⟩)))) (hi : opd E ix = some (.v (.int q z)))
    (hti : c.T.get t = some ti) (hd : ti.desc = .array len e) (hj : c.T.get e = some j) (h0 : 0 ≤ z) (hlt : z < len) (h : nx (.v (.pointer (some ⟨b, off + z.toNat * j.size, none⟩))) H) : OpK c o E H nx := by
  have hnd : ∀ cl, o.op ≠ .defer cl := by rw [ho]; intro cl e; cases e
  refine OpK.val hnd _ (fun ms ac w ha hk => ?_) h
  have hu := (c.ok t ti hti).1
  rw [hd] at hu
  have e1 := ha.opd hx
  have e2 := ha.opd hi
  simp only [den] at e1 e2
  simp [execOp, ho, e1, e2, Instr.indexAt, asIntOf, Instr.sureAddr, run_underlying hu, r_sizeOf (c.ok e j hj) w, hlt, h0, add_none, den]
/-- one cell of a block is stored -/
theorem OpK.st1 {t : Nat} {x y : Operand} {ti : TI} (ho : o.op = .store t x y) {b off : Nat} {s : SV} (hx : opd E x = some (.v (.pointer (some ⟨b, off, none⟩)))) (hy : opd E y = some s)
    (hti : c.T.get t = some ti) (h1 : ti.size = 1) (hone : s.one = true) {cs : List SV} {t' i : Nat} {f : Blk → List Blk} (hu : At H (.blk i b cs t') f) (hl : off < cs.length)
    (h : nx (.v undef) (f (.blk i b (cs.set off s) t'))) : OpK c o E H nx := by
  have hnd : ∀ cl, o.op ≠ .defer cl := by rw [ho]; intro cl e; cases e
  obtain ⟨A, B, rfl, hf⟩ := hu.spec
  rw [hf] at h
  refine ⟨?_⟩
  intro ms a w ha hk Q
  have e1 := ha.opd hx
  have e2 := ha.opd hy
  simp only [den] at e1
  have hg := hk.got (i := i) (b := b) (cs := cs) (t := t') (by simp)
  have hone' := one_den hone
  have hcells : (den s).cells = [den s].toArray := by
    cases s <;> simp [den, SV.one] at hone hone' ⊢ <;> first | rfl | (rename_i x; cases x <;> first | rfl | simp_all [Value.oneCell', Value.cells])
  have hr := r_storeVar (c.ok t ti hti) (off := off) hg hcells (by simp [h1]) (by simpa using hone') (by rw [denL_length]; show off + 1 ≤ _; omega)
  have hset : (denL cs).take off ++ [den s] ++ (denL cs).drop (off + [den s].length) = denL (cs.set off s) := by
    rw [denL_eq, denL_eq, List.map_set, List.set_eq_take_append_cons_drop, if_pos (by simpa using hl)]
    simp
  rw [hset] at hr
  refine wpIn_of_skip hnd (w' := w.setRow b (denL (cs.set off s)).toArray) (by simp [execOp, ho, e1, e2, Instr.storeAt, Instr.sureAddr, hr]) ⟨.v undef, _, rfl, hk.setRow _, h⟩
/-! strings, rune by rune -/
def StrIt (r : Nat) (s : ByteArray) (pos : Nat) : Ass := ⟨fun w S => S r ∧ w.heap[r]? = some (.stringIter s pos), fun _ _ _ h hx => ⟨hx.1, by rw [h r hx.1]; exact hx.2⟩⟩
theorem getObj_ran {P : Program} {w : World} {r : Nat} {o : Obj} (h : w.heap[r]? = some o) (ho : ∀ c t f, o ≠ .cells c t f) : (getObj r).run P w = .ok o w := by
  cases o with
  | cells c t f => exact absurd rfl (ho c t f)
  | _ => simp only [getObj, Sem.run, h]
theorem OpK.rngS {t : Nat} {x : Operand} {ti : TI} (ho : o.op = .range t x) {s : ByteArray} (hx : opd E x = some (.v (.string s))) (hti : c.T.get t = some ti) (hd : ti.desc = .string)
    (h : nextF H fun i => ∀ r, nx (.v (.pointer (some ⟨r, 0, none⟩))) (.ext i (StrIt r s 0) :: H)) : OpK c o E H nx := by
  have hnd : ∀ cl, o.op ≠ .defer cl := by rw [ho]; intro cl e; cases e
  obtain ⟨i, h⟩ := nextF_spec h
  refine OpK.run hnd fun ms ac w ha hk => ?_
  have hu := (c.ok t ti hti).1
  rw [hd] at hu
  have e1 := ha.opd hx
  simp only [den] at e1
  obtain ⟨T, h1, h2, h3, h4⟩ := (hk.free i (A := emp) (fun _ h => h)).upd1 .head
  refine ⟨_, _, w.alloc (.stringIter s 0), by simp [execOp, ho, e1, Instr.range, run_underlying hu, den], h4 (.ext i (StrIt w.heap.size s 0)) _ ⟨⟨rfl, rfl, rfl, by rw [heap_alloc, Array.size_push]; omega, fun k hk _ => by rw [heap_alloc, Array.getElem?_push, if_neg (by omega)]⟩, fun k => k = w.heap.size, ⟨rfl, by rw [heap_alloc]; simp⟩, fun k hk => by subst hk; exact ⟨by rw [heap_alloc, Array.size_push]; omega, .inr (Nat.le_refl _)⟩⟩, h w.heap.size⟩
theorem OpK.nextS {x : Operand} (ho : o.op = .next x true) {r : Nat} (hx : opd E x = some (.v (.pointer (some ⟨r, 0, none⟩)))) {s : ByteArray} {pos i : Nat} {f : Blk → List Blk} (hu : At H (.ext i (StrIt r s pos)) f)
    (h1 : pos < s.size → nx (.tup [.v (.bool true), .v (.int .i64 pos), .v (.int .i32 ((Utf8.decode s pos).1 : Nat))]) (f (.ext i (StrIt r s (pos + (Utf8.decode s pos).2)))))
    (h2 : ¬ pos < s.size → nx (.tup [.v (.bool false)]) (f (.ext i (StrIt r s pos)))) : OpK c o E H nx := by
  have hnd : ∀ cl, o.op ≠ .defer cl := by rw [ho]; intro cl e; cases e
  refine OpK.run hnd fun ms ac w ha hk => ?_
  have e1 := ha.opd hx
  simp only [den] at e1
  obtain ⟨T, h3, h4, h5, h6⟩ := hk.upd1 hu
  have hg := getObj_ran (P := c.P) h3.2 (by intro _ _ _ e; cases e)
  by_cases hp : pos < s.size
  · have hs := setObj_run (P := c.P) (o' := .stringIter s (pos + (Utf8.decode s pos).2)) h3.2 (by intro _ _ _ e; cases e)
    refine ⟨_, _, { w with heap := w.heap.setIfInBounds r (.stringIter s (pos + (Utf8.decode s pos).2)) }, ?_, h6 (.ext i (StrIt r s (pos + (Utf8.decode s pos).2))) _ ?_, h1 hp⟩
    · simp [execOp, ho, e1, Instr.next, hg, hp, hs, den, denL, goInt]
    · have hlt := h4 r h3.1
      refine ⟨⟨rfl, rfl, rfl, by simp, fun k hk hn => ?_⟩, fun k => k = r, ⟨rfl, by simp [hlt]⟩, fun k hk => by subst hk; exact ⟨by simpa using hlt, .inl h3.1⟩⟩
      have : r ≠ k := fun e => hn (e ▸ h3.1)
      simp [this]
  · refine ⟨_, _, w, ?_, h6 (.ext i (StrIt r s pos)) w ⟨⟨rfl, rfl, rfl, Nat.le_refl _, fun _ _ _ => rfl⟩, T, h3, fun k hk => ⟨h4 k hk, .inl hk⟩⟩, h2 hp⟩
    simp [execOp, ho, e1, Instr.next, hg, hp, den, denL]
end
theorem decode_ascii {s : ByteArray} {i : Nat} {b : UInt8} (hb : s.data.toList[i]? = some b) (h : b.toNat < 128) : Utf8.decode s i = (b.toNat, 1) := by
  have hlt : i < s.data.size := by have := (List.getElem?_eq_some_iff.1 hb).1; simpa using this
  have e : (s.get! (i + 0)).toNat = b.toNat := by
    have : s.get! i = b := by
      rw [List.getElem?_eq_getElem (by simpa using hlt)] at hb
      simp only [Option.some.injEq] at hb
      rw [← hb]
      show s.data[i]! = _
      rw [getElem!_pos s.data i hlt]
      simp
    simp [this]
  simp only [Utf8.decode, e]
  rw [if_pos h]
end Go.X

namespace Go.X
open Go
section
variable {c : Cx} {o : Oper} {E : Env} {H : List Blk} {nx : K1}
theorem CallK.frE {g : FuncId} {l : List SV} {i : Nat} {A A' : Ass} {f : Blk → List Blk} {v : Value}
    (hu : At H (.ext i A) f) (h : ∀ w, Fr c.P g (denL l).toArray w A v A') (hn : nx (.v v) (f (.ext i A'))) : CallK c g l H nx :=
  CallK.fr1 i hu (fun _ w _ => h w) hn
theorem CallK.frB {g : FuncId} {l : List SV} {i b t : Nat} {cs : List SV} {A' : Ass} {f : Blk → List Blk} {v : Value}
    (hu : At H (.blk i b cs t) f) (h : ∀ w, Fr c.P g (denL l).toArray w (blkA b (denL cs) t) v A') (hn : nx (.v v) (f (.ext i A'))) : CallK c g l H nx :=
  CallK.fr1 i hu (fun _ w _ => h w) hn
theorem CallK.frZE {α : Type} {g : FuncId} {l : List SV} {i : Nat} {A : Ass} {A' : α → Ass} {f : Blk → List Blk} {v : α → Value}
    (hu : At H (.ext i A) f) (h : ∀ w, FrZ c.P g (denL l).toArray w A v A') (hn : ∀ z, nx (.v (v z)) (f (.ext i (A' z)))) : CallK c g l H nx :=
  CallK.frZ i hu (fun _ w _ => h w) hn
theorem Fr.pre {P : Program} {f : FuncId} {args : Array Value} {w : World} {A A0 : Ass} {v : Value} {A' : Ass} (h : Fr P f args w A v A') (ha : ∀ S, A0.holds w S → A.holds w S) : Fr P f args w A0 v A' :=
  fun S hS hlt => h S (ha S hS) hlt
theorem FrZ.pre {α : Type} {P : Program} {f : FuncId} {args : Array Value} {w : World} {A A0 : Ass} {v : α → Value} {A' : α → Ass} (h : FrZ P f args w A v A') (ha : ∀ S, A0.holds w S → A.holds w S) : FrZ P f args w A0 v A' :=
  fun S hS hlt => h S (ha S hS) hlt
/-- the call's frame may be weakened first -/
theorem CallK.weak {g : FuncId} {l : List SV} {H' : List Blk} (hs : HSub H' H) (h : CallK c g l H' nx) : CallK c g l H nx :=
  ⟨fun ms w hk => h.get ms w (hk.hsub hs)⟩
end
theorem HSub.middle' (x : Blk) (A B : List Blk) : HSub (x :: (A ++ B)) (A ++ x :: B) := HSub.front x A B
theorem HSub.pick {H : List Blk} {x : Blk} {f : Blk → List Blk} (hu : At H x f) : HSub [x] H := by
  obtain ⟨A, B, rfl, _⟩ := hu.spec
  exact HSub.trans (fun w S hS => by
    cases hS with
    | @cons _ _ S1 T1 hx hb hH hd => exact ⟨_, .cons hx hb .nil (fun _ _ h => h), fun k hk => hk.elim .inl False.elim⟩) (HSub.middle' x A B)
end Go.X

namespace Go.X
open Go
def ObjA (r : Nat) (o : Obj) : Ass := ⟨fun w S => S r ∧ w.heap[r]? = some o, fun _ _ _ h hx => ⟨hx.1, by rw [h r hx.1]; exact hx.2⟩⟩
theorem Kn.allocO {W S ms H w} (h : Kn W S ms H w) (i : Nat) (o : Obj) : Kn W S ms (.ext i (ObjA w.heap.size o) :: H) (w.alloc o) := by
  obtain ⟨T, h1, h2, h3, h4⟩ := (h.free i (A := emp) (fun _ h => h)).upd1 .head
  exact h4 (.ext i (ObjA w.heap.size o)) _ ⟨⟨rfl, rfl, rfl, by rw [heap_alloc, Array.size_push]; omega, fun k hk _ => by rw [heap_alloc, Array.getElem?_push, if_neg (by omega)]⟩, fun k => k = w.heap.size, ⟨rfl, by rw [heap_alloc]; simp⟩, fun k hk => by subst hk; exact ⟨by rw [heap_alloc, Array.size_push]; omega, .inr (Nat.le_refl _)⟩⟩
theorem Kn.setO {W S ms H w} {i r : Nat} {o : Obj} {f : Blk → List Blk} (hu : At H (.ext i (ObjA r o)) f) (h : Kn W S ms H w) (o' : Obj) :
    w.heap[r]? = some o ∧ Kn W S ms (f (.ext i (ObjA r o'))) { w with heap := w.heap.setIfInBounds r o' } := by
  obtain ⟨T, h3, h4, h5, h6⟩ := h.upd1 hu
  have hlt := h4 r h3.1
  refine ⟨h3.2, h6 (.ext i (ObjA r o')) _ ⟨⟨rfl, rfl, rfl, by simp, fun k hk hn => ?_⟩, fun k => k = r, ⟨rfl, by simp [hlt]⟩, fun k hk => by subst hk; exact ⟨by simpa using hlt, .inl h3.1⟩⟩⟩
  have : r ≠ k := fun e => hn (e ▸ h3.1)
  simp [this]
theorem Kn.getO {W S ms H w} {i r : Nat} {o : Obj} {f : Blk → List Blk} (hu : At H (.ext i (ObjA r o)) f) (h : Kn W S ms H w) : w.heap[r]? = some o := by
  obtain ⟨T, h3, _⟩ := h.upd1 hu
  exact h3.2
abbrev MpA (m : Nat) (es : List MapEntry) (clk : Nat) : Ass := ObjA m (.map es.toArray clk)
abbrev MiA (r m since : Nat) (seen : List Nat) (last : Nat) : Ass := ObjA r (.mapIter (some m) since seen.toArray last)
section
variable {c : Cx} {o : Oper} {E : Env} {H : List Blk} {nx : K1}
theorem OpK.mkM {t : Nat} (ho : o.op = .makeMap t none) (h : nextF H fun i => ∀ m, nx (.v (.map (some m))) (.ext i (MpA m [] 0) :: H)) : OpK c o E H nx := by
  have hnd : ∀ cl, o.op ≠ .defer cl := by rw [ho]; intro cl e; cases e
  obtain ⟨i, h⟩ := nextF_spec h
  refine OpK.run hnd fun ms ac w ha hk => ⟨.v (.map (some w.heap.size)), _, _, ?_, hk.allocO i (.map #[] 0), h w.heap.size⟩
  simp [execOp, ho, Instr.makeMap, den]
theorem run_checkKey {P : Program} {w : World} {b : Bool} {n t : Nat} {q : IntKind} (v : Value) (ht : P.underlying t = some (.int q)) : (Instr.checkKey b (n + 1) t v).run P w = .ok () w := by
  cases v <;> simp [Instr.checkKey, run_underlying ht]
/-- m[k] where m is empty -/
theorem OpK.lkE {t kt et : Nat} {x ix : Operand} {ok : Bool} {ti tk te : TI} {q : IntKind} {m clk i : Nat} {z : Int} {q' : IntKind} {f : Blk → List Blk} (ho : o.op = .lookup t x ix ok) (hx : opd E x = some (.v (.map (some m)))) (hi : opd E ix = some (.v (.int q' z)))
    (hti : c.T.get t = some ti) (hd : ti.desc = .map kt et) (htk : c.T.get kt = some tk) (hdk : tk.desc = .int q) (hte : c.T.get et = some te) (hu : At H (.ext i (MpA m [] clk)) f)
    (h : nx (if ok then .tup [.v te.zero, .v (.bool false)] else .v te.zero) H) : OpK c o E H nx := by
  have hnd : ∀ cl, o.op ≠ .defer cl := by rw [ho]; intro cl e; cases e
  refine OpK.val hnd _ (fun ms ac w ha hk => ?_) h
  have h1 := (c.ok t ti hti).1
  rw [hd] at h1
  have h2 := (c.ok kt tk htk).1
  rw [hdk] at h2
  have e1 := ha.opd hx
  have e2 := ha.opd hi
  simp only [den] at e1 e2
  have hg := getObj_ran (P := c.P) (hk.getO hu) (by intro _ _ _ e; cases e)
  cases ok <;> simp [execOp, ho, e1, e2, Instr.lookup, run_underlying h1, hg, run_checkKey _ h2, Instr.findKey, run_underlying h2, Instr.findNow, r_zeroValue (c.ok et te hte) w, den, denL]
theorem run_find1 {P : Program} {w : World} {kt : Nat} {q : IntKind} {z : Int} {v : Value} {b : Nat} (ht : P.underlying kt = some (.int q)) :
    (Instr.findKey kt (.int q z) [⟨.int q z, v, b⟩]).run P w = .ok (some (0, v)) w := by
  simp [Instr.findKey, run_underlying ht, Instr.findNow, Instr.sameNow]
/-- m[k] where k is there -/
theorem OpK.lk1 {t kt et : Nat} {x ix : Operand} {ok : Bool} {ti tk : TI} {q : IntKind} {m clk i b : Nat} {z : Int} {v : Value} {f : Blk → List Blk} (ho : o.op = .lookup t x ix ok) (hx : opd E x = some (.v (.map (some m)))) (hi : opd E ix = some (.v (.int q z)))
    (hti : c.T.get t = some ti) (hd : ti.desc = .map kt et) (htk : c.T.get kt = some tk) (hdk : tk.desc = .int q) (hu : At H (.ext i (MpA m [⟨.int q z, v, b⟩] clk)) f)
    (h : nx (if ok then .tup [.v v, .v (.bool true)] else .v v) H) : OpK c o E H nx := by
  have hnd : ∀ cl, o.op ≠ .defer cl := by rw [ho]; intro cl e; cases e
  refine OpK.val hnd _ (fun ms ac w ha hk => ?_) h
  have h1 := (c.ok t ti hti).1
  rw [hd] at h1
  have h2 := (c.ok kt tk htk).1
  rw [hdk] at h2
  have e1 := ha.opd hx
  have e2 := ha.opd hi
  simp only [den] at e1 e2
  have hg := getObj_ran (P := c.P) (hk.getO hu) (by intro _ _ _ e; cases e)
  cases ok <;> simp [execOp, ho, e1, e2, Instr.lookup, run_underlying h1, hg, run_checkKey _ h2, run_find1 h2, den, denL]
/-- m[k] = v where m is empty -/
theorem OpK.upE {t kt et : Nat} {x ix y : Operand} {ti tk : TI} {q q' : IntKind} {m clk i : Nat} {z : Int} {s : SV} {f : Blk → List Blk} (ho : o.op = .mapUpdate t x ix y) (hx : opd E x = some (.v (.map (some m)))) (hi : opd E ix = some (.v (.int q' z))) (hy : opd E y = some s)
    (hti : c.T.get t = some ti) (hd : ti.desc = .map kt et) (htk : c.T.get kt = some tk) (hdk : tk.desc = .int q) (hu : At H (.ext i (MpA m [] clk)) f)
    (h : nx (.v undef) (f (.ext i (MpA m [⟨.int q' z, den s, clk⟩] (clk + 1))))) : OpK c o E H nx := by
  have hnd : ∀ cl, o.op ≠ .defer cl := by rw [ho]; intro cl e; cases e
  refine ⟨?_⟩
  intro ms a w ha hk Q
  have h1 := (c.ok t ti hti).1
  rw [hd] at h1
  have h2 := (c.ok kt tk htk).1
  rw [hdk] at h2
  have e1 := ha.opd hx
  have e2 := ha.opd hi
  have e3 := ha.opd hy
  simp only [den] at e1 e2
  obtain ⟨hg0, hk'⟩ := hk.setO hu (.map #[⟨.int q' z, den s, clk⟩] (clk + 1))
  have hg := getObj_ran (P := c.P) hg0 (by intro _ _ _ e; cases e)
  have hs := setObj_run (P := c.P) (o' := .map #[⟨.int q' z, den s, clk⟩] (clk + 1)) hg0 (by intro _ _ _ e; cases e)
  exact wpIn_of_skip hnd (w' := { w with heap := w.heap.setIfInBounds m (.map #[⟨.int q' z, den s, clk⟩] (clk + 1)) }) (by simp [execOp, ho, e1, e2, e3, Instr.mapUpdate, run_underlying h1, hg, run_checkKey _ h2, Instr.findKey, run_underlying h2, Instr.findNow, hs]) ⟨.v undef, _, rfl, hk', h⟩
/-- m[k] = v where k is there -/
theorem OpK.up1 {t kt et : Nat} {x ix y : Operand} {ti tk : TI} {q : IntKind} {m clk i b : Nat} {z : Int} {v : Value} {s : SV} {f : Blk → List Blk} (ho : o.op = .mapUpdate t x ix y) (hx : opd E x = some (.v (.map (some m)))) (hi : opd E ix = some (.v (.int q z))) (hy : opd E y = some s)
    (hti : c.T.get t = some ti) (hd : ti.desc = .map kt et) (htk : c.T.get kt = some tk) (hdk : tk.desc = .int q) (hu : At H (.ext i (MpA m [⟨.int q z, v, b⟩] clk)) f)
    (h : nx (.v undef) (f (.ext i (MpA m [⟨.int q z, den s, b⟩] clk)))) : OpK c o E H nx := by
  have hnd : ∀ cl, o.op ≠ .defer cl := by rw [ho]; intro cl e; cases e
  refine ⟨?_⟩
  intro ms a w ha hk Q
  have h1 := (c.ok t ti hti).1
  rw [hd] at h1
  have h2 := (c.ok kt tk htk).1
  rw [hdk] at h2
  have e1 := ha.opd hx
  have e2 := ha.opd hi
  have e3 := ha.opd hy
  simp only [den] at e1 e2
  obtain ⟨hg0, hk'⟩ := hk.setO hu (.map #[⟨.int q z, den s, b⟩] clk)
  have hg := getObj_ran (P := c.P) hg0 (by intro _ _ _ e; cases e)
  have hs := setObj_run (P := c.P) (o' := .map #[⟨.int q z, den s, b⟩] clk) hg0 (by intro _ _ _ e; cases e)
  have hst : Instr.keyThatStays (.int q z) (.int q z) = pure (.int q z) := by simp [Instr.keyThatStays, Instr.sameBits]
  exact wpIn_of_skip hnd (w' := { w with heap := w.heap.setIfInBounds m (.map #[⟨.int q z, den s, b⟩] clk) }) (by simp [execOp, ho, e1, e2, e3, Instr.mapUpdate, run_underlying h1, hg, run_checkKey _ h2, run_find1 h2, hst, hs]) ⟨.v undef, _, rfl, hk', h⟩
/-- range over a map -/
theorem OpK.rngM {t kt et : Nat} {x : Operand} {ti : TI} {m clk i : Nat} {es : List MapEntry} {f : Blk → List Blk} (ho : o.op = .range t x) (hx : opd E x = some (.v (.map (some m)))) (hti : c.T.get t = some ti) (hd : ti.desc = .map kt et) (hu : At H (.ext i (MpA m es clk)) f)
    (h : nextF H fun j => ∀ r, nx (.v (.pointer (some ⟨r, 0, none⟩))) (.ext j (MiA r m clk [] clk) :: H)) : OpK c o E H nx := by
  have hnd : ∀ cl, o.op ≠ .defer cl := by rw [ho]; intro cl e; cases e
  obtain ⟨j, h⟩ := nextF_spec h
  have h1 := (c.ok t ti hti).1
  rw [hd] at h1
  refine OpK.run hnd fun ms ac w ha hk => ⟨.v (.pointer (some ⟨w.heap.size, 0, none⟩)), _, _, ?_, hk.allocO j (.mapIter (some m) clk #[] clk), h w.heap.size⟩
  have e1 := ha.opd hx
  simp only [den] at e1
  have hg := getObj_ran (P := c.P) (hk.getO hu) (by intro _ _ _ e; cases e)
  simp [execOp, ho, e1, Instr.range, run_underlying h1, hg, den]
/-- no entry is left -/
theorem OpK.nxE {x : Operand} {r m since clk i j last : Nat} {f g : Blk → List Blk} (ho : o.op = .next x false) (hx : opd E x = some (.v (.pointer (some ⟨r, 0, none⟩)))) (hu : At H (.ext i (MiA r m since [] last)) f) (hv : At H (.ext j (MpA m [] clk)) g)
    (h : nx (.tup [.v (.bool false)]) H) : OpK c o E H nx := by
  have hnd : ∀ cl, o.op ≠ .defer cl := by rw [ho]; intro cl e; cases e
  refine OpK.val hnd _ (fun ms ac w ha hk => ?_) h
  have e1 := ha.opd hx
  simp only [den] at e1
  have hg := getObj_ran (P := c.P) (hk.getO hu) (by intro _ _ _ e; cases e)
  have hg' := getObj_ran (P := c.P) (hk.getO hv) (by intro _ _ _ e; cases e)
  simp [execOp, ho, e1, Instr.next, hg, hg', Question.forced, den, denL]
/-- the one entry -/
theorem OpK.nx1 {x : Operand} {r m since clk i j last b : Nat} {k v : Value} {f g : Blk → List Blk} (ho : o.op = .next x false) (hx : opd E x = some (.v (.pointer (some ⟨r, 0, none⟩)))) (hu : At H (.ext i (MiA r m since [] last)) f) (hv : At H (.ext j (MpA m [⟨k, v, b⟩] clk)) g) (hb : b < since)
    (h : nx (.tup [.v (.bool true), .v k, .v v]) (f (.ext i (MiA r m since [b] clk)))) : OpK c o E H nx := by
  have hnd : ∀ cl, o.op ≠ .defer cl := by rw [ho]; intro cl e; cases e
  refine OpK.run hnd fun ms ac w ha hk => ?_
  have e1 := ha.opd hx
  simp only [den] at e1
  obtain ⟨hg0, hk'⟩ := hk.setO hu (.mapIter (some m) since #[b] clk)
  have hg := getObj_ran (P := c.P) hg0 (by intro _ _ _ e; cases e)
  have hg' := getObj_ran (P := c.P) (hk.getO hv) (by intro _ _ _ e; cases e)
  have hs := setObj_run (P := c.P) (o' := .mapIter (some m) since #[b] clk) hg0 (by intro _ _ _ e; cases e)
  refine ⟨_, _, _, ?_, hk', h⟩
  have hnb : ¬ since ≤ b := by omega
  simp [execOp, ho, e1, Instr.next, hg, hg', Question.forced, hb, hnb, hs, den, denL]
/-- the one entry has been -/
theorem OpK.nxD {x : Operand} {r m since clk i j last b : Nat} {k v : Value} {f g : Blk → List Blk} (ho : o.op = .next x false) (hx : opd E x = some (.v (.pointer (some ⟨r, 0, none⟩)))) (hu : At H (.ext i (MiA r m since [b] last)) f) (hv : At H (.ext j (MpA m [⟨k, v, b⟩] clk)) g) (hb : b < last)
    (h : nx (.tup [.v (.bool false)]) H) : OpK c o E H nx := by
  have hnd : ∀ cl, o.op ≠ .defer cl := by rw [ho]; intro cl e; cases e
  refine OpK.val hnd _ (fun ms ac w ha hk => ?_) h
  have e1 := ha.opd hx
  simp only [den] at e1
  have hg := getObj_ran (P := c.P) (hk.getO hu) (by intro _ _ _ e; cases e)
  have hg' := getObj_ran (P := c.P) (hk.getO hv) (by intro _ _ _ e; cases e)
  have hnb : ¬ last ≤ b := by omega
  simp [execOp, ho, e1, Instr.next, hg, hg', Question.forced, hnb, den, denL]
theorem OpK.ent1 {x : Operand} {r m since clk i j b : Nat} {k v : Value} {f g : Blk → List Blk} (ho : o.op = .entry x) (hx : opd E x = some (.v (.pointer (some ⟨r, 0, none⟩)))) (hu : At H (.ext i (MiA r m since [b] clk)) f) (hv : At H (.ext j (MpA m [⟨k, v, b⟩] clk)) g)
    (h : nx (.tup [.v k, .v v]) H) : OpK c o E H nx := by
  have hnd : ∀ cl, o.op ≠ .defer cl := by rw [ho]; intro cl e; cases e
  refine OpK.val hnd _ (fun ms ac w ha hk => ?_) h
  have e1 := ha.opd hx
  simp only [den] at e1
  have hg := getObj_ran (P := c.P) (hk.getO hu) (by intro _ _ _ e; cases e)
  have hg' := getObj_ran (P := c.P) (hk.getO hv) (by intro _ _ _ e; cases e)
  simp [execOp, ho, e1, Instr.entry, hg, hg', den, denL]
end
end Go.X

namespace Go.X
open Go
/-- what a function that only reads the block b owes at its end -/
def RoR {α : Type} (W : World) (b : Nat) (cs : List SV) (t : TypeId) (v : α → Value) (A' : α → Ass) : Ending → World → Prop := fun e w' =>
  ∃ z, e = .returned (v z) ∧ Eff (fun k => k = b) W w' ∧ ∃ T, Holds w' [.blk 10 b cs t, .ext 0 (A' z)] T ∧ ∀ k, T k → k = b ∨ W.heap.size ≤ k
theorem RoR.out {α : Type} {W w' : World} {b : Nat} {cs : List SV} {t : TypeId} {v : α → Value} {A' : α → Ass} {e : Ending} (hb : W.heap[b]? = some (.cells (denL cs).toArray t (0, 0))) (h : RoR W b cs t v A' e w') :
    ∃ z, e = .returned (v z) ∧ FPost noS W (A' z) w' := by
  obtain ⟨z, h1, h2, T, h3, h4⟩ := h
  cases h3 with
  | @cons _ _ S1 T1 hx hbx hH hd =>
    cases hH with
    | @cons _ _ S2 T2 hx2 hb2 hH2 hd2 =>
      refine ⟨z, h1, ⟨h2.os, h2.tape, h2.output, h2.size, fun k hk _ => ?_⟩, S2, hx2, fun k hk => ⟨hb2 k hk, .inr ?_⟩⟩
      · by_cases hkb : k = b
        · subst hkb
          rw [hx.2, hb]
        · exact h2.old k hk hkb
      · rcases h4 k (.inr (.inl hk)) with h5 | h5
        · exact absurd (.inl hk) (fun h : S2 k ∨ T2 k => hd b hx.1 (h5 ▸ h))
        · exact h5
theorem enter_ro {α : Type} {P : Program} {T : TR} (hT : TOk P T) {f : FuncId} {fn : Func} {x : Code} {W : World} {A' : α → Ass} {v : α → Value} {n b : Nat} {cs : List SV} {t : TypeId}
    (hb : W.heap[b]? = some (.cells (denL cs).toArray t (0, 0)))
    (hf : P.funcs[f]? = some fn) (hbd : fn.body = some x) (hnm : (fn.name == "runtime.NumGoroutine") = false) (hn : fn.ntmps = n)
    (args : List SV) (hlen : Nat.ble (lenL args) n = true) {rs : List ResultVar} (hrs : fn.results.toList = rs)
    (h' : envF 0 args (fun E => Run ⟨P, T, n, W, fun k => k = b, none, hT⟩ x E [.blk 10 b cs t] (endF ⟨P, T, n, W, fun k => k = b, none, hT⟩ rs (RoR W b cs t v A')))) :
    FrZ P f (denL args).toArray W emp v A' := by
  intro S hS _
  have hlt : b < W.heap.size := (Array.getElem?_eq_some_iff.1 hb).1
  have hH : Holds W [.blk 10 b cs t] (fun k => k = b ∨ False) := .cons (S := fun k => k = b) (x := .blk 10 b cs t) ⟨rfl, hb⟩ (fun k hk => hk ▸ hlt) .nil (fun _ _ h => h)
  refine (enter_sound hT hf hbd hnm hn args (Kn.init hH (fun k hk => hk.elim id False.elim)) hlen hrs h').mono ?_
  intro e w' h
  obtain ⟨z, h1, h2⟩ := RoR.out hb h
  have : S = noS := by funext k; exact propext ⟨fun h => hS k h, fun h => h.elim⟩
  subst this
  exact ⟨z, h1, h2⟩
theorem HSub.none (H : List Blk) : HSub [] H := fun w S h => ⟨_, .nil, fun _ h => h.elim⟩
/-- nothing new is handed out -/
theorem FinK.ro0 {P : Program} {T : TR} {n : Nat} {W : World} {r : Option Nat} {hT : TOk P T} {v : Value} {s : SV} {H : List Blk} {b i : Nat} {cs : List SV} {t : TypeId} (hs : den s = v) (hH : HSub [.blk i b cs t] H) :
    FinK ⟨P, T, n, W, fun k => k = b, r, hT⟩ (RoR W b cs t (fun _ : Unit => v) (fun _ => emp)) s H := by
  refine FinK.mk fun w hk => ⟨(), by rw [hs], ⟨Kn0.os hk, Kn0.tape hk, Kn0.output hk, Kn0.size hk, Kn0.old hk⟩, ?_⟩
  obtain ⟨T, h1, h2⟩ := Kn0.foot (hk.hsub hH)
  cases h1 with
  | @cons _ _ S1 T1 hx hbx hH1 hd =>
    cases hH1
    refine ⟨_, .cons (x := .blk 10 b cs t) hx hbx (.cons (S := fun _ => False) (x := .ext 0 emp) (fun _ h => h) (fun _ h => h.elim) .nil (fun _ h _ => h)) (fun k hk hk' => hk'.elim id id), fun k hk => ?_⟩
    rcases hk with hk | hk | hk
    · exact h2 k (.inl hk)
    · exact hk.elim
    · exact hk.elim
theorem Pu.ofFrZ {P : Program} {f : FuncId} {args : Array Value} {w : World} {v : Value} (h : FrZ P f args w emp (fun _ : Unit => v) (fun _ => emp)) : Pu P f args w v := by
  refine (h noS (fun _ h => h) (fun _ h => h.elim)).mono ?_
  rintro e w' ⟨_, h1, h2, _⟩
  exact ⟨h1, h2.os, h2.tape, h2.output, h2.size, fun k hk => h2.old k hk id⟩
end Go.X

namespace Go.X
open Go
theorem r_split (m : Nat) {c : Cx} {id : Nat} {all : List Oper} {E : Env} {H : List Blk} {k : KC} (hm : c.P.follows .mixedOrders = true)
    (hB : Region.lexB .any (all.take m).toArray = true) (ht : tailB all (all.take m).length = true) (hfr : freeB all = true)
    (h : ∀ K : Env → Prop, (∀ E', anyF c all (k .nrm) (all.drop m).length (List.replicate (all.take m).length true ++ List.replicate (all.drop m).length false) E' H → K E') → qopsF c (all.take m) (all.take m) E H K) :
    Run c (.region id all.toArray true) E H k :=
  r_drawn (all.take m) (all.drop m) hm (List.take_append_drop m all).symm hB ht hfr h
end Go.X

namespace Go.X
open Go
section
variable {P : Program} {T : TR} {n : Nat} {hT : TOk P T}
theorem r_rangeFuncH {W : World} {S : Nat → Prop} {g : Operand} {ps : List Tmp} {as bd : Code} {E : Env} {H : List Blk} {k : KC} {gf : FuncId} {caps : List SV} {Hi Hi' : List Blk}
    (HH : Nat → List Blk) (xs : List (List SV)) (j : Nat)
    (hg : opd E g = some (.fn gf caps)) (hH : HSub (Hi ++ HH 0) H) (hit : ∀ (A : Ass) (yv : Value), (∀ i x, (xs.map denL)[i]? = some x → YS P yv x (AssL (.ext j A :: HH i)) (AssL (.ext j A :: HH (i + 1)))) → ∀ w, Fr P gf (yv :: denL caps).toArray w (AssL (.ext 0 (AssL (.ext j A :: HH 0)) :: Hi)) (.tuple #[]) (AssL (.ext 0 (AssL (.ext j A :: HH xs.length)) :: Hi')))
    (hps : ∀ x ∈ xs, ps.length = x.length) (hp : ∀ p ∈ ps, p < n)
    (hb : ∀ i x, xs[i]? = some x → ∀ l rc W S, Run ⟨P, T, n, W, S, some l, hT⟩ as (putsE ps x E) (.ext j (lrA l rc) :: HH i) (assignK ⟨P, T, n, W, S, some l, hT⟩ l rc j bd (HH (i + 1))))
    (hk : k .nrm E (Hi' ++ HH xs.length)) : Run ⟨P, T, n, W, S, none, hT⟩ (.rangeFunc g ps.toArray as bd) E H k := by
  refine .of fun ms a w ha hkn => ?_
  have hkn := hkn.hsub hH
  refine wpIn_rangeFunc fun fn _ => ?_
  have hgv := ha.opd hg
  simp only [den] at hgv
  let r := w.heap.size
  let rc : Loop := { state := .ready, pending := none, fn, tmps := a.tmps, params := ps.toArray, assign := as, body := bd, defers := r }
  let w1 := (w.alloc (.deferred (some []))).alloc (.loop rc)
  have hw1 : w1.heap.size = w.heap.size + 2 := by simp [w1]
  -- the world with the block and the record laid
  have halloc : ∀ (w : World) (A : Ass) (H : List Blk) (o : Obj) (i : Nat), Kn0 W S H w → (∀ w' S, S w.heap.size → w'.heap[w.heap.size]? = some o → A.holds w' S) → Kn0 W S (.ext i A :: H) (w.alloc o) := by
    intro w A H o i h hA
    obtain ⟨T, hT, hb⟩ := h.foot
    have he : ∀ k, k < w.heap.size → (w.alloc o).heap[k]? = w.heap[k]? := by
      intro k hk; rw [heap_alloc, Array.getElem?_push, if_neg (by omega)]
    refine h.eff (T := fun _ => False) (fun _ h => h.elim) ⟨rfl, rfl, rfl, by simp, fun k hk _ => he k hk⟩
      (.cons (S := fun k => k = w.heap.size) (x := .ext i A) (hA _ _ rfl (by rw [heap_alloc]; simp)) (by rintro k rfl; simp) (hT.mono (by simp) fun k hk => he k (hT.lt k hk)) ?_) ?_
    · rintro k rfl hk; exact absurd (hT.lt _ hk) (Nat.lt_irrefl _)
    · rintro k (rfl | hk)
      · exact .inr (.inr h.size)
      · exact .inr (hb k hk)
  have k1 : Kn0 W S (DB r :: (ms.map DB ++ (Hi ++ HH 0))) (w.alloc (.deferred (some []))) :=
    halloc w (defA r) _ (.deferred (some [])) 0 hkn (fun w' S h1 h2 => ⟨h1, h2⟩)
  have k2 : Kn0 W S (.ext j (lrA (r + 1) rc) :: DB r :: (ms.map DB ++ (Hi ++ HH 0))) w1 := by
    have := halloc _ (lrA (r + 1) rc) _ (.loop rc) j k1 (fun w' S h1 h2 => ⟨by simpa [r] using h1, by simpa [r] using h2⟩)
    exact this
  have hperm : (Blk.ext j (lrA (r + 1) rc) :: DB r :: (ms.map DB ++ (Hi ++ HH 0))).Perm (((r :: ms).map DB) ++ (Hi ++ (.ext j (lrA (r + 1) rc) :: HH 0))) := by
    simp only [List.map_cons, List.cons_append]
    refine (List.Perm.swap _ _ _).trans (.cons _ ?_)
    rw [← List.append_assoc, ← List.append_assoc]
    exact List.perm_middle.symm
  have k3 : Kn W S (r :: ms) (Hi ++ (.ext j (lrA (r + 1) rc) :: HH 0)) w1 := k2.perm hperm
  let J : Nat → Ass := fun i => AssL (.ext j (lrA (r + 1) rc) :: HH i)
  -- as one assertion: what the iterator is handed
  obtain ⟨T0, hT0, hTb⟩ := Kn0.foot k3
  obtain ⟨TM, TR, q1, q2, q3, q4⟩ := hT0.split _ _
  obtain ⟨TI, TJ, p1, p2, p3, p4⟩ := q2.split _ _
  have hJI : (AssL (.ext 0 (J 0) :: Hi)).holds w1 (fun k => TJ k ∨ TI k) :=
    .cons (x := .ext 0 (J 0)) p2 (fun k hk => p2.lt k hk) p1 (fun k hk hk' => p3 k hk' hk)
  have hYS : ∀ i x, (xs.map denL)[i]? = some x → YS P (.func (.yield (r + 1)) #[] #[]) x (J i) (J (i + 1)) := by
    intro i x hx
    simp only [List.getElem?_map, Option.map_eq_some_iff] at hx
    obtain ⟨y, hy, rfl⟩ := hx
    refine round_YS (n := n) (T := T) (hT := hT) (E := E) ⟨rfl, rfl⟩ (by simpa [rc] using hps y (List.mem_of_getElem? hy)) (by simpa [rc] using hp) ⟨ha.size, rfl, ha.get⟩ ?_
    intro W S
    simpa [rc] using hb i y hy (r + 1) rc W S
  have hcall := hit (lrA (r + 1) rc) (.func (.yield (r + 1)) #[] #[]) hYS w1 _ hJI (fun k hk => hk.elim (p2.lt k) (p1.lt k))
  have hbod := hcall.both
  refine ⟨r + 1, [mk r], w1, { target := .fn (.func gf) (denL caps).toArray, args := #[.func (.yield (r + 1)) #[] #[]] }, w1, gf, (Value.func (.yield (r + 1)) #[] #[] :: denL caps).toArray, w1, ?_, ?_, fun _ _ => trivial, ?_, ?_, callsIn_of_calls (c := ⟨P, T, n, W, S, none, hT⟩) (hbod.2.mono ?_)⟩
  · simp only [Cx.F, Fence.wide, Instr.enterLoop, Sem.run_bind, run_newObj, Result.andThen_ok, Sem.run_pure, Array.size_push]
    rfl
  · have hc : a.eval (.const (.func (.yield (r + 1)) #[] #[])) = .func (.yield (r + 1)) #[] #[] := rfl
    simp [resolve, hgv, Deferred.ofValue, hc]
  · simp only [invoke]
    rw [run_callFunc hbod.1]
    simp
  · intro h; simp [Cx.F, Fence.wide] at h
  · rintro e w' ⟨rfl, he, S', hS', hlt'⟩
    have hS' : Holds w' (.ext 0 (J xs.length) :: Hi') S' := hS'
    cases hS' with
    | @cons _ _ SJ SI hJ hJb hI hd =>
      have hJ : Holds w' (.ext j (lrA (r + 1) rc) :: HH xs.length) SJ := hJ
      -- everything again, in w'
      have hM : Holds w' ((r :: ms).map DB) TM := q1.mono he.size fun k hk => he.old k (q1.lt k hk) fun h => by
        rcases h with h | h
        · exact q3 k hk ((p4 k).2 (.inr h))
        · exact q3 k hk ((p4 k).2 (.inl h))
      obtain ⟨TX, g1, g2⟩ := Holds.glue _ _ hI hJ (fun k hk hk' => hd k hk' hk)
      have hnew : ∀ k, TX k → (TJ k ∨ TI k) ∨ w1.heap.size ≤ k := fun k hk => by
        rcases (g2 k).1 hk with h | h
        · exact (hlt' k (.inr h)).2
        · exact (hlt' k (.inl h)).2
      obtain ⟨TY, g3, g4⟩ := Holds.glue _ _ hM g1 (fun k hk hk' => by
        rcases hnew k hk' with (h | h) | h
        · exact q3 k hk ((p4 k).2 (.inr h))
        · exact q3 k hk ((p4 k).2 (.inl h))
        · have := q1.lt k hk; omega)
      have k4 : Kn W S (r :: ms) (Hi' ++ .ext j (lrA (r + 1) rc) :: HH xs.length) w' := by
        refine Kn0.eff k3 (T := fun k => TJ k ∨ TI k) (fun k hk => hTb k ?_) he g3 fun k hk => ?_
        · rcases hk with h | h
          · exact (q4 k).2 (.inr ((p4 k).2 (.inr h)))
          · exact (q4 k).2 (.inr ((p4 k).2 (.inl h)))
        · rcases (g4 k).1 hk with h | h
          · exact .inr (hTb k ((q4 k).2 (.inl h)))
          · rcases hnew k h with h | h
            · exact .inl h
            · have := Kn0.size k3; exact .inr (.inr (by omega))
      obtain ⟨t1, t2⟩ := Kn.putLoop (rc' := { rc with state := .exhausted }) k4
      refine ⟨none, { w' with heap := w'.heap.setIfInBounds (r + 1) (.loop { rc with state := .exhausted }) }, ?_, ?_⟩
      · simp only [Instr.endLoop, Sem.run_bind, getLoop_run t1, Result.andThen_ok]
        rw [if_neg (by simp [rc])]
        simp only [Sem.run_bind, setObj_run t1 (by intro c t f; simp), Result.andThen_ok, Sem.run_pure]
        rfl
      · refine ⟨r :: ms, E, Hi' ++ HH xs.length, ⟨ha.size, by simp [ha.defers], ha.get⟩, t2.hsub ?_, hk⟩
        have : ∀ (A B : List Blk) (x : Blk), HSub (A ++ B) (A ++ x :: B) := fun A B x => (HSub.refl A).app2 (.drop (HSub.refl B))
        exact this _ _ _
end
/-! some blocks are taken out of what is known -/
inductive Rm : List Blk → Blk → List Blk → Prop
  | head {x : Blk} {H : List Blk} : Rm (x :: H) x H
  | tail {z x : Blk} {H R : List Blk} (h : Rm H x R) : Rm (z :: H) x (z :: R)
theorem Rm.spec {H R : List Blk} {x : Blk} (h : Rm H x R) : H.Perm (x :: R) := by
  induction h with
  | head => exact .refl _
  | @tail z x H R h ih => exact (ih.cons z).trans (.swap _ _ _)
inductive Sel : List Blk → List Blk → List Blk → Prop
  | nil {H : List Blk} : Sel H [] H
  | cons {H H' L R : List Blk} {x : Blk} (h : Rm H x H') (hs : Sel H' L R) : Sel H (x :: L) R
theorem Sel.spec {H L R : List Blk} (h : Sel H L R) : H.Perm (L ++ R) := by
  induction h with
  | nil => exact .refl _
  | cons h hs ih => exact h.spec.trans (ih.cons _)
theorem Kn.sel {W S ms H L R w} (hs : Sel H L R) (h : Kn W S ms H w) : ∃ T, Holds w L T ∧ (∀ k, T k → S k ∨ W.heap.size ≤ k) ∧ ∀ L' w', FPost T w (AssL L') w' → Kn W S ms (L' ++ R) w' := by
  have h0 : Kn0 W S (ms.map DB ++ H) w := h
  have hp : (ms.map DB ++ H).Perm (L ++ (ms.map DB ++ R)) := by
    refine (List.Perm.append_left (ms.map DB) hs.spec).trans ?_
    rw [← List.append_assoc, ← List.append_assoc]
    exact List.perm_append_comm.append_right R
  have h1 := h0.perm hp
  obtain ⟨T0, hT0, hb⟩ := h1.foot
  obtain ⟨TL, TR, q1, q2, q3, q4⟩ := hT0.split _ _
  refine ⟨TL, q1, fun k hk => hb k ((q4 k).2 (.inl hk)), fun L' w' ⟨he, S', h3, h4⟩ => ?_⟩
  have hR : Holds w' (ms.map DB ++ R) TR := q2.mono he.size fun k hk => he.old k (q2.lt k hk) fun h => q3 k h hk
  obtain ⟨TX, g1, g2⟩ := Holds.glue _ _ h3 hR (fun k hk hk' => by
    rcases (h4 k hk).2 with h | h
    · exact q3 k h hk'
    · have := q2.lt k hk'; omega)
  have h5 := h1.eff (T := TL) (fun k hk => hb k ((q4 k).2 (.inl hk))) he g1 (fun k hk => by
    rcases (g2 k).1 hk with h | h
    · rcases (h4 k h).2 with h | h
      · exact .inl h
      · have := h1.size; exact .inr (.inr (by omega))
    · exact .inr (hb k ((q4 k).2 (.inr h))))
  have hp' : (L' ++ (ms.map DB ++ R)).Perm (ms.map DB ++ (L' ++ R)) := by
    rw [← List.append_assoc, ← List.append_assoc]
    exact List.perm_append_comm.append_right R
  exact Kn0.perm h5 hp'
theorem CallK.frL {α : Type} {c : Cx} {g : FuncId} {l : List SV} {H L0 L R : List Blk} {nx : K1} {v : α → Value} {M M' : α → List Blk}
    (hs : Sel H L R) (hl : HSub L0 L) (h : ∀ ms w, Kn c.W c.S ms H w → FrZ c.P g (denL l).toArray w (AssL L0) v (fun z => AssL (M z))) (hm : ∀ z, HSub (M' z) (M z)) (hn : ∀ z, nx (.v (v z)) (M' z ++ R)) : CallK c g l H nx := by
  refine CallK.gen fun ms w hk => ?_
  obtain ⟨T, h1, h2, h3⟩ := hk.sel hs
  obtain ⟨T', h4, h5⟩ := hl w T h1
  refine (h ms w hk T' h4 (fun k hk => h4.lt k hk)).mono ?_
  rintro e w' ⟨z, rfl, he, S', h6, h7⟩
  obtain ⟨S'', h8, h9⟩ := hm z w' S' h6
  refine ⟨.v (v z), _, rfl, h3 (M' z) w' ⟨⟨he.os, he.tape, he.output, he.size, fun k hk hn => he.old k hk fun h => hn (h5 k h)⟩, S'', h8, fun k hk => ⟨(h7 k (h9 k hk)).1, (h7 k (h9 k hk)).2.imp (h5 k) id⟩⟩, hn z⟩
end Go.X

namespace Go.X
open Go
theorem FinK.frZL {α : Type} {P : Program} {T : TR} {n : Nat} {W : World} {S : Nat → Prop} {r : Option Nat} {hT : TOk P T} {v : α → Value} {s : SV} {H : List Blk} {M : α → List Blk} (z : α) (hs : den s = v z) (hH : HSub (M z) H) :
    FinK ⟨P, T, n, W, S, r, hT⟩ (fun e w' => ∃ z, e = .returned (v z) ∧ FPost S W (AssL (M z)) w') s H := by
  refine FinK.mk fun w hk => ⟨z, by rw [hs], ⟨Kn0.os hk, Kn0.tape hk, Kn0.output hk, Kn0.size hk, Kn0.old hk⟩, ?_⟩
  obtain ⟨T, h1, h2⟩ := Kn0.foot (hk.hsub hH)
  exact ⟨T, h1, fun k hk => ⟨h1.lt k hk, h2 k hk⟩⟩
theorem Run.unj {c : Cx} {x : Code} {E : Env} {i : Nat} {L R : List Blk} {k : KC} (h : Run c x E (L ++ R) k) : Run c x E (.ext i (AssL L) :: R) k :=
  .of fun ms a w ha hk => h.out ms a w ha (hk.hsub ((HSub.unjoin (i := i)).app2 (A := [_]) (HSub.refl R)))
theorem CallV.weak {c : Cx} {fv : Value} {l : List SV} {H H' : List Blk} {nx : K1} (hs : HSub H' H) (h : CallV c fv l H' nx) : CallV c fv l H nx :=
  ⟨fun ms w hk => h.get ms w (hk.hsub hs)⟩
inductive SelI : List Blk → List Blk → Prop
  | nil {H : List Blk} : SelI H []
  | blk {H H' L : List Blk} {i j b : Nat} {cs : List SV} {t : TypeId} (h : Rm H (.blk j b cs t) H') (hs : SelI H' L) : SelI H (.blk i b cs t :: L)
  | ext {H H' L : List Blk} {i j : Nat} {A : Ass} (h : Rm H (.ext j A) H') (hs : SelI H' L) : SelI H (.ext i A :: L)
theorem SelI.spec {H L : List Blk} (h : SelI H L) : HSub L H := by
  induction h with
  | nil => exact HSub.none _
  | blk h hs ih => exact HSub.trans (HSub.keep rfl ih) (HSub.perm h.spec)
  | ext h hs ih => exact HSub.trans (HSub.ext (fun _ _ h => h) ih) (HSub.perm h.spec)
end Go.X
