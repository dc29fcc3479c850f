/- Contracts and lemmas for the claim (part 1); no condition of its own. -/
import Derived.WalkKit
import Derived.TacticsInMore
import Derived.OwnWalkIn
import Derived.Laws.CopyRow
import Derived.RangeFuncNested
set_option linter.all false
set_option maxRecDepth 100000
set_option maxHeartbeats 0
set_option linter.unusedVariables false
set_option linter.unusedSimpArgs false
set_option linter.unnecessarySimpa false
namespace Go.X
open Go
inductive SV where
  | v (x : Value)
  | loc (b i off : Nat)
  | agg (cs : List SV)
  | tup (vs : List SV)
  | fn (f : FuncId) (caps : List SV)
  | slc (b i off len cap : Nat)
  deriving Inhabited
mutual
def den : SV → Value
  | .v x => x
  | .loc b _ off => .pointer (some ⟨b, off, none⟩)
  | .agg cs => .agg (denL cs).toArray
  | .tup vs => .tuple (denL vs).toArray
  | .fn f caps => .func (.func f) #[] (denL caps).toArray
  | .slc b _ off len cap => .slice (some ⟨b, off, none⟩) len cap
def denL : List SV → List Value
  | [] => []
  | s :: r => den s :: denL r
end
theorem denL_eq (l : List SV) : denL l = l.map den := by
  induction l with
  | nil => rfl
  | cons s r ih => simp [denL, ih]
abbrev Env := List (Nat × SV)
def look (t : Nat) : Env → Option SV
  | [] => none
  | (k, s) :: r => cond (Nat.beq k t) (some s) (look t r)
def opd (E : Env) : Operand → Option SV
  | .tmp t => look t E
  | .const x => some (.v x)
  | .global g => some (.v (.pointer (some ⟨g, 0, none⟩)))
  | .func f => some (.fn f [])
structure Ass where
  holds : World → (Nat → Prop) → Prop
  loc : ∀ w w' S, (∀ k, S k → w'.heap[k]? = w.heap[k]?) → holds w S → holds w' S
inductive Blk where
  | blk (i b : Nat) (cs : List SV) (t : TypeId)
  | ext (i : Nat) (A : Ass)
def Blk.i : Blk → Nat
  | .blk i _ _ _ => i
  | .ext i _ => i
def Blk.holds (w : World) : Blk → (Nat → Prop) → Prop
  | .blk _ b cs t, S => S b ∧ w.heap[b]? = some (.cells (denL cs).toArray t (0, 0))
  | .ext _ A, S => A.holds w S
theorem Blk.loc {x : Blk} {w w' : World} {S : Nat → Prop} (h : ∀ k, S k → w'.heap[k]? = w.heap[k]?) (hx : x.holds w S) : x.holds w' S := by
  cases x with
  | blk i b cs t => exact ⟨hx.1, by rw [h b hx.1]; exact hx.2⟩
  | ext i A => exact A.loc w w' S h hx
inductive Holds (w : World) : List Blk → (Nat → Prop) → Prop
  | nil : Holds w [] (fun _ => False)
  | cons {x : Blk} {H : List Blk} {S T : Nat → Prop} (hx : x.holds w S) (hb : ∀ k, S k → k < w.heap.size)
      (hH : Holds w H T) (hd : ∀ k, S k → T k → False) : Holds w (x :: H) (fun k => S k ∨ T k)
structure Kn0 (W : World) (S : Nat → Prop) (H : List Blk) (w : World) : Prop where
  os : w.os = W.os
  tape : w.tape = W.tape
  output : w.output = W.output
  size : W.heap.size ≤ w.heap.size
  old : ∀ k, k < W.heap.size → ¬ S k → w.heap[k]? = W.heap[k]?
  foot : ∃ T, Holds w H T ∧ ∀ k, T k → S k ∨ W.heap.size ≤ k
def mk (m : Nat) : Deferred := { target := .collected m, args := #[] }
def defA (m : Nat) : Ass := ⟨fun w S => S m ∧ w.heap[m]? = some (.deferred (some [])), fun _ _ _ h hx => ⟨hx.1, by rw [h m hx.1]; exact hx.2⟩⟩
def DB (m : Nat) : Blk := .ext 0 (defA m)
def Kn (W : World) (S : Nat → Prop) (ms : List Nat) (H : List Blk) (w : World) : Prop := Kn0 W S (ms.map DB ++ H) w
structure Has (n : Nat) (ms : List Nat) (E : Env) (a : Act) : Prop where
  size : a.tmps.size = n
  defers : a.defers = ms.map mk
  get : ∀ t s, look t E = some s → a.tmps.getD t undef = den s
theorem Has.opd {n ds E a} (h : Has n ds E a) {x : Operand} {s : SV} (hx : opd E x = some s) : a.eval x = den s := by
  cases x with
  | tmp t => exact h.get t s hx
  | const x => simp only [X.opd, Option.some.injEq] at hx; subst hx; rfl
  | global g => simp only [X.opd, Option.some.injEq] at hx; subst hx; rfl
  | func f => simp only [X.opd, Option.some.injEq] at hx; subst hx; rfl
theorem Has.put {n ds E a} (h : Has n ds E a) {d : Nat} (hd : d < n) (s : SV) : Has n ds ((d, s) :: E) (a.put (some d) (den s)) := by
  refine ⟨by simp [Act.put, h.size], by simp [Act.put, h.defers], fun t s' hs => ?_⟩
  simp only [look] at hs
  by_cases htd : d = t
  · subst htd
    simp at hs
    subst hs
    simp [Act.put, h.size, hd]
  · have : Nat.beq d t = false := by
      cases hb : Nat.beq d t with
      | false => rfl
      | true => exact absurd (Nat.eq_of_beq_eq_true hb) htd
    rw [this] at hs
    simp only [cond_false] at hs
    have := h.get t s' hs
    simp only [Act.put]
    rw [← this]
    simp [Array.getD_eq_getD_getElem?, htd]
structure TI where
  desc : TypeDesc
  size : Nat
  bytes : Nat
  zero : Value
inductive TR where
  | leaf
  | node (l : TR) (k : Nat) (v : TI) (r : TR)
def TR.get : TR → Nat → Option TI
  | .leaf, _ => none
  | .node l k v r, t => cond (Nat.blt t k) (l.get t) (cond (Nat.beq t k) (some v) (r.get t))
def TIok (P : Program) (t : Nat) (i : TI) : Prop :=
  P.underlying t = some i.desc ∧ (P.info? t).map (fun x => (x.size, x.bytes, x.zero)) = some (i.size, i.bytes, some i.zero)
def TOk (P : Program) (T : TR) : Prop := ∀ t i, T.get t = some i → TIok P t i
structure Cx where
  P : Program
  T : TR
  n : Nat
  W : World
  S : Nat → Prop
  r : Option Nat
  ok : TOk P T
def Cx.F (c : Cx) : Fence := { Fence.wide with round := c.r }
def conv : Exit → Option (Option (Option Nat))
  | .normal => some none
  | .ret => some (some none)
  | .exit id => some (some (some id))
  | _ => none
inductive Ex where
  | nrm | ret | exit (id : Nat)
def Ex.of : Exit → Option Ex
  | .normal => some .nrm
  | .ret => some .ret
  | .exit id => some (.exit id)
  | _ => none
abbrev K1 := SV → List Blk → Prop
abbrev KE := Env → List Blk → Prop
abbrev KC := Ex → Env → List Blk → Prop
def Sem1 (c : Cx) (o : Oper) (E : Env) (H : List Blk) (nx : K1) : Prop :=
  ∀ ms a w, Has c.n ms E a → Kn c.W c.S ms H w → ∀ Q,
    o.wpIn c.F 0 c.P a w (fun a' w' => ∃ s H', a' = a.put o.dst (den s) ∧ Kn c.W c.S ms H' w' ∧ nx s H') Q
def QC (c : Cx) (k : KC) : Exit → Act → World → Prop := fun e a w =>
  match Ex.of e with
  | some x => ∃ ms E H, Has c.n ms E a ∧ Kn c.W c.S ms H w ∧ k x E H
  | none => False
def SemC (c : Cx) (x : Code) (E : Env) (H : List Blk) (k : KC) : Prop :=
  ∀ ms a w, Has c.n ms E a → Kn c.W c.S ms H w → x.wpIn c.F 0 c.P (QC c k) a w
structure OpK (c : Cx) (o : Oper) (E : Env) (H : List Blk) (nx : K1) : Prop where mk' ::
  get : Sem1 c o E H nx
structure Run (c : Cx) (x : Code) (E : Env) (H : List Blk) (k : KC) : Prop where mk' ::
  get : SemC c x E H k
def Bodied (P : Program) (f : FuncId) : Prop := ∃ fn, P.funcs[f]? = some fn ∧ fn.body.isNone = false ∧ (fn.name == "runtime.NumGoroutine") = false
def CT (P : Program) (f : FuncId) (args : Array Value) (w : World) (R : Ending → World → Prop) : Prop := Bodied P f ∧ Calls P f args w R
structure CallK (c : Cx) (f : FuncId) (args : List SV) (H : List Blk) (nx : K1) : Prop where mk' ::
  get : ∀ ms w, Kn c.W c.S ms H w → CT c.P f (denL args).toArray w (fun e w' => ∃ s H', e = .returned (den s) ∧ Kn c.W c.S ms H' w' ∧ nx s H')
def VC (P : Program) (fv : Value) (args : Array Value) (w : World) (R : Value → World → Prop) : Prop :=
  ∃ w1 nxt, (Deferred.ofValue fv args >>= fun d => invoke d.target d.args).run P w = .ok nxt w1 ∧
    match nxt with
    | .enter f as => Calls P f as w1 (fun e w' => ∃ v, e = .returned v ∧ R v w')
    | .round l f tmps as bd => RoundIn Fence.wide 0 P l f tmps as bd w1 (fun e w' => ∃ v, e = .returned v ∧ R v w')
    | _ => False
structure CallV (c : Cx) (fv : Value) (args : List SV) (H : List Blk) (nx : K1) : Prop where mk' ::
  get : ∀ ms w, Kn c.W c.S ms H w → VC c.P fv (denL args).toArray w (fun v w' => ∃ s H', v = den s ∧ Kn c.W c.S ms H' w' ∧ nx s H')
structure WrapK (k : IntKind) (z : Int) (nx : Int → Prop) : Prop where mk' ::
  get : nx (k.wrap z)
structure QuoK (k : IntKind) (x y : Int) (nx : Int → Prop) : Prop where mk' ::
  get : y ≠ 0 ∧ nx (k.wrap (x.tdiv y))
structure RemK (x y : Int) (nx : Int → Prop) : Prop where mk' ::
  get : y ≠ 0 ∧ nx (x.tmod y)
def bitN (op : BinOp) (k : IntKind) (x y : Int) : Nat :=
  match op with
  | .and => (BitVec.ofInt k.bits x &&& BitVec.ofInt k.bits y).toNat
  | .or => (BitVec.ofInt k.bits x ||| BitVec.ofInt k.bits y).toNat
  | .xor => (BitVec.ofInt k.bits x ^^^ BitVec.ofInt k.bits y).toNat
  | _ => (BitVec.ofInt k.bits x &&& ~~~ (BitVec.ofInt k.bits y)).toNat
structure BitK (op : BinOp) (k : IntKind) (x y : Int) (nx : Int → Prop) : Prop where mk' ::
  get : nx (k.wrap (bitN op k x y))
def valsF : List Value → (List SV → Prop) → Prop
  | [], k => k []
  | x :: l, k => valsF l (fun r => k (.v x :: r))
def SV.cellsF (s : SV) (k : List SV → Prop) : Prop :=
  match s with
  | .agg cs => k cs
  | .v (.agg cs) => valsF cs.toList k
  | s => k [s]
def takeF : Nat → List SV → (List SV → Prop) → Prop
  | 0, _, k => k []
  | n + 1, x :: l, k => takeF n l (fun r => k (x :: r))
  | _ + 1, [], _ => False
def dropF : Nat → List SV → (List SV → Prop) → Prop
  | 0, l, k => k l
  | n + 1, _ :: l, k => dropF n l k
  | _ + 1, [], _ => False
def nthF : Nat → List SV → (SV → Prop) → Prop
  | 0, x :: _, k => k x
  | n + 1, _ :: l, k => nthF n l k
  | _, [], _ => False
def overF : List SV → List SV → (List SV → Prop) → Prop
  | [], l, k => k l
  | x :: new, _ :: l, k => overF new l (fun r => k (x :: r))
  | _ :: _, [], _ => False
def storeF : Nat → List SV → List SV → (List SV → Prop) → Prop
  | 0, new, l, k => overF new l k
  | n + 1, new, x :: l, k => storeF n new l (fun r => k (x :: r))
  | _ + 1, _, [], _ => False
def findF (i : Nat) : List Blk → (Nat → List SV → Prop) → Prop
  | [], _ => False
  | .blk j b cs _ :: H, k => cond (Nat.beq j i) (k b cs) (findF i H k)
  | .ext _ _ :: H, k => findF i H k
def setF (i : Nat) (cs : List SV) : List Blk → (List Blk → Prop) → Prop
  | [], _ => False
  | .blk j b cs' t :: H, k => cond (Nat.beq j i) (k (.blk j b cs t :: H)) (setF i cs H (fun H' => k (.blk j b cs' t :: H')))
  | .ext j A :: H, k => setF i cs H (fun H' => k (.ext j A :: H'))
def nexti : List Blk → Nat
  | [] => 0
  | .blk j _ _ _ :: _ => j + 1
  | .ext j _ :: _ => j + 1
def bitsF : Nat → Nat → (Nat → Prop) → Prop
  | 0, _, k => k 0
  | f + 1, n, k => cond (Nat.beq n 0) (k 0) (cond (Nat.beq (Nat.mod n 2) 1) (bitsF f (Nat.div n 2) (fun m => k (Nat.add (Nat.mul 2 m) 1))) (bitsF f (Nat.div n 2) (fun m => k (Nat.mul 2 m))))
def nextF (H : List Blk) (k : Nat → Prop) : Prop := match nexti H with
  | 0 => k 0
  | m + 1 => bitsF 8 (Nat.succ m) k
theorem bitsF_spec : ∀ {f n : Nat} {k : Nat → Prop}, bitsF f n k → ∃ i, k i
  | 0, _, _, h => ⟨_, h⟩
  | f + 1, n, k, h => by
    simp only [bitsF] at h
    cases h0 : Nat.beq n 0 with
    | true => rw [h0] at h; exact ⟨_, h⟩
    | false =>
    rw [h0] at h
    simp only [cond_false] at h
    cases hb : Nat.beq (Nat.mod n 2) 1 with
    | true => rw [hb] at h; obtain ⟨i, h⟩ := bitsF_spec (f := f) h; exact ⟨_, h⟩
    | false => rw [hb] at h; obtain ⟨i, h⟩ := bitsF_spec (f := f) h; exact ⟨_, h⟩
theorem nextF_spec {H : List Blk} {k : Nat → Prop} (h : nextF H k) : ∃ i, k i := by
  unfold nextF at h
  split at h
  · exact ⟨_, h⟩
  · exact bitsF_spec h
def opdsF (E : Env) : List Operand → (List SV → Prop) → Prop
  | [], k => k []
  | x :: l, k => match opd E x with
    | some s => opdsF E l (fun r => k (s :: r))
    | none => False
def appF : List SV → List SV → (List SV → Prop) → Prop
  | [], l, k => k l
  | x :: a, l, k => appF a l (fun r => k (x :: r))
def TypeDesc.isAgg : TypeDesc → Bool
  | .struct _ | .array _ _ => true
  | _ => false
def loadF (c : Cx) (t : Nat) (cs : List SV) (off : Nat) (k : SV → Prop) : Prop :=
  match c.T.get t with
  | some i => cond (TypeDesc.isAgg i.desc) (dropF off cs (fun l => takeF i.size l (fun l => k (.agg l)))) (nthF off cs k)
  | none => False
def ikEq : IntKind → IntKind → Bool
  | .i8, .i8 | .i16, .i16 | .i32, .i32 | .i64, .i64 | .u8, .u8 | .u16, .u16 | .u32, .u32 | .u64, .u64 => true
  | _, _ => false
theorem ikEq_eq {a b : IntKind} (h : ikEq a b = true) : a = b := by cases a <;> cases b <;> first | rfl | cases h
def putF (d : Option Nat) (s : SV) (E : Env) (k : Env → Prop) : Prop := match d with | some d => k ((d, s) :: E) | none => k E
def envF : Nat → List SV → (Env → Prop) → Prop
  | _, [], k => k []
  | n, s :: l, k => envF (n + 1) l (fun E => k ((n, s) :: E))
end Go.X
namespace Go.X
open Go
def binF (c : Cx) (o : Oper) (op : BinOp) (x y : SV) (E : Env) (H : List Blk) (nx : K1) : Prop :=
  match x, y with
  | .v (.int k a), .v (.int k' b) =>
    match op with
    | .add => cond (ikEq k k') (WrapK k (a + b) (fun r => nx (.v (.int k r)) H)) False
    | .sub => cond (ikEq k k') (WrapK k (a - b) (fun r => nx (.v (.int k r)) H)) False
    | .mul => cond (ikEq k k') (WrapK k (a * b) (fun r => nx (.v (.int k r)) H)) False
    | .quo => cond (ikEq k k') (QuoK k a b (fun r => nx (.v (.int k r)) H)) False
    | .rem => cond (ikEq k k') (RemK a b (fun r => nx (.v (.int k r)) H)) False
    | .and => cond (ikEq k k') (BitK .and k a b (fun r => nx (.v (.int k r)) H)) False
    | .or => cond (ikEq k k') (BitK .or k a b (fun r => nx (.v (.int k r)) H)) False
    | .xor => cond (ikEq k k') (BitK .xor k a b (fun r => nx (.v (.int k r)) H)) False
    | .andNot => cond (ikEq k k') (BitK .andNot k a b (fun r => nx (.v (.int k r)) H)) False
    | .shl => OpK c o E H nx
    | .shr => OpK c o E H nx
    | .eql => cond (ikEq k k') (nx (.v (.bool (decide (a = b)))) H) False
    | .neq => cond (ikEq k k') (nx (.v (.bool (!decide (a = b)))) H) False
    | .lss => cond (ikEq k k') (nx (.v (.bool (decide (a < b)))) H) False
    | .leq => cond (ikEq k k') (nx (.v (.bool (decide (a ≤ b)))) H) False
    | .gtr => cond (ikEq k k') (nx (.v (.bool (decide (b < a)))) H) False
    | .geq => cond (ikEq k k') (nx (.v (.bool (decide (b ≤ a)))) H) False
  | .v (.string a), .v (.string b) =>
    match op with
    | .eql => nx (.v (.bool (decide (a = b)))) H
    | .neq => nx (.v (.bool (!decide (a = b)))) H
    | _ => OpK c o E H nx
  | _, _ => OpK c o E H nx
def fieldF (c : Cx) (t f : Nat) (k : Nat → Prop) : Prop :=
  match c.T.get t with
  | some i => match i.desc with
    | .struct fs => match fs[f]? with
      | some fd => match c.T.get fd.type with
        | some j => match j.size with
          | 0 => False
          | _ + 1 => k fd.offset
        | none => False
      | none => False
    | _ => False
  | none => False
def callF (c : Cx) (f : SV) (args : List SV) (H : List Blk) (nx : K1) : Prop :=
  match f with
  | .fn g caps => appF args caps (fun l => CallK c g l H nx)
  | .v fv => CallV c fv args H nx
  | _ => False
def SV.one : SV → Bool
  | .v x => x.oneCell'
  | .agg _ => false
  | .tup _ => false
  | _ => true
def allOne : List SV → Bool
  | [] => true
  | s :: l => cond s.one (allOne l) false
def lenL : List SV → Nat
  | [] => 0
  | _ :: l => lenL l + 1
def fieldL (c : Cx) (t f : Nat) (cs : List SV) (k : SV → Prop) : Prop :=
  fieldF c t f (fun m => match c.T.get t with
    | some i => match i.desc with
      | .struct fs => match fs[f]? with
        | some fd => loadF c fd.type cs m k
        | none => False
      | _ => False
    | none => False)
def fillF (pl : Nat → (Nat → Nat → Prop) → Prop) : List (Nat × SV) → List SV → (List SV → Prop) → Prop
  | [], cs, k => k cs
  | (i, s) :: rest, cs, k => pl i (fun off size => s.cellsF (fun new => cond (Nat.beq (lenL new) size) (storeF off new cs (fun cs => fillF pl rest cs k)) False))
def structPl (c : Cx) (fs : List Field) (i : Nat) (k : Nat → Nat → Prop) : Prop :=
  match fs[i]? with
  | some fd => match c.T.get fd.type with
    | some j => k fd.offset j.size
    | none => False
  | none => False
def arrPl (size i : Nat) (k : Nat → Nat → Prop) : Prop := k (i * size) size
def partsF (E : Env) : List (Nat × Operand) → (List (Nat × SV) → Prop) → Prop
  | [], k => k []
  | (i, x) :: l, k => match opd E x with
    | some s => partsF E l (fun r => k ((i, s) :: r))
    | none => False
def knownF (c : Cx) : List Field → Bool
  | [] => true
  | f :: fs => match c.T.get f.type with
    | some _ => knownF c fs
    | none => false
def repF : Nat → List SV → (List SV → Prop) → Prop
  | 0, _, k => k []
  | n + 1, z, k => repF n z (fun r => appF z r k)
def op1 (c : Cx) (o : Oper) (E : Env) (H : List Blk) (nx : K1) : Prop :=
  match o.op with
  | .move x => match opd E x with | some s => nx s H | none => False
  | .assign x => match opd E x with | some s => nx s H | none => False
  | .pick p a b => match opd E p with
    | some (.v (.bool p)) => cond p (match opd E a with | some s => nx s H | none => False) (match opd E b with | some s => nx s H | none => False)
    | _ => False
  | .alloc t => match c.T.get t with
    | some i => valsF i.zero.cells.toList (fun l => nextF H (fun i => ∀ b, nx (.loc b i 0) (.blk i b l t :: H)))
    | none => False
  | .box t x => match opd E x with
    | some s => s.cellsF (fun l => nextF H (fun i => ∀ b, nx (.loc b i 0) (.blk i b l t :: H)))
    | none => False
  | .load t x => match opd E x with
    | some (.loc b i off) => findF i H (fun b' cs => b' = b ∧ loadF c t cs off (fun s => nx s H))
    | some _ => OpK c o E H nx
    | none => False
  | .store t x y => match opd E x with
    | some (.loc b i off) => match opd E y with
      | some s => match c.T.get t with
        | some ti => findF i H (fun b' cs => b' = b ∧ s.cellsF (fun new => cond (allOne new) (cond (Nat.beq (lenL new) ti.size) (storeF off new cs (fun cs => setF i cs H (fun H' => nx (.v undef) H'))) False) False))
        | none => False
      | none => False
    | some _ => OpK c o E H nx
    | none => False
  | .fieldAddr t x f => match opd E x with
    | some (.loc b i off) => fieldF c t f (fun k => nx (.loc b i (off + k)) H)
    | some _ => OpK c o E H nx
    | none => False
  | .nilCheck x => match opd E x with
    | some (.loc b i off) => nx (.loc b i off) H
    | some (.fn g caps) => nx (.fn g caps) H
    | some (.v (.pointer (some a))) => nx (.v (.pointer (some a))) H
    | some _ => OpK c o E H nx
    | none => False
  | .field t x f => match opd E x with
    | some (.agg cs) => fieldL c t f cs (fun s => nx s H)
    | some (.v (.agg vs)) => valsF vs.toList (fun cs => fieldL c t f cs (fun s => nx s H))
    | some _ => OpK c o E H nx
    | none => False
  | .build t parts => match c.T.get t with
    | some i => match i.desc with
      | .struct fs => cond (knownF c fs.toList) (valsF i.zero.cells.toList (fun z => partsF E parts.toList (fun ps => fillF (structPl c fs.toList) ps z (fun cs => nx (.agg cs) H)))) False
      | .array _ e => match c.T.get e with
        | some j => valsF i.zero.cells.toList (fun z => partsF E parts.toList (fun ps => fillF (arrPl j.size) ps z (fun cs => nx (.agg cs) H)))
        | none => False
      | _ => False
    | none => False
  | .buildSlice t len parts => match c.T.get t with
    | some i => match i.desc with
      | .slice e => match c.T.get e with
        | some j => cond (Nat.ble (len * j.size) 16777216) (valsF j.zero.cells.toList (fun z => cond (Nat.beq (lenL z) j.size) (repF len z (fun cs => partsF E parts.toList (fun ps => fillF (arrPl j.size) ps cs (fun cs =>
            nextF H (fun i => ∀ b, nx (.slc b i 0 len len) (.blk i b cs e :: H)))))) False)) False
        | none => False
      | _ => False
    | none => False
  | .binOp op _ x y _ => match opd E x, opd E y with
    | some s, some t => binF c o op s t E H nx
    | _, _ => False
  | .unOp op _ x => match op, opd E x with
    | .not, some (.v (.bool p)) => nx (.v (.bool (!p))) H
    | .neg, some (.v (.int k a)) => WrapK k (0 - a) (fun r => nx (.v (.int k r)) H)
    | _, some _ => OpK c o E H nx
    | _, none => False
  | .convert q t x => match opd E x with
    | some (.v (.int _ a)) => match c.T.get q, c.T.get t with
      | some _, some i => match i.desc with
        | .int k => WrapK k a (fun r => nx (.v (.int k r)) H)
        | _ => OpK c o E H nx
      | _, _ => False
    | some _ => OpK c o E H nx
    | none => False
  | .extract x j => match opd E x with
    | some (.tup l) => nthF j l (fun s => nx s H)
    | some (.v (.tuple vs)) => valsF vs.toList (fun l => nthF j l (fun s => nx s H))
    | some _ => OpK c o E H nx
    | none => False
  | .makeFunc f first caps => match f, first.toList with
    | .func g, [] => opdsF E caps.toList (fun l => nx (.fn g l) H)
    | _, _ => OpK c o E H nx
  | .call cl => match cl.callee with
    | .value f => match opd E f with
      | some s => opdsF E cl.args.toList (fun l => callF c s l H nx)
      | none => False
    | .builtin .len => match cl.args.toList, cl.argTypes.toList with
      | [x], [t] => match opd E x, c.T.get t with
        | some s, some i => match i.desc, s with
          | .string, .v (.string s) => nx (.v (.int .i64 s.size)) H
          | .slice _, .v (.slice _ m _) => nx (.v (.int .i64 m)) H
          | .slice _, .slc _ _ _ m _ => nx (.v (.int .i64 m)) H
          | _, _ => OpK c o E H nx
        | _, _ => False
      | _, _ => False
    | _ => OpK c o E H nx
  | _ => OpK c o E H nx
def putE (d : Option Nat) (s : SV) (E : Env) : Env := match d with | some d => (d, s) :: E | none => E
theorem putF_spec {d : Option Nat} {s : SV} {E : Env} {k : Env → Prop} (h : putF d s E k) : k (putE d s E) := by cases d <;> exact h
def dstOf : List Oper → Nat → Option Nat
  | o :: _, 0 => o.dst
  | _ :: l, n + 1 => dstOf l n
  | [], _ => none
def okd (c : Cx) (d : Option Nat) : Bool := match d with | some d => Nat.blt d c.n | none => true
def opsF (c : Cx) (all : List Oper) : List Oper → Env → List Blk → KE → Prop
  | [], E, H, k => k E H
  | o :: l, E, H, k => cond (okd c o.dst) (match o.guard with
    | none => op1 c o E H (fun s H => putF o.dst s E (fun E => opsF c all l E H k))
    | some (j, want) => match dstOf all j with
      | none => False
      | some dj => match look dj E with
        | some (.v (.bool p)) => match want with
          | true => cond p (op1 c o ((dj, .v (.bool true)) :: E) H (fun s H => putF o.dst s ((dj, .v (.bool true)) :: E) (fun E => opsF c all l E H k)))
                           (putF o.dst (.v undef) ((dj, .v (.bool false)) :: E) (fun E => opsF c all l E H k))
          | false => cond p (putF o.dst (.v undef) ((dj, .v (.bool true)) :: E) (fun E => opsF c all l E H k))
                           (op1 c o ((dj, .v (.bool false)) :: E) H (fun s H => putF o.dst s ((dj, .v (.bool false)) :: E) (fun E => opsF c all l E H k)))
        | some (.v (.tuple _)) => putF o.dst (.v undef) E (fun E => opsF c all l E H k)
        | _ => False) False
end Go.X
namespace Go.X
open Go
theorem wpIn_of_run {c : Cx} {o : Oper} {a : Act} {w w' : World} {v : Value} {next : Act → World → Prop} {Q : Exit → Act → World → Prop}
    (hnd : ∀ cl, o.op ≠ .defer cl) (h : (execOp a.eval o).run c.P w = .ok (.value v) w') (hn : next (a.put o.dst v) w') : o.wpIn c.F 0 c.P a w next Q := by
  refine ⟨fun _ _ => trivial, ?_⟩
  rw [Oper.semAt_eq _ _ _ hnd, h]
  exact hn
theorem wpIn_of_skip {c : Cx} {o : Oper} {a : Act} {w w' : World} {next : Act → World → Prop} {Q : Exit → Act → World → Prop}
    (hnd : ∀ cl, o.op ≠ .defer cl) (h : (execOp a.eval o).run c.P w = .ok .skip w') (hn : next (a.put o.dst undef) w') : o.wpIn c.F 0 c.P a w next Q := by
  refine ⟨fun _ _ => trivial, ?_⟩
  rw [Oper.semAt_eq _ _ _ hnd, h]
  exact hn
theorem callsIn_of_calls {c : Cx} {f : FuncId} {args : Array Value} {w : World} {R : Ending → World → Prop} (h : Calls c.P f args w R) : CallsIn c.F 0 c.P f args w R := by
  refine ⟨trivial, fun cs _ => ?_⟩
  have := (callsIn_wide (n := 0)).2 h
  obtain ⟨e, w', fr, r, s, x⟩ := this.2 cs (room_wide _)
  exact ⟨e, w', fr, r, s, x⟩
theorem wpIn_of_enter {c : Cx} {o : Oper} {a : Act} {w w' : World} {f : FuncId} {args : Array Value} {next : Act → World → Prop} {Q : Exit → Act → World → Prop}
    (hnd : ∀ cl, o.op ≠ .defer cl) (h : (execOp a.eval o).run c.P w = .ok (.enter f args) w')
    (hn : Calls c.P f args w' fun e w'' => ∃ v, e = .returned v ∧ next (a.put o.dst v) w'') : o.wpIn c.F 0 c.P a w next Q := by
  refine ⟨fun _ _ => trivial, ?_⟩
  rw [Oper.semAt_eq _ _ _ hnd, h]
  refine ⟨fun h => by simp [Cx.F, Fence.wide] at h, (callsIn_of_calls hn).mono ?_⟩
  rintro e w'' ⟨v, rfl, h⟩
  exact h
theorem heap_alloc (w : World) (o : Obj) : (w.alloc o).heap = w.heap.push o := rfl
theorem Holds.mono {w w' : World} {H : List Blk} {S : Nat → Prop} (h : Holds w H S) (hs : w.heap.size ≤ w'.heap.size) (he : ∀ k, S k → w'.heap[k]? = w.heap[k]?) : Holds w' H S := by
  induction h with
  | nil => exact .nil
  | cons hx hb hH hd ih =>
    exact .cons (Blk.loc (fun k hk => he k (.inl hk)) hx) (fun k hk => Nat.lt_of_lt_of_le (hb k hk) hs) (ih fun k hk => he k (.inr hk)) hd
theorem Holds.lt {w : World} {H : List Blk} {S : Nat → Prop} (h : Holds w H S) : ∀ k, S k → k < w.heap.size := by
  induction h with
  | nil => exact fun _ h => h.elim
  | cons hx hb hH hd ih => exact fun k hk => hk.elim (hb k) (ih k)
theorem Holds.got {w : World} {H : List Blk} {S : Nat → Prop} (h : Holds w H S) {i b : Nat} {cs : List SV} {t : TypeId} (hm : .blk i b cs t ∈ H) :
    w.heap[b]? = some (.cells (denL cs).toArray t (0, 0)) := by
  induction h with
  | nil => simp at hm
  | cons hx hb hH hd ih =>
    simp only [List.mem_cons] at hm
    rcases hm with rfl | hm
    · exact hx.2
    · exact ih hm
theorem Kn0.got {W S H w} (h : Kn0 W S H w) {i b : Nat} {cs : List SV} {t : TypeId} (hm : .blk i b cs t ∈ H) :
    w.heap[b]? = some (.cells (denL cs).toArray t (0, 0)) := by
  obtain ⟨T, hT, _⟩ := h.foot
  exact hT.got hm
structure Eff (S : Nat → Prop) (w w' : World) : Prop where
  os : w'.os = w.os
  tape : w'.tape = w.tape
  output : w'.output = w.output
  size : w.heap.size ≤ w'.heap.size
  old : ∀ k, k < w.heap.size → ¬ S k → w'.heap[k]? = w.heap[k]?
theorem Kn0.eff {W S H H' w w'} {T T' : Nat → Prop} (h : Kn0 W S H w) (hT : ∀ k, T k → S k ∨ W.heap.size ≤ k) (he : Eff T w w') (hH : Holds w' H' T') (hT' : ∀ k, T' k → T k ∨ S k ∨ W.heap.size ≤ k) : Kn0 W S H' w' := by
  refine ⟨he.os.trans h.os, he.tape.trans h.tape, he.output.trans h.output, Nat.le_trans h.size he.size, fun k hk hn => ?_, T', hH, fun k hk => (hT' k hk).elim (hT k) id⟩
  rw [he.old k (Nat.lt_of_lt_of_le hk h.size) fun hk' => by
    rcases hT k hk' with h1 | h1
    · exact hn h1
    · omega]
  exact h.old k hk hn
theorem Kn0.alloc {W S H w} (h : Kn0 W S H w) (i : Nat) (cs : List SV) (t : TypeId) :
    Kn0 W S (.blk i w.heap.size cs t :: H) (w.alloc (.cells (denL cs).toArray t)) := by
  obtain ⟨T, hT, hb⟩ := h.foot
  have hlt := hT.lt
  have he : ∀ k, k < w.heap.size → (w.alloc (.cells (denL cs).toArray t)).heap[k]? = w.heap[k]? := by
    intro k hk
    rw [heap_alloc, Array.getElem?_push, if_neg (by omega)]
  have hsz : (w.alloc (.cells (denL cs).toArray t)).heap.size = w.heap.size + 1 := by rw [heap_alloc, Array.size_push]
  refine h.eff (T := fun _ => False) (fun _ h => h.elim) ⟨rfl, rfl, rfl, by omega, fun k hk _ => he k hk⟩
    (.cons (S := fun k => k = w.heap.size) (x := .blk i w.heap.size cs t) ⟨rfl, by rw [heap_alloc]; simp⟩ (by rintro k rfl; omega) (hT.mono (by omega) fun k hk => he k (hlt k hk)) ?_) ?_
  · rintro k rfl hk
    exact absurd (hlt _ hk) (Nat.lt_irrefl _)
  · rintro k (rfl | hk)
    · exact .inr (.inr h.size)
    · exact .inr (hb k hk)
theorem Holds.replace {w w' : World} {A B : List Blk} {x y : Blk} {S : Nat → Prop} (h : Holds w (A ++ x :: B) S)
    (hxy : ∀ S, x.holds w S → (∀ k, S k → k < w.heap.size) → Eff S w w' ∧ ∃ S', y.holds w' S' ∧ ∀ k, S' k → k < w'.heap.size ∧ (S k ∨ w.heap.size ≤ k)) :
    ∃ S' Sx, Holds w' (A ++ y :: B) S' ∧ Eff Sx w w' ∧ (∀ k, Sx k → S k) ∧ ∀ k, S' k → S k ∨ w.heap.size ≤ k := by
  induction A generalizing S with
  | nil =>
    cases h with
    | @cons _ _ Sx T hx hb hH hd =>
      obtain ⟨he, S', h1, h3⟩ := hxy Sx hx hb
      have hT : ∀ k, T k → w'.heap[k]? = w.heap[k]? := fun k hk => he.old k (hH.lt k hk) fun h => hd k h hk
      refine ⟨_, Sx, .cons h1 (fun k hk => (h3 k hk).1) (hH.mono he.size hT) (fun k hk hk' => ?_), he, fun k hk => .inl hk, fun k hk => ?_⟩
      · rcases (h3 k hk).2 with h | h
        · exact hd k h hk'
        · have := hH.lt k hk'; omega
      · rcases hk with hk | hk
        · exact (h3 k hk).2.imp .inl id
        · exact .inl (.inr hk)
  | cons a A ih =>
    cases h with
    | @cons _ _ Sa T ha hb hH hd =>
      obtain ⟨S', Sx, h1, he, h2, h4⟩ := ih hH
      have hSa : ∀ k, Sa k → w'.heap[k]? = w.heap[k]? := fun k hk => he.old k (hb k hk) fun h => hd k hk (h2 k h)
      refine ⟨_, Sx, .cons (Blk.loc hSa ha) (fun k hk => Nat.lt_of_lt_of_le (hb k hk) he.size) h1 (fun k hk hk' => ?_), he, fun k hk => .inr (h2 k hk), fun k hk => ?_⟩
      · rcases h4 k hk' with h | h
        · exact hd k hk h
        · have := hb k hk; omega
      · rcases hk with hk | hk
        · exact .inl (.inl hk)
        · exact (h4 k hk).imp .inr id
theorem Kn0.replace {W S w w'} {A B : List Blk} {x y : Blk} (h : Kn0 W S (A ++ x :: B) w)
    (hxy : ∀ S, x.holds w S → (∀ k, S k → k < w.heap.size) → Eff S w w' ∧ ∃ S', y.holds w' S' ∧ ∀ k, S' k → k < w'.heap.size ∧ (S k ∨ w.heap.size ≤ k)) :
    Kn0 W S (A ++ y :: B) w' := by
  obtain ⟨T, hT, hb⟩ := h.foot
  obtain ⟨T', Tx, h1, he, h2, h4⟩ := hT.replace hxy
  refine h.eff (T := Tx) (fun k hk => hb k (h2 k hk)) he h1 fun k hk => ?_
  rcases h4 k hk with h5 | h5
  · exact .inr (hb k h5)
  · have := h.size; exact .inr (.inr (by omega))
theorem setF_spec {i : Nat} {cs : List SV} {H : List Blk} {k : List Blk → Prop} (h : setF i cs H k) :
    ∃ A j b cs' t B, H = A ++ .blk j b cs' t :: B ∧ (∀ k, ¬ findF i A k) ∧ Nat.beq j i = true ∧ k (A ++ .blk j b cs t :: B) := by
  induction H generalizing k with
  | nil => exact h.elim
  | cons x H ih =>
    cases x with
    | ext j A =>
      simp only [setF] at h
      obtain ⟨A', j', b, cs', t, B, e, h1, h2, h3⟩ := ih h
      exact ⟨.ext j A :: A', j', b, cs', t, B, by rw [e]; rfl, fun k hk => h1 k hk, h2, h3⟩
    | blk j b cs0 t =>
      simp only [setF] at h
      cases hb : Nat.beq j i with
      | true => rw [hb] at h; exact ⟨[], j, b, cs0, t, H, rfl, fun k hk => hk, hb, h⟩
      | false =>
        rw [hb] at h
        obtain ⟨A', j', b', cs', t', B, e, h1, h2, h3⟩ := ih h
        exact ⟨.blk j b cs0 t :: A', j', b', cs', t', B, by rw [e]; rfl, fun k hk => by simp only [findF, hb, cond_false] at hk; exact h1 k hk, h2, h3⟩
theorem findF_spec' {i : Nat} {H : List Blk} {k : Nat → List SV → Prop} (h : findF i H k) :
    ∃ A j b cs t B, H = A ++ .blk j b cs t :: B ∧ (∀ k, ¬ findF i A k) ∧ Nat.beq j i = true ∧ k b cs := by
  induction H with
  | nil => exact h.elim
  | cons x H ih =>
    cases x with
    | ext j A =>
      simp only [findF] at h
      obtain ⟨A', j', b, cs', t, B, e, h1, h2, h3⟩ := ih h
      exact ⟨.ext j A :: A', j', b, cs', t, B, by rw [e]; rfl, fun k hk => h1 k hk, h2, h3⟩
    | blk j b cs0 t =>
      simp only [findF] at h
      cases hb : Nat.beq j i with
      | true => rw [hb] at h; exact ⟨[], j, b, cs0, t, H, rfl, fun k hk => hk, hb, h⟩
      | false =>
        rw [hb] at h
        obtain ⟨A', j', b', cs', t', B, e, h1, h2, h3⟩ := ih h
        exact ⟨.blk j b cs0 t :: A', j', b', cs', t', B, by rw [e]; rfl, fun k hk => by simp only [findF, hb, cond_false] at hk; exact h1 k hk, h2, h3⟩
theorem first_unique {i : Nat} : ∀ {A A' B B' : List Blk} {j b : Nat} {cs : List SV} {t : TypeId} {j' b' : Nat} {cs' : List SV} {t' : TypeId},
    A ++ .blk j b cs t :: B = A' ++ .blk j' b' cs' t' :: B' → (∀ k, ¬ findF i A k) → Nat.beq j i = true → (∀ k, ¬ findF i A' k) → Nat.beq j' i = true →
    A = A' ∧ Blk.blk j b cs t = .blk j' b' cs' t' ∧ B = B'
  | [], [], B, B', j, b, cs, t, j', b', cs', t', h, _, _, _, _ => by
    simp only [List.nil_append, List.cons.injEq] at h
    exact ⟨rfl, h.1, h.2⟩
  | [], a :: A', B, B', j, b, cs, t, j', b', cs', t', h, _, h2, h3, _ => by
    simp only [List.nil_append, List.cons_append, List.cons.injEq] at h
    exact absurd (by rw [← h.1]; simp [findF, h2]) (h3 (fun _ _ => True))
  | a :: A, [], B, B', j, b, cs, t, j', b', cs', t', h, h1, _, _, h4 => by
    simp only [List.nil_append, List.cons_append, List.cons.injEq] at h
    exact absurd (by rw [h.1]; simp [findF, h4]) (h1 (fun _ _ => True))
  | a :: A, a' :: A', B, B', j, b, cs, t, j', b', cs', t', h, h1, h2, h3, h4 => by
    simp only [List.cons_append, List.cons.injEq] at h
    obtain ⟨rfl, h⟩ := h
    have key : ∀ A : List Blk, (∀ k, ¬ findF i (a :: A) k) → ∀ k, ¬ findF i A k := by
      intro A hA k hk
      cases a with
      | ext q C => exact hA k hk
      | blk q c ds u =>
        have hq : Nat.beq q i = false := by
          cases hq : Nat.beq q i with
          | false => rfl
          | true => exact absurd (by simp [findF, hq]) (hA (fun _ _ => True))
        exact hA k (by simp only [findF, hq, cond_false]; exact hk)
    obtain ⟨e1, e2, e3⟩ := first_unique h (key A h1) h2 (key A' h3) h4
    exact ⟨by rw [e1], e2, e3⟩
theorem Kn0.setRow {W S A B w} {i b : Nat} {cs0 : List SV} {t : TypeId} (h : Kn0 W S (A ++ .blk i b cs0 t :: B) w) (cs : List SV) :
    Kn0 W S (A ++ .blk i b cs t :: B) (w.setRow b (denL cs).toArray) := by
  have hx := h.got (i := i) (b := b) (cs := cs0) (t := t) (by simp)
  have hrow : (w.setRow b (denL cs).toArray).heap[b]? = some (.cells (denL cs).toArray t (0, 0)) := setRow_heap w b _ _ t _ hx
  have hne : ∀ k, k ≠ b → (w.setRow b (denL cs).toArray).heap[k]? = w.heap[k]? := by
    intro k hk
    simp only [World.setRow, Array.getElem?_modify]
    rw [if_neg (fun e => hk e.symm)]
  have hsz : (w.setRow b (denL cs).toArray).heap.size = w.heap.size := by simp [World.setRow]
  refine h.replace fun S hS hlt => ⟨⟨rfl, rfl, rfl, by rw [hsz]; exact Nat.le_refl _, fun k hk hn => hne k fun e => hn (e ▸ hS.1)⟩, S, ⟨hS.1, hrow⟩, fun k hk => ⟨by rw [hsz]; exact hlt k hk, .inl hk⟩⟩
theorem Holds.perm {w : World} {H H' : List Blk} (hp : H.Perm H') : ∀ {T : Nat → Prop}, Holds w H T → ∃ T', Holds w H' T' ∧ ∀ k, T' k ↔ T k := by
  induction hp with
  | nil => exact fun h => ⟨_, h, fun _ => Iff.rfl⟩
  | cons x hp ih =>
    intro T h
    cases h with
    | @cons _ _ Sx T' hx hb hH hd =>
      obtain ⟨T'', h1, h2⟩ := ih hH
      exact ⟨_, .cons hx hb h1 (fun k hk hk' => hd k hk ((h2 k).1 hk')), fun k => or_congr Iff.rfl (h2 k)⟩
  | swap x y l =>
    intro T h
    cases h with
    | @cons _ _ Sy T' hy hb hH hd =>
      cases hH with
      | @cons _ _ Sx T'' hx hb' hH' hd' =>
        refine ⟨_, .cons hx hb' (.cons hy hb hH' (fun k hk hk' => hd k hk (.inr hk'))) (fun k hk hk' => ?_), fun k => ?_⟩
        · rcases hk' with hk' | hk'
          · exact hd k hk' (.inl hk)
          · exact hd' k hk hk'
        · constructor
          · rintro (h | h | h)
            · exact .inr (.inl h)
            · exact .inl h
            · exact .inr (.inr h)
          · rintro (h | h | h)
            · exact .inr (.inl h)
            · exact .inl h
            · exact .inr (.inr h)
  | trans _ _ ih1 ih2 =>
    intro T h
    obtain ⟨T1, h1, h2⟩ := ih1 h
    obtain ⟨T2, h3, h4⟩ := ih2 h1
    exact ⟨T2, h3, fun k => (h4 k).trans (h2 k)⟩
theorem Kn0.perm {W S H H' w} (h : Kn0 W S H w) (hp : H.Perm H') : Kn0 W S H' w := by
  obtain ⟨T, hT, hb⟩ := h.foot
  obtain ⟨T', h1, h2⟩ := hT.perm hp
  exact ⟨h.os, h.tape, h.output, h.size, h.old, T', h1, fun k hk => hb k ((h2 k).1 hk)⟩
theorem Kn.size {W S ms H w} (h : Kn W S ms H w) : W.heap.size ≤ w.heap.size := Kn0.size h
theorem Kn.got {W S ms H w} (h : Kn W S ms H w) {i b : Nat} {cs : List SV} {t : TypeId} (hm : .blk i b cs t ∈ H) :
    w.heap[b]? = some (.cells (denL cs).toArray t (0, 0)) := Kn0.got (i := i) h (List.mem_append_right _ hm)
theorem Kn.alloc {W S ms H w} (h : Kn W S ms H w) (i : Nat) (cs : List SV) (t : TypeId) :
    Kn W S ms (.blk i w.heap.size cs t :: H) (w.alloc (.cells (denL cs).toArray t)) :=
  (Kn0.alloc h i cs t).perm (List.perm_middle.symm)
theorem Kn.replace {W S ms w w'} {A B : List Blk} {x y : Blk} (h : Kn W S ms (A ++ x :: B) w)
    (hxy : ∀ S, x.holds w S → (∀ k, S k → k < w.heap.size) → Eff S w w' ∧ ∃ S', y.holds w' S' ∧ ∀ k, S' k → k < w'.heap.size ∧ (S k ∨ w.heap.size ≤ k)) :
    Kn W S ms (A ++ y :: B) w' := by
  have := Kn0.replace (A := ms.map DB ++ A) (B := B) (x := x) (y := y) (w := w) (w' := w') (W := W) (S := S) (by rw [List.append_assoc]; exact h) hxy
  rw [List.append_assoc] at this
  exact this
theorem Kn.setRow {W S ms A B w} {i b : Nat} {cs0 : List SV} {t : TypeId} (h : Kn W S ms (A ++ .blk i b cs0 t :: B) w) (cs : List SV) :
    Kn W S ms (A ++ .blk i b cs t :: B) (w.setRow b (denL cs).toArray) := by
  have := Kn0.setRow (A := ms.map DB ++ A) (B := B) (i := i) (b := b) (cs0 := cs0) (t := t) (w := w) (W := W) (S := S) (by rw [List.append_assoc]; exact h) cs
  rw [List.append_assoc] at this
  exact this
theorem takeF_spec {n : Nat} : ∀ {l : List SV} {k : List SV → Prop}, takeF n l k → n ≤ l.length ∧ k (l.take n) := by
  induction n with
  | zero => intro l k h; exact ⟨Nat.zero_le _, by simpa [takeF] using h⟩
  | succ n ih =>
    intro l k h
    cases l with
    | nil => exact h.elim
    | cons x l =>
      obtain ⟨h1, h2⟩ := ih h
      exact ⟨by simpa using h1, by simpa using h2⟩
theorem dropF_spec {n : Nat} : ∀ {l : List SV} {k : List SV → Prop}, dropF n l k → n ≤ l.length ∧ k (l.drop n) := by
  induction n with
  | zero => intro l k h; exact ⟨Nat.zero_le _, by simpa [dropF] using h⟩
  | succ n ih =>
    intro l k h
    cases l with
    | nil => exact h.elim
    | cons x l =>
      obtain ⟨h1, h2⟩ := ih h
      exact ⟨by simpa using h1, by simpa using h2⟩
theorem nthF_spec {n : Nat} : ∀ {l : List SV} {k : SV → Prop}, nthF n l k → ∃ s, l[n]? = some s ∧ k s := by
  induction n with
  | zero => intro l k h; cases l with | nil => exact h.elim | cons x l => exact ⟨x, rfl, h⟩
  | succ n ih => intro l k h; cases l with | nil => exact h.elim | cons x l => obtain ⟨s, h1, h2⟩ := ih h; exact ⟨s, by simpa using h1, h2⟩
theorem overF_spec : ∀ {new l : List SV} {k : List SV → Prop}, overF new l k → new.length ≤ l.length ∧ k (new ++ l.drop new.length)
  | [], l, k, h => ⟨Nat.zero_le _, by simpa [overF] using h⟩
  | x :: new, [], k, h => h.elim
  | x :: new, y :: l, k, h => by
    obtain ⟨h1, h2⟩ := overF_spec (new := new) (l := l) h
    exact ⟨by simpa using h1, by simpa using h2⟩
theorem storeF_spec {n : Nat} {new : List SV} : ∀ {l : List SV} {k : List SV → Prop}, storeF n new l k → n + new.length ≤ l.length ∧ k (l.take n ++ new ++ l.drop (n + new.length)) := by
  induction n with
  | zero => intro l k h; obtain ⟨h1, h2⟩ := overF_spec h; exact ⟨by omega, by simpa using h2⟩
  | succ n ih =>
    intro l k h
    cases l with
    | nil => exact h.elim
    | cons x l =>
      obtain ⟨h1, h2⟩ := ih h
      refine ⟨by simp only [List.length_cons]; omega, ?_⟩
      rw [show n + 1 + new.length = (n + new.length) + 1 from by omega]
      simpa using h2
theorem valsF_spec : ∀ {l : List Value} {k : List SV → Prop}, valsF l k → k (l.map .v)
  | [], _, h => h
  | _ :: l, _, h => by simpa using valsF_spec (l := l) h
theorem opdsF_spec {n ds E a} (ha : Has n ds E a) : ∀ {l : List Operand} {k : List SV → Prop}, opdsF E l k → ∃ r, l.map a.eval = denL r ∧ k r
  | [], _, h => ⟨[], rfl, h⟩
  | x :: l, k, h => by
    simp only [opdsF] at h
    split at h
    · rename_i s hs
      obtain ⟨r, h1, h2⟩ := opdsF_spec ha (l := l) h
      exact ⟨s :: r, by simp [h1, denL, ha.opd hs], h2⟩
    · exact h.elim
theorem appF_spec : ∀ {a l : List SV} {k : List SV → Prop}, appF a l k → k (a ++ l)
  | [], _, _, h => h
  | _ :: a, _, _, h => by simpa using appF_spec (a := a) h
theorem denL_map_v (l : List Value) : denL (l.map .v) = l := by
  induction l with
  | nil => rfl
  | cons x l ih => simp [denL, den, ih]
theorem cellsF_spec {s : SV} {k : List SV → Prop} (h : s.cellsF k) : ∃ l, (den s).cells = (denL l).toArray ∧ k l := by
  unfold SV.cellsF at h
  split at h
  · exact ⟨_, by simp [den, Value.cells], h⟩
  · rename_i cs
    exact ⟨_, by simp [den, Value.cells, denL_map_v], valsF_spec h⟩
  · rename_i h1 h2
    refine ⟨[s], ?_, h⟩
    cases s with
    | agg cs => exact absurd rfl (h1 cs)
    | v x => cases x with
      | agg cs => exact absurd rfl (h2 cs)
      | _ => rfl
    | _ => rfl
theorem denL_append (a b : List SV) : denL (a ++ b) = denL a ++ denL b := by simp [denL_eq]
theorem denL_take (n : Nat) (a : List SV) : denL (a.take n) = (denL a).take n := by simp [denL_eq]
theorem denL_drop (n : Nat) (a : List SV) : denL (a.drop n) = (denL a).drop n := by simp [denL_eq]
theorem denL_length (a : List SV) : (denL a).length = a.length := by simp [denL_eq]
theorem denL_getElem? (a : List SV) (n : Nat) : (denL a)[n]? = (a[n]?).map den := by simp [denL_eq]
theorem one_den {s : SV} (h : s.one = true) : (den s).oneCell' = true := by
  cases s <;> simp_all [SV.one, den, Value.oneCell']
theorem allOne_den {l : List SV} (h : allOne l = true) : ∀ v ∈ denL l, v.oneCell' = true := by
  induction l with
  | nil => simp [denL]
  | cons s l ih =>
    simp only [allOne] at h
    cases hs : s.one with
    | false => rw [hs] at h; cases h
    | true =>
      rw [hs] at h
      simp only [denL, List.mem_cons, forall_eq_or_imp]
      exact ⟨one_den hs, ih h⟩
theorem lenL_eq (l : List SV) : lenL l = l.length := by
  induction l with
  | nil => rfl
  | cons s l ih => simp [lenL, ih]
end Go.X
namespace Go.X
open Go
section
variable {P : Program} {t : Nat} {i : TI}
theorem r_underlying (h : TIok P t i) (w : World) : (underlying t).run P w = .ok i.desc w := run_underlying h.1 w
theorem r_info (h : TIok P t i) (w : World) : ∃ inf, (typeInfo t).run P w = .ok inf w ∧ inf.size = i.size ∧ inf.bytes = i.bytes ∧ inf.zero = some i.zero := by
  obtain ⟨_, h2⟩ := h
  cases hi : P.info? t with
  | none => rw [hi] at h2; cases h2
  | some inf =>
    rw [hi] at h2
    simp only [Option.map_some, Option.some.injEq, Prod.mk.injEq] at h2
    exact ⟨inf, by simp [typeInfo, hi], h2.1, h2.2.1, h2.2.2⟩
theorem r_sizeOf (h : TIok P t i) (w : World) : (sizeOf t).run P w = .ok i.size w := by
  obtain ⟨inf, h1, h2, _⟩ := r_info h w
  simp [sizeOf, h1, h2]
theorem r_zeroValue (h : TIok P t i) (w : World) : (zeroValue t).run P w = .ok i.zero w := by
  obtain ⟨inf, h1, _, _, h2⟩ := r_info h w
  simp [zeroValue, h1, h2]
theorem r_isAgg (h : TIok P t i) (w : World) : (isAgg t).run P w = .ok (TypeDesc.isAgg i.desc) w := by
  unfold isAgg
  rw [Sem.run_bind, r_underlying h w]
  cases hd : i.desc <;> simp [TypeDesc.isAgg]
end
theorem add_none (b off k : Nat) : (⟨b, off, none⟩ : Addr).add k = ⟨b, off + k, none⟩ := by
  unfold Addr.add; split <;> simp_all
theorem cell_of {w : World} {b : Nat} {C : Array Value} {t : TypeId} {f : Nat × Nat} (h : w.heap[b]? = some (.cells C t f)) (off : Nat) : w.cell? ⟨b, off, none⟩ = C[off]? := by
  simp [World.cell?, h]
theorem r_loadVar {P : Program} {t : Nat} {i : TI} (h : TIok P t i) {w : World} {b off : Nat} {C : Array Value} {t' : TypeId} {f : Nat × Nat}
    (hb : w.heap[b]? = some (.cells C t' f)) :
    (TypeDesc.isAgg i.desc = true → off + i.size ≤ C.size → (loadVar t ⟨b, off, none⟩).run P w = .ok (.agg ((C.toList.drop off).take i.size).toArray) w) ∧
    (TypeDesc.isAgg i.desc = false → ∀ v, C[off]? = some v → (loadVar t ⟨b, off, none⟩).run P w = .ok v w) := by
  constructor
  · intro ha hs
    unfold loadVar
    rw [Sem.run_bind, r_isAgg h w]
    simp only [Result.andThen_ok, ha, if_true]
    have hlen : ((C.toList.drop off).take i.size).length = i.size := by simp; omega
    have hl : (loadCells ⟨b, off, none⟩ i.size).run P w = .ok ((C.toList.drop off).take i.size).toArray w := by
      have := run_loadCells_list (P := P) w ⟨b, off, none⟩ ((C.toList.drop off).take i.size) (fun j v hj => by
        rw [add_none, cell_of hb]
        rw [List.getElem?_take] at hj
        split at hj
        · rw [List.getElem?_drop] at hj; simpa using hj
        · cases hj)
      rwa [hlen] at this
    simp [r_sizeOf h w, hl]
  · intro ha v hv
    unfold loadVar
    rw [Sem.run_bind, r_isAgg h w]
    simp only [Result.andThen_ok, ha]
    simp [run_load, cell_of hb, hv]
theorem r_loadF {c : Cx} (hT : TOk c.P c.T) {t : Nat} {cs : List SV} {off : Nat} {k : SV → Prop} (h : loadF c t cs off k)
    {w : World} {b : Nat} {t' : TypeId} {f : Nat × Nat} (hb : w.heap[b]? = some (.cells (denL cs).toArray t' f)) :
    ∃ s, (loadVar t ⟨b, off, none⟩).run c.P w = .ok (den s) w ∧ k s := by
  unfold loadF at h
  split at h
  · rename_i i hi
    have hti := hT t i hi
    cases ha : TypeDesc.isAgg i.desc with
    | true =>
      rw [ha] at h
      obtain ⟨h1, h2⟩ := dropF_spec h
      obtain ⟨h3, h4⟩ := takeF_spec h2
      refine ⟨_, ?_, h4⟩
      simp only [List.length_drop] at h3
      rw [(r_loadVar hti hb).1 ha (by simp [denL_length]; omega)]
      simp [den, denL_take, denL_drop]
    | false =>
      rw [ha] at h
      obtain ⟨s, h1, h2⟩ := nthF_spec h
      refine ⟨s, ?_, h2⟩
      exact (r_loadVar hti hb).2 ha _ (by simp [denL_getElem?, h1])
  · exact h.elim
theorem r_storeVar {P : Program} {t : Nat} {i : TI} (h : TIok P t i) {w : World} {b off : Nat} {C : List Value} {t' : TypeId} {v : Value} {vs : List Value}
    (hb : w.heap[b]? = some (.cells C.toArray t' (0, 0))) (hv : v.cells = vs.toArray) (hs : vs.length = i.size) (h1 : ∀ x ∈ vs, x.oneCell' = true) (hl : off + vs.length ≤ C.length) :
    (storeVar t ⟨b, off, none⟩ v).run P w = .ok () (w.setRow b (C.take off ++ vs ++ C.drop (off + vs.length)).toArray) := by
  unfold storeVar
  rw [Sem.run_bind, r_sizeOf h w]
  simp only [Result.andThen_ok, hv, List.size_toArray, hs, ne_eq, not_true_eq_false, if_false]
  have := run_storeCells_at (P := P) b off t' vs 0 C.toArray w hb (by simpa using hl) h1
  simpa [hs] using this
theorem beq_true {a b : Nat} (h : Nat.beq a b = true) : a = b := Nat.eq_of_beq_eq_true h
theorem fieldF_spec {c : Cx} {t f : Nat} {k : Nat → Prop} (h : fieldF c t f k) :
    ∃ (i : TI) (fs : Array Field) (fd : Field) (j : TI), c.T.get t = some i ∧ i.desc = .struct fs ∧ fs[f]? = some fd ∧ c.T.get fd.type = some j ∧ j.size ≠ 0 ∧ k fd.offset := by
  unfold fieldF at h
  split at h
  · rename_i i hi
    split at h
    · rename_i fs hfs
      split at h
      · rename_i fd hfd
        split at h
        · rename_i j hj
          split at h
          · exact h.elim
          · rename_i m hm
            exact ⟨i, fs, fd, j, hi, hfs, hfd, hj, by omega, h⟩
        · exact h.elim
      · exact h.elim
    · exact h.elim
  · exact h.elim
theorem r_fieldAt {c : Cx} (hT : TOk c.P c.T) {t f : Nat} {k : Nat → Prop} (h : fieldF c t f k) (b off : Nat) (w : World) :
    ∃ m, (Instr.fieldAt t (.pointer (some ⟨b, off, none⟩)) f).run c.P w = .ok (.pointer (some ⟨b, off + m, none⟩)) w ∧ k m := by
  obtain ⟨i, fs, fd, j, h1, h2, h3, h4, h5, h6⟩ := fieldF_spec h
  refine ⟨fd.offset, ?_, h6⟩
  have hu := r_underlying (hT t i h1) w
  have hs := r_sizeOf (hT _ j h4) w
  unfold Instr.fieldAt
  rw [Sem.run_bind, hu]
  simp only [Result.andThen_ok, h2, h3]
  simp [Instr.sureAddr, fieldPlace, hs, h5, add_none]
end Go.X
namespace Go.X
open Go
theorem sem1_of_run {c : Cx} {o : Oper} {E : Env} {H : List Blk} {nx : K1}
    (hnd : ∀ cl, o.op ≠ .defer cl)
    (h : ∀ ms a w, Has c.n ms E a → Kn c.W c.S ms H w → ∃ s H' w', (execOp a.eval o).run c.P w = .ok (.value (den s)) w' ∧ Kn c.W c.S ms H' w' ∧ nx s H') : Sem1 c o E H nx := by
  intro ms a w ha hk Q
  obtain ⟨s, H', w', h1, h2, h3⟩ := h ms a w ha hk
  exact wpIn_of_run hnd h1 ⟨s, H', rfl, h2, h3⟩
section
variable {c : Cx} {E : Env} {H : List Blk} {nx : K1} {o : Oper}
theorem OpK.out (h : OpK c o E H nx) : Sem1 c o E H nx := h.get
theorem WrapK.out {k : IntKind} {z : Int} {f : Int → Prop} (h : WrapK k z f) : f (k.wrap z) := h.get
theorem QuoK.out {k : IntKind} {x y : Int} {f : Int → Prop} (h : QuoK k x y f) : y ≠ 0 ∧ f (k.wrap (x.tdiv y)) := h.get
theorem RemK.out {x y : Int} {f : Int → Prop} (h : RemK x y f) : y ≠ 0 ∧ f (x.tmod y) := h.get
theorem BitK.out {op : BinOp} {k : IntKind} {x y : Int} {f : Int → Prop} (h : BitK op k x y f) : f (k.wrap (bitN op k x y)) := h.get
theorem toList_inj {a b : ByteArray} (h : a.toList = b.toList) : a = b := by
  rw [ByteArray.toList_eq, ByteArray.toList_eq] at h
  cases a; cases b
  simp only [ByteArray.mk.injEq]
  exact Array.toList_inj.1 h
theorem str_beq (a b : ByteArray) : (a.toList == b.toList) = decide (a = b) := by
  rw [Bool.eq_iff_iff]
  simp only [beq_iff_eq, decide_eq_true_eq]
  exact ⟨toList_inj, fun h => by rw [h]⟩
theorem int_beq (a b : Int) : (a == b) = decide (a = b) := by
  rw [Bool.eq_iff_iff]; simp
theorem int_bne (a b : Int) : (a != b) = !decide (a = b) := by
  rw [bne, int_beq]
theorem ikc {a b : IntKind} {p : Prop} (h : cond (ikEq a b) p False) : a = b ∧ p := by
  cases hb : ikEq a b with
  | true => rw [hb] at h; exact ⟨ikEq_eq hb, h⟩
  | false => rw [hb] at h; exact h.elim
theorem binF_sound {op : BinOp} {ty ty' : TypeId} {x y : Operand} {s t : SV} (ho : o.op = .binOp op ty x y ty')
    (hs : opd E x = some s) (ht : opd E y = some t) (h : binF c o op s t E H nx) : Sem1 c o E H nx := by
  have hnd : ∀ cl, o.op ≠ .defer cl := by rw [ho]; intro cl e; cases e
  unfold binF at h
  split at h
  · rename_i k a k' b
    have key : ∀ v : Value, (∀ w, (Go.binOp op ty (.int k a) (.int k' b)).run c.P w = .ok v w) → nx (.v v) H → Sem1 c o E H nx := by
      intro v hv hn
      refine sem1_of_run hnd fun ms act w ha hk => ⟨.v v, H, w, ?_, hk, hn⟩
      have e1 := ha.opd hs
      have e2 := ha.opd ht
      simp only [den] at e1 e2
      simp only [execOp, ho, e1, e2]
      cases op <;> simp [eqGuard, hv, den]
    cases op <;> dsimp only at h
    case add => obtain ⟨rfl, g⟩ := ikc h; exact key _ (fun w => by simp [Go.binOp, Op.intArith]) g.out
    case sub => obtain ⟨rfl, g⟩ := ikc h; exact key _ (fun w => by simp [Go.binOp, Op.intArith]) g.out
    case mul => obtain ⟨rfl, g⟩ := ikc h; exact key _ (fun w => by simp [Go.binOp, Op.intArith]) g.out
    case quo => obtain ⟨rfl, g⟩ := ikc h; exact key _ (fun w => by simp [Go.binOp, Op.intDiv, g.out.1]) g.out.2
    case rem => obtain ⟨rfl, g⟩ := ikc h; exact key _ (fun w => by simp [Go.binOp, Op.intDiv, g.out.1]) g.out.2
    case and => obtain ⟨rfl, g⟩ := ikc h; exact key _ (fun w => by simp [Go.binOp, Op.intBits, bitN]) g.out
    case or => obtain ⟨rfl, g⟩ := ikc h; exact key _ (fun w => by simp [Go.binOp, Op.intBits, bitN]) g.out
    case xor => obtain ⟨rfl, g⟩ := ikc h; exact key _ (fun w => by simp [Go.binOp, Op.intBits, bitN]) g.out
    case andNot => obtain ⟨rfl, g⟩ := ikc h; exact key _ (fun w => by simp [Go.binOp, Op.intBits, bitN]) g.out
    case shl => exact h.out
    case shr => exact h.out
    case eql => obtain ⟨rfl, g⟩ := ikc h; exact key _ (fun w => by simp [Go.binOp, Op.intCmp, int_beq]) g
    case neq => obtain ⟨rfl, g⟩ := ikc h; exact key _ (fun w => by simp [Go.binOp, Op.intCmp, int_bne]) g
    case lss => obtain ⟨rfl, g⟩ := ikc h; exact key _ (fun w => by simp [Go.binOp, Op.intCmp]) g
    case leq => obtain ⟨rfl, g⟩ := ikc h; exact key _ (fun w => by simp [Go.binOp, Op.intCmp]) g
    case gtr => obtain ⟨rfl, g⟩ := ikc h; exact key _ (fun w => by simp [Go.binOp, Op.intCmp]) g
    case geq => obtain ⟨rfl, g⟩ := ikc h; exact key _ (fun w => by simp [Go.binOp, Op.intCmp]) g
  · rename_i a b
    have key : ∀ v : Value, (∀ w, (Go.binOp op ty (.string a) (.string b)).run c.P w = .ok v w) → nx (.v v) H → Sem1 c o E H nx := by
      intro v hv hn
      refine sem1_of_run hnd fun ms act w ha hk => ⟨.v v, H, w, ?_, hk, hn⟩
      have e1 := ha.opd hs
      have e2 := ha.opd ht
      simp only [den] at e1 e2
      simp only [execOp, ho, e1, e2]
      cases op <;> simp [eqGuard, hv, den]
    split at h
    · exact key _ (fun w => by simp [Go.binOp, Op.stringOp, str_beq]) h
    · exact key _ (fun w => by simp [Go.binOp, Op.stringOp, str_beq]) h
    · exact h.out
  · exact h.out
end
end Go.X
namespace Go.X
open Go
section
variable {c : Cx} {E : Env} {H : List Blk} {nx : K1} {o : Oper}
theorem CallK.out {g : FuncId} {l : List SV} (h : CallK c g l H nx) :
    ∀ ms w, Kn c.W c.S ms H w → CT c.P g (denL l).toArray w (fun e w' => ∃ s H', e = .returned (den s) ∧ Kn c.W c.S ms H' w' ∧ nx s H') := h.get
theorem CallV.out {fv : Value} {l : List SV} (h : CallV c fv l H nx) :
    ∀ ms w, Kn c.W c.S ms H w → VC c.P fv (denL l).toArray w (fun v w' => ∃ s H', v = den s ∧ Kn c.W c.S ms H' w' ∧ nx s H') := h.get
theorem run_callFunc {P : Program} {f : FuncId} (h : Bodied P f) (args : Array Value) (w : World) : (callFunc f args).run P w = .ok (.enter f args) w := by
  obtain ⟨fn, hf, h1, h2⟩ := h
  unfold callFunc
  rw [Sem.run_bind, run_program]
  simp only [Result.andThen_ok, hf, h1, h2]
  rfl
theorem op1_move {x : Operand} (hT : ∀ a w, (execOp a o).run c.P w = .ok (.value (a x)) w) (hnd : ∀ cl, o.op ≠ .defer cl) {s : SV} (hs : opd E x = some s) (h : nx s H) : Sem1 c o E H nx :=
  sem1_of_run hnd fun ms a w ha hk => ⟨s, H, w, by rw [hT, ha.opd hs], hk, h⟩
theorem run_newVar (P : Program) (t : TypeId) (v : Value) (w : World) : (newVar t v).run P w = .ok ⟨w.heap.size, 0, none⟩ (w.alloc (.cells v.cells t)) := rfl
theorem nth_array {α : Type} (l : List α) (i : Nat) : l.toArray[i]? = l[i]? := by simp
theorem r_fieldL (hT : TOk c.P c.T) {t f : Nat} {cs : List SV} {k : SV → Prop} (h : fieldL c t f cs k) (w : World) :
    ∃ s, (Instr.field t (.agg (denL cs).toArray) f).run c.P w = .ok (den s) w ∧ k s := by
  unfold fieldL at h
  obtain ⟨i, fs, fd, j, g1, g2, g3, g4, g5, g6⟩ := fieldF_spec h
  rw [g1] at g6
  simp only [g2, g3] at g6
  unfold loadF at g6
  rw [g4] at g6
  simp only at g6
  have hu := r_underlying (hT t i g1) w
  have hag := r_isAgg (hT _ j g4) w
  have hsz := r_sizeOf (hT _ j g4) w
  cases hagg : TypeDesc.isAgg j.desc with
  | true =>
    rw [hagg] at g6 hag
    obtain ⟨q1, q2⟩ := dropF_spec g6
    obtain ⟨q3, q4⟩ := takeF_spec q2
    refine ⟨_, ?_, q4⟩
    simp only [Instr.field, Sem.run_bind, hu, Result.andThen_ok, g2, g3, asAgg, part]
    simp [hsz, hag, den, denL_take, denL_drop, Nat.add_sub_cancel_left]
  | false =>
    rw [hagg] at g6 hag
    obtain ⟨s, q1, q2⟩ := nthF_spec g6
    refine ⟨s, ?_, q2⟩
    simp only [Instr.field, Sem.run_bind, hu, Result.andThen_ok, g2, g3]
    simp [hag, part, denL_getElem?, q1, asAgg]
theorem fold_set : ∀ (new : List Value) (off : Nat) (m : Nat) (cs : Array Value), off + m + new.length ≤ cs.size →
    ((new.zipIdx m).foldl (fun (cs : Array Value) (p : Value × Nat) => cs.setIfInBounds (off + p.2) p.1) cs) = (cs.toList.take (off + m) ++ new ++ cs.toList.drop (off + m + new.length)).toArray
  | [], off, m, cs, _ => by simp
  | x :: new, off, m, cs, h => by
    simp only [List.zipIdx_cons, List.foldl_cons]
    simp only [List.length_cons] at h
    rw [fold_set new off (m + 1) _ (by simp; omega)]
    congr 1
    simp only [Array.toList_setIfInBounds]
    apply List.ext_getElem?
    intro k
    simp only [List.getElem?_append, List.length_append, List.length_take, List.length_set, Array.length_toList, List.length_cons, List.getElem?_take, List.getElem?_set, List.getElem?_drop, List.getElem?_cons]
    have e1 : min (off + m) cs.size = off + m := by omega
    have e2 : min (off + (m + 1)) cs.size = off + m + 1 := by omega
    rw [e1, e2]
    by_cases h1 : k < off + m
    · have : ¬ off + m = k := by omega
      simp only [h1, this, show k < off + m + 1 from by omega, show k < off + m + 1 + new.length from by omega, show k < off + m + (new.length + 1) from by omega, show k < off + (m + 1) from by omega, if_true, if_false]
    · by_cases h2 : k = off + m
      · subst h2
        simp only [Nat.lt_irrefl, show off + m < off + m + 1 from by omega, show off + m < off + m + 1 + new.length from by omega, show off + m < off + (m + 1) from by omega, show off + m < off + m + (new.length + 1) from by omega, show off + m < cs.size from by omega, if_true, if_false, Nat.sub_self]
      · by_cases h3 : k < off + m + 1 + new.length
        · have a1 : ¬ k < off + m + 1 := by omega
          have a2 : ¬ k - (off + m) = 0 := by omega
          simp only [h1, a1, h3, a2, if_false, if_true, show k < off + m + (new.length + 1) from by omega]
          rw [show k - (off + m) - 1 = k - (off + m + 1) from by omega]
        · have a1 : ¬ k < off + m + 1 := by omega
          have a3 : ¬ k < off + m + (new.length + 1) := by omega
          have a4 : ¬ off + m = off + (m + 1) + new.length + (k - (off + m + 1 + new.length)) := by omega
          simp only [h3, a3, if_false, a4]
          congr 1
          omega
theorem fillF_spec {pl : Nat → (Nat → Nat → Prop) → Prop} {place : Nat → Option (Nat × Nat)} (hpl : ∀ i k, pl i k → ∃ off size, place i = some (off, size) ∧ k off size) :
    ∀ {ps : List (Nat × SV)} {cs : List SV} {k : List SV → Prop}, fillF pl ps cs k →
      ∃ r, Instr.fill place (denL cs).toArray (ps.map fun p => (p.1, den p.2)) = some (denL r).toArray ∧ k r
  | [], cs, k, h => ⟨cs, rfl, h⟩
  | (i, s) :: ps, cs, k, h => by
    simp only [fillF] at h
    obtain ⟨off, size, h1, h2⟩ := hpl i _ h
    obtain ⟨new, h3, h4⟩ := cellsF_spec h2
    cases hlen : Nat.beq (lenL new) size with
    | false => rw [hlen] at h4; exact h4.elim
    | true =>
      rw [hlen] at h4
      simp only [cond_true] at h4
      have hsz := beq_true hlen
      rw [lenL_eq] at hsz
      obtain ⟨h5, h6⟩ := storeF_spec h4
      obtain ⟨r, h7, h8⟩ := fillF_spec hpl h6
      refine ⟨r, ?_, h8⟩
      simp only [List.map_cons, Instr.fill, h1, h3]
      have e1 : (denL new).toArray.size = size := by simp [denL_length, hsz]
      have e2 : ¬ off + (denL new).toArray.size > (denL cs).toArray.size := by simp [denL_length]; omega
      rw [if_neg (by simp only [e1, ne_eq, not_true_eq_false, decide_false, Bool.false_or, decide_eq_true_eq]; rw [← e1]; exact e2)]
      rw [← h7]
      congr 1
      have := fold_set (denL new) off 0 (denL cs).toArray (by simp [denL_length]; omega)
      rw [← Array.foldl_toList, Array.toList_zipIdx]
      simp only [Nat.add_zero] at this
      dsimp only at this ⊢
      rw [this]
      simp [denL_append, denL_take, denL_drop, denL_length]
theorem partsF_spec {n ds E a} (ha : Has n ds E a) : ∀ {l : List (Nat × Operand)} {k : List (Nat × SV) → Prop}, partsF E l k →
    ∃ r, (l.map fun p => (p.1, a.eval p.2)) = (r.map fun p => (p.1, den p.2)) ∧ k r
  | [], _, h => ⟨[], rfl, h⟩
  | (i, x) :: l, k, h => by
    simp only [partsF] at h
    split at h
    · rename_i s hs
      obtain ⟨r, h1, h2⟩ := partsF_spec ha (l := l) h
      exact ⟨(i, s) :: r, by simp [h1, ha.opd hs], h2⟩
    · exact h.elim
theorem run_mapM_places (hT : TOk c.P c.T) (w : World) : ∀ (fs : List Field), knownF c fs = true →
    (fs.mapM (m := Sem) fun f => do pure (f.offset, ← sizeOf f.type)).run c.P w = .ok (fs.map fun f => (f.offset, ((c.T.get f.type).map (·.size)).getD 0)) w
  | [], _ => rfl
  | f :: fs, h => by
    simp only [knownF] at h
    split at h
    · rename_i j hj
      have ih := run_mapM_places hT w fs h
      simp only [List.mapM_cons, Sem.run_bind, r_sizeOf (hT _ j hj) w, Result.andThen_ok, Sem.run_pure, ih]
      simp [hj]
    · cases h
theorem rep_spec : ∀ {n : Nat} {z : List SV} {k : List SV → Prop}, repF n z k → ∃ r, k r ∧ r.length = n * z.length ∧ ∀ i, i < r.length → r[i]? = z[i % z.length]?
  | 0, z, k, h => ⟨[], h, by simp, by simp⟩
  | n + 1, z, k, h => by
    obtain ⟨r, h1, h2, h3⟩ := rep_spec (n := n) h
    refine ⟨z ++ r, appF_spec h1, by simp [h2, Nat.add_mul, Nat.add_comm], fun i hi => ?_⟩
    by_cases hz : i < z.length
    · rw [List.getElem?_append_left hz, Nat.mod_eq_of_lt hz]
    · rw [List.getElem?_append_right (by omega), h3 _ (by simp at hi; omega)]
      congr 1
      rw [← Nat.mod_eq_sub_mod (by omega)]
theorem op1_sound (hT : TOk c.P c.T) (h : op1 c o E H nx) : Sem1 c o E H nx := by
  unfold op1 at h
  split at h
  case h_1 x ho =>
    split at h
    · rename_i s hs
      exact op1_move (x := x) (fun a w => by simp [execOp, ho]) (by rw [ho]; intro cl e; cases e) hs h
    · exact h.elim
  case h_2 x ho =>
    split at h
    · rename_i s hs
      exact op1_move (x := x) (fun a w => by simp [execOp, ho]) (by rw [ho]; intro cl e; cases e) hs h
    · exact h.elim
  case h_3 p x y ho =>
    split at h
    · rename_i b hp
      have hnd : ∀ cl, o.op ≠ .defer cl := by rw [ho]; intro cl e; cases e
      cases b with
      | true =>
        simp only [cond_true] at h
        split at h
        · rename_i s hs
          refine sem1_of_run hnd fun ms a w ha hk => ⟨s, H, w, ?_, hk, h⟩
          have e1 := ha.opd hp
          have e2 := ha.opd hs
          simp only [den] at e1
          simp [execOp, ho, e1, e2, asBool]
        · exact h.elim
      | false =>
        simp only [cond_false] at h
        split at h
        · rename_i s hs
          refine sem1_of_run hnd fun ms a w ha hk => ⟨s, H, w, ?_, hk, h⟩
          have e1 := ha.opd hp
          have e2 := ha.opd hs
          simp only [den] at e1
          simp [execOp, ho, e1, e2, asBool]
        · exact h.elim
    · exact h.elim
  case h_4 t ho =>
    split at h
    · rename_i i hi
      obtain ⟨ix, h⟩ := nextF_spec (valsF_spec h)
      refine sem1_of_run (by rw [ho]; intro cl e; cases e) fun ms a w ha hk => ⟨_, _, _, ?_, hk.alloc ix _ t, h w.heap.size⟩
      simp only [execOp, ho, Instr.alloc]
      simp [r_zeroValue (hT t i hi) w, run_newVar, den, denL_map_v]
    · exact h.elim
  case h_5 t x ho =>
    split at h
    · rename_i s hs
      obtain ⟨l, h1, h2⟩ := cellsF_spec h
      obtain ⟨ix, h2⟩ := nextF_spec h2
      refine sem1_of_run (by rw [ho]; intro cl e; cases e) fun ms a w ha hk => ⟨_, _, _, ?_, hk.alloc ix l t, h2 w.heap.size⟩
      have e2 := ha.opd hs
      simp only [execOp, ho, Instr.box, e2]
      simp [run_newVar, den, h1]
    · exact h.elim
  case h_6 t x ho =>
    split at h
    · rename_i b i off hs
      obtain ⟨A, j, b', cs, t', B, rfl, h1, h2, h3, h4⟩ := findF_spec' h
      refine sem1_of_run (by rw [ho]; intro cl e; cases e) fun ms a w ha hk => ?_
      have hy := hk.got (i := j) (b := b') (cs := cs) (t := t') (by simp)
      rw [h3] at hy
      obtain ⟨s, h5, h6⟩ := r_loadF hT h4 hy (off := off)
      refine ⟨s, _, w, ?_, hk, h6⟩
      have e2 := ha.opd hs
      simp only [den] at e2
      simp only [execOp, ho, e2, Instr.loadAt, Instr.sureAddr]
      simp [h5]
    · exact h.out
    · exact h.elim
  case h_7 t x y ho =>
    split at h
    · rename_i b i off hs
      split at h
      · rename_i s hy
        split at h
        · rename_i ti hti
          obtain ⟨A, j, b', cs', t', B, hH, h1, h2, h3, h4⟩ := findF_spec' h
          obtain ⟨new, h5, h6⟩ := cellsF_spec h4
          cases hone : allOne new with
          | false => rw [hone] at h6; exact h6.elim
          | true =>
            rw [hone] at h6
            cases hlen : Nat.beq (lenL new) ti.size with
            | false => rw [hlen] at h6; exact h6.elim
            | true =>
              rw [hlen] at h6
              simp only [cond_true] at h6
              obtain ⟨h7, h8⟩ := storeF_spec h6
              obtain ⟨A', j', b'', cs'', t'', B', hH', h1', h2', h9⟩ := setF_spec h8
              obtain ⟨rfl, e0, rfl⟩ := first_unique (hH ▸ hH') h1 h2 h1' h2'
              simp only [Blk.blk.injEq] at e0
              obtain ⟨rfl, rfl, rfl, rfl⟩ := e0
              subst hH
              intro ms a w ha hk Q
              have hz := hk.got (i := j) (b := b') (cs := cs') (t := t') (by simp)
              have hlen' := beq_true hlen
              rw [lenL_eq] at hlen'
              have hst := r_storeVar (hT t ti hti) (off := off) hz h5 (by rw [denL_length]; exact hlen') (allOne_den hone) (by rw [denL_length, denL_length]; exact h7)
              refine wpIn_of_skip (by rw [ho]; intro cl e; cases e) (w' := w.setRow b' (denL (cs'.take off ++ new ++ cs'.drop (off + new.length))).toArray) ?_ ⟨.v undef, _, rfl, hk.setRow _, h9⟩
              have e1 := ha.opd hs
              have e2 := ha.opd hy
              simp only [den] at e1
              simp only [execOp, ho, e1, e2, Instr.storeAt, Instr.sureAddr]
              rw [← h3]
              simp [hst, denL_append, denL_take, denL_drop, denL_length]
        · exact h.elim
      · exact h.elim
    · exact h.out
    · exact h.elim
  case h_8 t x f ho =>
    split at h
    · rename_i b i off hs
      refine sem1_of_run (by rw [ho]; intro cl e; cases e) fun ms a w ha hk => ?_
      obtain ⟨m, h1, h2⟩ := r_fieldAt hT h b off w
      refine ⟨_, _, w, ?_, hk, h2⟩
      have e2 := ha.opd hs
      simp only [den] at e2
      simp only [execOp, ho, e2]
      simp [h1, den]
    · exact h.out
    · exact h.elim
  case h_9 x ho =>
    have hnd : ∀ cl, o.op ≠ .defer cl := by rw [ho]; intro cl e; cases e
    split at h
    · rename_i b i off hs
      refine sem1_of_run hnd fun ms a w ha hk => ⟨_, _, w, ?_, hk, h⟩
      have e2 := ha.opd hs
      simp only [den] at e2
      simp [execOp, ho, e2, den]
    · rename_i g caps hs
      refine sem1_of_run hnd fun ms a w ha hk => ⟨_, _, w, ?_, hk, h⟩
      have e2 := ha.opd hs
      simp only [den] at e2
      simp [execOp, ho, e2, den]
    · rename_i ad hs
      refine sem1_of_run hnd fun ms a w ha hk => ⟨_, _, w, ?_, hk, h⟩
      have e2 := ha.opd hs
      simp only [den] at e2
      simp [execOp, ho, e2, den]
    · exact h.out
    · exact h.elim
  case h_10 t x f ho =>
    have hnd : ∀ cl, o.op ≠ .defer cl := by rw [ho]; intro cl e; cases e
    split at h
    · rename_i cs hs
      refine sem1_of_run hnd fun ms a w ha hk => ?_
      have e2 := ha.opd hs
      simp only [den] at e2
      obtain ⟨s, h1, h2⟩ := r_fieldL hT h w
      refine ⟨s, _, w, ?_, hk, h2⟩
      simp only [execOp, ho, e2]
      simp [h1]
    · rename_i vs hs
      have h := valsF_spec h
      refine sem1_of_run hnd fun ms a w ha hk => ?_
      have e2 := ha.opd hs
      simp only [den] at e2
      obtain ⟨s, h1, h2⟩ := r_fieldL hT h w
      refine ⟨s, _, w, ?_, hk, h2⟩
      simp only [execOp, ho, e2]
      simp only [denL_map_v, Array.toArray_toList] at h1
      simp [h1]
    · exact h.out
    · exact h.elim
  case h_11 t parts ho =>
    have hnd : ∀ cl, o.op ≠ .defer cl := by rw [ho]; intro cl e; cases e
    split at h
    · rename_i i hi
      split at h
      · rename_i fs hd
        cases hkn : knownF c fs.toList with
        | false => rw [hkn] at h; exact h.elim
        | true =>
          rw [hkn] at h
          have h := valsF_spec h
          refine sem1_of_run hnd fun ms a w ha hk => ?_
          obtain ⟨ps, h1, h2⟩ := partsF_spec ha h
          obtain ⟨r, h3, h4⟩ := fillF_spec (place := fun x => (fs.toList.map fun f => (f.offset, ((c.T.get f.type).map (·.size)).getD 0)).toArray[x]?) (by
            intro x k hk
            unfold structPl at hk
            split at hk
            · rename_i fd hfd
              split at hk
              · rename_i j hj
                exact ⟨fd.offset, j.size, by simp only [nth_array, List.getElem?_map, hfd]; simp [hj], hk⟩
              · exact hk.elim
            · exact hk.elim) h2
          refine ⟨.agg r, H, w, ?_, hk, h4⟩
          have hpl := run_mapM_places hT w fs.toList hkn
          have hps : (parts.map fun (i, x) => (i, a.eval x)).toList = ps.map fun p => (p.1, den p.2) := by rw [← h1]; simp
          have hz : (denL (i.zero.cells.toList.map .v)).toArray = i.zero.cells := by rw [denL_map_v]
          rw [hz] at h3
          simp only [execOp, ho, Instr.build]
          rw [Sem.run_bind, Sem.run_bind, r_zeroValue (hT t i hi) w]
          simp only [Result.andThen_ok]
          rw [Sem.run_bind, r_underlying (hT t i hi) w]
          simp only [Result.andThen_ok, hd, Sem.run_bind]
          rw [Array.mapM_eq_mapM_toList]
          simp only [Sem.run_map, hpl, Result.andThen_ok, hps]
          rw [h3]
          simp [den]
      · rename_i n e hd
        split at h
        · rename_i j hj
          have h := valsF_spec h
          refine sem1_of_run hnd fun ms a w ha hk => ?_
          obtain ⟨ps, h1, h2⟩ := partsF_spec ha h
          obtain ⟨r, h3, h4⟩ := fillF_spec (place := fun i => some (i * j.size, j.size)) (fun x k hk => ⟨_, _, rfl, hk⟩) h2
          refine ⟨.agg r, H, w, ?_, hk, h4⟩
          have hps : (parts.map fun (i, x) => (i, a.eval x)).toList = ps.map fun p => (p.1, den p.2) := by rw [← h1]; simp
          have hz : (denL (i.zero.cells.toList.map .v)).toArray = i.zero.cells := by rw [denL_map_v]
          rw [hz] at h3
          simp only [execOp, ho, Instr.build]
          rw [Sem.run_bind, Sem.run_bind, r_zeroValue (hT t i hi) w]
          simp only [Result.andThen_ok]
          rw [Sem.run_bind, r_underlying (hT t i hi) w]
          simp only [Result.andThen_ok, hd, Sem.run_bind, r_sizeOf (hT e j hj) w, hps]
          rw [h3]
          simp [den]
        · exact h.elim
      · exact h.elim
    · exact h.elim
  case h_12 t len parts ho =>
    have hnd : ∀ cl, o.op ≠ .defer cl := by rw [ho]; intro cl e; cases e
    split at h
    · rename_i i hi
      split at h
      · rename_i e hd
        split at h
        · rename_i j hj
          cases hle : Nat.ble (len * j.size) 16777216 with
          | false => rw [hle] at h; exact h.elim
          | true =>
            rw [hle] at h
            have h := valsF_spec h
            cases hzl : Nat.beq (lenL (j.zero.cells.toList.map SV.v)) j.size with
            | false => rw [hzl] at h; exact h.elim
            | true =>
              rw [hzl] at h
              have hzl' := beq_true hzl
              rw [lenL_eq] at hzl'
              simp only [List.length_map, Array.length_toList] at hzl'
              obtain ⟨cs, h1, h2, h3⟩ := rep_spec h
              simp only [List.length_map, Array.length_toList] at h2 h3
              refine sem1_of_run hnd fun ms a w ha hk => ?_
              obtain ⟨ps, h4, h5⟩ := partsF_spec ha h1
              obtain ⟨r, h6, h7⟩ := fillF_spec (place := fun i => some (i * j.size, j.size)) (fun x k hk => ⟨_, _, rfl, hk⟩) h5
              obtain ⟨ix, h7⟩ := nextF_spec h7
              refine ⟨_, _, _, ?_, hk.alloc ix r e, h7 w.heap.size⟩
              have hps : (parts.map fun (i, x) => (i, a.eval x)).toList = ps.map fun p => (p.1, den p.2) := by rw [← h4]; simp
              have hle' := Nat.le_of_ble_eq_true hle
              have hcells : (Array.range (len * j.size)).map (fun x => j.zero.cells[x % j.zero.cells.size]!) = (denL cs).toArray := by
                apply Array.ext
                · simp [denL_length, h2, hzl']
                · intro q q1 q2
                  have hq : q < cs.length := by simpa [denL_length] using q2
                  have := h3 q hq
                  have hm : 0 < j.zero.cells.size := by
                    rcases Nat.eq_zero_or_pos j.zero.cells.size with h0 | h0
                    · rw [h2, h0] at hq; simp at hq
                    · exact h0
                  have hlt : q % j.zero.cells.size < j.zero.cells.size := Nat.mod_lt _ hm
                  have hd : (denL cs)[q]? = some (j.zero.cells[q % j.zero.cells.size]) := by
                    rw [denL_getElem?, this]; simp [hlt, den]
                  simp only [List.getElem_toArray, Array.getElem_map, Array.getElem_range]
                  rw [List.getElem?_eq_getElem (by simpa using q2)] at hd
                  simp only [Option.some.injEq] at hd
                  rw [hd]
                  simp [hlt]
              simp only [execOp, ho, Instr.buildSlice]
              rw [Sem.run_bind, Sem.run_bind, r_underlying (hT t i hi) w]
              simp only [Result.andThen_ok, hd, Sem.run_bind, r_sizeOf (hT e j hj) w]
              rw [if_neg (by omega)]
              by_cases h0 : len * j.size = 0
              · rw [if_pos h0]
                have hc0 : (denL cs).toArray = #[] := by
                  have : cs = [] := List.eq_nil_of_length_eq_zero (by rw [h2, hzl', h0])
                  rw [this]; rfl
                rw [hc0] at h6
                have hc1 : (Array.range (len * j.size)).map (fun x => (#[] : Array Value)[x % (#[] : Array Value).size]!) = #[] := by simp [h0]
                simp only [Sem.run_bind, Result.andThen_ok, Sem.run_pure, hc1, hps]
                rw [h6]
                simp [den, newRow]
              · rw [if_neg h0]
                simp only [Sem.run_bind, r_zeroValue (hT e j hj) w, Result.andThen_ok, hcells, hps, Sem.run_pure]
                rw [h6]
                simp [den, newRow]
        · exact h.elim
      · exact h.elim
    · exact h.elim
  case h_13 op ty x y ty' ho =>
    split at h
    · rename_i s t hs ht
      exact binF_sound ho hs ht h
    · exact h.elim
  case h_14 op ty x ho =>
    have hnd : ∀ cl, o.op ≠ .defer cl := by rw [ho]; intro cl e; cases e
    split at h
    · rename_i p hs
      refine sem1_of_run hnd fun ms a w ha hk => ⟨_, _, w, ?_, hk, h⟩
      have e2 := ha.opd hs
      simp only [den] at e2
      simp [execOp, ho, e2, den, Op.unary]
    · rename_i k z hs
      refine sem1_of_run hnd fun ms a w ha hk => ⟨_, _, w, ?_, hk, h.out⟩
      have e2 := ha.opd hs
      simp only [den] at e2
      simp [execOp, ho, e2, den, Op.unary, Op.intArith]
    · exact h.out
    · exact h.elim
  case h_15 q t x ho =>
    have hnd : ∀ cl, o.op ≠ .defer cl := by rw [ho]; intro cl e; cases e
    split at h
    · rename_i k0 z hs
      split at h
      · rename_i i0 i hq hi
        split at h
        · rename_i k hk'
          refine sem1_of_run hnd fun ms a w ha hk => ⟨_, _, w, ?_, hk, h.out⟩
          have e2 := ha.opd hs
          simp only [den] at e2
          simp only [execOp, ho, e2]
          simp [Go.convert, r_underlying (hT q _ hq) w, r_underlying (hT t i hi) w, hk', Conv.intToInt, den]
        · exact h.out
      · exact h.elim
    · exact h.out
    · exact h.elim
  case h_16 x j ho =>
    split at h
    · rename_i l hs
      obtain ⟨s, h1, h2⟩ := nthF_spec h
      refine sem1_of_run (by rw [ho]; intro cl e; cases e) fun ms a w ha hk => ⟨_, _, w, ?_, hk, h2⟩
      have e2 := ha.opd hs
      simp only [den] at e2
      simp [execOp, ho, e2, Instr.extract, denL_getElem?, h1]
    · rename_i vs hs
      obtain ⟨s, h1, h2⟩ := nthF_spec (valsF_spec h)
      refine sem1_of_run (by rw [ho]; intro cl e; cases e) fun ms a w ha hk => ⟨_, _, w, ?_, hk, h2⟩
      have e2 := ha.opd hs
      simp only [den] at e2
      have h3 : vs[j]? = some (den s) := by
        have := congrArg (Option.map den) h1
        rw [← denL_getElem?, denL_map_v] at this
        simpa using this
      simp [execOp, ho, e2, Instr.extract, h3]
    · exact h.out
    · exact h.elim
  case h_17 f first caps ho =>
    split at h
    · rename_i g hf
      refine sem1_of_run (by rw [ho]; intro cl e; cases e) fun ms a w ha hk => ?_
      obtain ⟨r, h1, h2⟩ := opdsF_spec ha h
      refine ⟨_, _, w, ?_, hk, h2⟩
      have hf' : first = #[] := by cases first; simpa using hf
      subst hf'
      have : caps.map a.eval = (denL r).toArray := by rw [← h1]; cases caps; simp
      simp [execOp, ho, Instr.makeFunc, den, this]
    · exact h.out
  case h_18 cl ho =>
    have hnd : ∀ cl, o.op ≠ .defer cl := by rw [ho]; intro cl e; cases e
    split at h
    · rename_i f hf
      split at h
      · rename_i s hs
        intro ms a w ha hk Q
        obtain ⟨r, h1, h2⟩ := opdsF_spec ha h
        unfold callF at h2
        split at h2
        · rename_i g caps
          have h3 := appF_spec h2
          obtain ⟨hb, h3⟩ := h3.out ms w hk
          have e2 := ha.opd hs
          simp only [den] at e2
          have hargs : cl.args.map a.eval = (denL r).toArray := by rw [← h1]; cases cl.args; simp
          refine wpIn_of_enter (f := g) (args := (denL (r ++ caps)).toArray) (w' := w) hnd ?_ (h3.mono ?_)
          · simp only [execOp, ho]
            simp [resolve, hf, e2, Deferred.ofValue, invoke, hargs, run_callFunc hb, denL_append]
          · rintro e w' ⟨s, H', rfl, h4, h5⟩
            exact ⟨den s, rfl, s, H', rfl, h4, h5⟩
        · rename_i fv
          have e2 := ha.opd hs
          simp only [den] at e2
          have hargs : cl.args.map a.eval = (denL r).toArray := by rw [← h1]; cases cl.args; simp
          obtain ⟨w1, nxt, h3, h4⟩ := h2.out ms w hk
          have hrun : (execOp a.eval o).run c.P w = .ok nxt w1 := by
            rw [← h3]
            simp only [execOp, ho]
            simp [resolve, hf, e2, hargs]
          cases nxt with
          | enter f as =>
            refine wpIn_of_enter hnd hrun (h4.mono ?_)
            rintro e w' ⟨v, rfl, s, H', rfl, h5, h6⟩
            exact ⟨_, rfl, s, H', rfl, h5, h6⟩
          | round l f tmps as bd =>
            refine ⟨fun _ _ => trivial, ?_⟩
            rw [Oper.semAt_eq _ _ _ hnd, hrun]
            refine ⟨fun h => by simp [Cx.F, Fence.wide] at h, (show RoundIn c.F 0 c.P l f tmps as bd w1 _ from h4).mono ?_⟩
            rintro e w' ⟨v, rfl, s, H', rfl, h5, h6⟩
            exact ⟨s, H', rfl, h5, h6⟩
          | _ => exact h4.elim
        · exact h2.elim
      · exact h.elim
    · rename_i hf
      split at h
      · rename_i x t hx hty
        have hargs : cl.args = #[x] := by cases hc : cl.args; rw [hc] at hx; simpa using hx
        have htys : cl.argTypes = #[t] := by cases hc : cl.argTypes; rw [hc] at hty; simpa using hty
        split at h
        · rename_i s i hs hi
          split at h
          · rename_i str hd
            refine sem1_of_run hnd fun ms a w ha hk => ⟨_, _, w, ?_, hk, h⟩
            have e2 := ha.opd hs
            simp only [den] at e2
            simp only [execOp, ho]
            simp [resolve, hf, hargs, htys, invoke, Go.builtin, Builtin.len_, e2, r_underlying (hT t i hi) w, hd, goInt, den]
          · rename_i e m cap hd
            refine sem1_of_run hnd fun ms a w ha hk => ⟨_, _, w, ?_, hk, h⟩
            have e2 := ha.opd hs
            simp only [den] at e2
            simp only [execOp, ho]
            simp [resolve, hf, hargs, htys, invoke, Go.builtin, Builtin.len_, e2, r_underlying (hT t i hi) w, hd, goInt, den]
          · rename_i e m cap hd
            refine sem1_of_run hnd fun ms a w ha hk => ⟨_, _, w, ?_, hk, h⟩
            have e2 := ha.opd hs
            simp only [den] at e2
            simp only [execOp, ho]
            simp [resolve, hf, hargs, htys, invoke, Go.builtin, Builtin.len_, e2, r_underlying (hT t i hi) w, hd, goInt, den]
          · exact h.out
        · exact h.elim
      · exact h.elim
    · exact h.out
  case h_19 => exact h.out
end
end Go.X
namespace Go.X
open Go
section
variable {c : Cx}
theorem okd_put {ms : List Nat} {d : Option Nat} (hd : okd c d = true) {E : Env} {a : Act} (ha : Has c.n ms E a) (s : SV) : Has c.n ms (putE d s E) (a.put d (den s)) := by
  cases d with
  | none => exact ha
  | some d =>
    simp only [okd] at hd
    exact ha.put (by
      have h : Nat.ble (d + 1) c.n = true := hd
      have := Nat.le_of_ble_eq_true h
      omega) s
theorem Has.lit {n ds E a} (h : Has n ds E a) {d : Nat} {p q : Bool} (hd : look d E = some (.v (.bool p))) (hpq : p = q) : Has n ds ((d, .v (.bool q)) :: E) a := by
  subst hpq
  refine ⟨h.size, h.defers, fun t s hs => ?_⟩
  simp only [look] at hs
  cases hb : Nat.beq d t with
  | true => rw [hb] at hs; have := beq_true hb; subst this; simp at hs; subst hs; exact h.get _ _ hd
  | false => rw [hb] at hs; exact h.get t s hs
theorem dstOf_spec : ∀ {l : List Oper} {j d : Nat}, dstOf l j = some d → ∃ o, l[j]? = some o ∧ o.dst = some d
  | o :: _, 0, d, h => ⟨o, rfl, h⟩
  | _ :: l, n + 1, d, h => by obtain ⟨o, h1, h2⟩ := dstOf_spec (l := l) (j := n) h; exact ⟨o, by simpa using h1, h2⟩
theorem yielded_bool {all : List Oper} {a : Act} {j d : Nat} {p : Bool} (h : dstOf all j = some d) (hv : a.tmps.getD d undef = .bool p) :
    yielded all.toArray a.tmps j = some p := by
  obtain ⟨o, h1, h2⟩ := dstOf_spec h
  unfold yielded
  have h3 : a.tmps[d]? = some (.bool p) := by
    rw [Array.getD_eq_getD_getElem?] at hv
    cases ht : a.tmps[d]? with
    | none => rw [ht] at hv; cases hv
    | some v => rw [ht] at hv; simp at hv; rw [hv]
  simp [h1, h2, h3]
theorem yielded_tuple {all : List Oper} {a : Act} {j d : Nat} {vs : Array Value} (h : dstOf all j = some d) (hv : a.tmps.getD d undef = .tuple vs) :
    yielded all.toArray a.tmps j = none := by
  obtain ⟨o, h1, h2⟩ := dstOf_spec h
  unfold yielded
  cases ht : a.tmps[d]? with
  | none => simp [h1, h2, ht]
  | some v =>
    rw [Array.getD_eq_getD_getElem?, ht] at hv
    simp at hv
    simp [h1, h2, ht, hv]
theorem step_run {ms : List Nat} {Q : Exit → Act → World → Prop} {all : List Oper} {o : Oper} {l : List Oper} {E : Env} {H : List Blk} {k : KE} (hT : TOk c.P c.T)
    (hok : okd c o.dst = true)
    (ih : ∀ E H, opsF c all l E H k → ∀ ms a w, Has c.n ms E a → Kn c.W c.S ms H w → wpListIn c.F 0 c.P all.toArray Q l a w)
    (h : op1 c o E H (fun s H => putF o.dst s E (fun E => opsF c all l E H k))) {a : Act} {w : World} (ha : Has c.n ms E a) (hk : Kn c.W c.S ms H w) :
    o.wpIn c.F 0 c.P a w (wpListIn c.F 0 c.P all.toArray Q l) Q := by
  have h1 := op1_sound hT h ms a w ha hk Q
  refine ⟨h1.1, ?_⟩
  have h2 := h1.2
  have mono : ∀ (r : Result Next), o.uponIn c.F 0 c.P a (fun a' w' => ∃ s H', a' = a.put o.dst (den s) ∧ Kn c.W c.S ms H' w' ∧ putF o.dst s E (fun E => opsF c all l E H' k)) Q r →
      o.uponIn c.F 0 c.P a (wpListIn c.F 0 c.P all.toArray Q l) Q r := by
    have key : ∀ a' w', (∃ s H', a' = a.put o.dst (den s) ∧ Kn c.W c.S ms H' w' ∧ putF o.dst s E (fun E => opsF c all l E H' k)) → wpListIn c.F 0 c.P all.toArray Q l a' w' := by
      rintro a' w' ⟨s, H', rfl, h3, h4⟩
      exact ih _ _ (putF_spec h4) _ _ _ (okd_put hok ha s) h3
    intro r hr
    cases r with
    | ok x w' =>
      cases x with
      | value v => exact key _ _ hr
      | skip => exact key _ _ hr
      | enter f args =>
        refine ⟨hr.1, hr.2.mono ?_⟩
        intro e w'' he
        cases e with
        | returned v => exact key _ _ he
        | panicked ch => exact he
        | outgrown => exact he
      | row r args => exact ⟨hr.1, hr.2.mono fun v w'' he => key _ _ he⟩
      | round q f tmps as bd =>
        refine ⟨hr.1, hr.2.mono ?_⟩
        intro e w'' he
        cases e with
        | returned v => exact key _ _ he
        | panicked ch => exact he
        | outgrown => exact he
      | defer d =>
        obtain ⟨s, H', h5, h6, h7⟩ := hr
        simp only [Oper.uponIn]
        rw [h5]
        exact ih _ _ (putF_spec h7) _ _ _ (okd_put hok ha s) h6
      | _ => exact hr
    | halt x w' => cases x <;> exact hr
  exact mono _ h2
theorem opsF_sound (hT : TOk c.P c.T) {Q : Exit → Act → World → Prop} {all : List Oper} {k : KE}
    (hQ : ∀ ms E H a w, k E H → Has c.n ms E a → Kn c.W c.S ms H w → Q .normal a w) :
    ∀ (l : List Oper) (E : Env) (H : List Blk), opsF c all l E H k → ∀ ms a w, Has c.n ms E a → Kn c.W c.S ms H w → wpListIn c.F 0 c.P all.toArray Q l a w
  | [], E, H, h, ms, a, w, ha, hk => hQ ms E H a w h ha hk
  | o :: l, E, H, h, ms, a, w, ha, hk => by
    have ih := opsF_sound hT (all := all) hQ l
    simp only [opsF] at h
    cases hok : okd c o.dst with
    | false => rw [hok] at h; exact h.elim
    | true =>
      rw [hok] at h
      simp only [cond_true] at h
      have hskip : ∀ E', (∀ (hh : Region.wanted o (yielded all.toArray a.tmps) = false), putF o.dst (.v undef) E' (fun E => opsF c all l E H k) → Has c.n ms E' a →
          wpListIn c.F 0 c.P all.toArray Q (o :: l) a w) := by
        intro E' hh h1 h2
        simp only [wpListIn, hh]
        refine ⟨fun _ _ => trivial, ih _ _ (putF_spec h1) _ _ _ (okd_put hok h2 (.v undef)) hk⟩
      have hrun : ∀ E', (∀ (hh : Region.wanted o (yielded all.toArray a.tmps) = true), op1 c o E' H (fun s H => putF o.dst s E' (fun E => opsF c all l E H k)) → Has c.n ms E' a →
          wpListIn c.F 0 c.P all.toArray Q (o :: l) a w) := by
        intro E' hh h1 h2
        simp only [wpListIn, hh]
        exact step_run hT hok ih h1 h2 hk
      split at h
      · rename_i hg
        exact hrun E (by simp [Region.wanted, hg]) h ha
      · rename_i j want hg
        split at h
        · exact h.elim
        · rename_i dj hdj
          split at h
          · rename_i p hp
            have hv := ha.get _ _ hp
            simp only [den] at hv
            have hy := yielded_bool hdj hv
            split at h
            · cases p with
              | true => exact hrun _ (by simp [Region.wanted, hg, hy]) h (ha.lit hp rfl)
              | false => exact hskip _ (by simp [Region.wanted, hg, hy]) h (ha.lit hp rfl)
            · cases p with
              | true => exact hskip _ (by simp [Region.wanted, hg, hy]) h (ha.lit hp rfl)
              | false => exact hrun _ (by simp [Region.wanted, hg, hy]) h (ha.lit hp rfl)
          · rename_i vs hp
            have hv := ha.get _ _ hp
            simp only [den] at hv
            have hy := yielded_tuple hdj hv
            exact hskip _ (by simp [Region.wanted, hg, hy]) h ha
          · exact h.elim
theorem Run.out {x : Code} {E : Env} {H : List Blk} {k : KC} (h : Run c x E H k) : SemC c x E H k := h.get
theorem Run.of {x : Code} {E : Env} {H : List Blk} {k : KC} (h : SemC c x E H k) : Run c x E H k := ⟨h⟩
def thenK (K : KE) (k : KC) : KC := fun e E H => match e with
  | .nrm => K E H
  | .ret => k .ret E H
  | .exit j => k (.exit j) E H
def blockK (id : Nat) (k : KC) : KC := fun e E H => match e with
  | .nrm => k .nrm E H
  | .ret => k .ret E H
  | .exit j => cond (Nat.beq j id) (k .nrm E H) (k (.exit j) E H)
def condF (E : Env) (x : Operand) (KA KB : Env → Prop) : Prop :=
  match opd E x with
    | some (.v (.bool p)) => match x with
      | .tmp t => cond p (KA ((t, .v (.bool true)) :: E)) (KB ((t, .v (.bool false)) :: E))
      | _ => cond p (KA E) (KB E)
    | _ => False
section
variable {E : Env} {H : List Blk} {k : KC}
theorem r_skip (h : k .nrm E H) : Run c .skip E H k := .of fun ms _ _ ha hk => wpIn_skip ⟨ms, E, H, ha, hk, h⟩
theorem r_label {l : Nat} (h : k .nrm E H) : Run c (.label l) E H k := .of fun ms _ _ ha hk => wpIn_label ⟨ms, E, H, ha, hk, h⟩
theorem r_ret (h : k .ret E H) : Run c .ret E H k := .of fun ms _ _ ha hk => wpIn_ret ⟨ms, E, H, ha, hk, h⟩
theorem r_exit {id : Nat} (h : k (.exit id) E H) : Run c (.exit id) E H k := .of fun ms _ _ ha hk => wpIn_exit ⟨ms, E, H, ha, hk, h⟩
theorem r_region {id : Nat} {l : List Oper} (h : opsF c l l E H (k .nrm)) : Run c (.region id l.toArray false) E H k := by
  refine .of fun ms a w ha hk => ?_
  exact wpIn_region_lit (opsF_sound c.ok (Q := QC c k) (k := k .nrm) (all := l) (fun ms E H a w h ha hk => ⟨ms, E, H, ha, hk, h⟩) l E H h ms a w ha hk)
theorem thenK_sem {K : KE} {b : Code} (hK : ∀ E H, K E H → SemC c b E H k) : ∀ e a w, QC c (thenK K k) e a w → Exit.then (b.wpIn c.F 0 c.P (QC c k)) (QC c k) e a w := by
  intro e a' w' hq
  cases e with
  | normal =>
    obtain ⟨ms', E', H', h1, h2, h3⟩ := hq
    exact hK E' H' h3 ms' a' w' h1 h2
  | ret => exact hq
  | exit j => exact hq
  | goto j => exact hq
  | panic j => exact hq
  | outgrown => exact hq
theorem r_seq {x y : Code} (h : ∀ K : KE, (∀ E H, Run c y E H k → K E H) → Run c x E H (thenK K k)) : Run c (.seq x y) E H k := by
  refine .of fun ms a w ha hk => ?_
  exact wpIn_seq (wpIn_mono ((h (fun E H => Run c y E H k) (fun _ _ h => h)).out ms a w ha hk) (thenK_sem fun _ _ h => h.out))
theorem r_block {id : Nat} {b : Code} (h : Run c b E H (blockK id k)) : Run c (.block id b) E H k := by
  refine .of fun ms a w ha hk => ?_
  refine wpIn_block (wpIn_mono (h.out ms a w ha hk) ?_)
  intro e a' w' hq
  cases e with
  | normal => exact hq
  | ret => exact hq
  | exit j =>
    obtain ⟨ms', E', H', h1, h2, h3⟩ := hq
    simp only [Exit.inBlock]
    simp only [blockK] at h3
    cases hb : Nat.beq j id with
    | true => rw [hb] at h3; rw [if_pos (beq_true hb)]; exact ⟨ms', E', H', h1, h2, h3⟩
    | false =>
      rw [hb] at h3
      have : j ≠ id := fun e => by subst e; simp at hb
      rw [if_neg this]; exact ⟨ms', E', H', h1, h2, h3⟩
  | goto j => exact hq
  | panic j => exact hq
  | outgrown => exact hq
theorem r_cond {x : Operand} {y z : Code}
    (h : ∀ KA : Env → Prop, (∀ E, Run c y E H k → KA E) → ∀ KB : Env → Prop, (∀ E, Run c z E H k → KB E) → condF E x KA KB) : Run c (.cond x y z) E H k := by
  refine .of fun ms a w ha hk => ?_
  have h := h (fun E => Run c y E H k) (fun _ h => h) (fun E => Run c z E H k) (fun _ h => h)
  unfold condF at h
  split at h
  · rename_i p hp
    have hv := ha.opd hp
    simp only [den] at hv
    split at h
    · rename_i t
      cases p with
      | true => exact wpIn_cond_true hv (Run.out h _ _ _ (ha.lit hp rfl) hk)
      | false => exact wpIn_cond_false hv (Run.out h _ _ _ (ha.lit hp rfl) hk)
    · cases p with
      | true => exact wpIn_cond_true hv (Run.out h _ _ _ ha hk)
      | false => exact wpIn_cond_false hv (Run.out h _ _ _ ha hk)
  · exact h.elim
end
def resF (c : Cx) (E : Env) (H : List Blk) : List ResultVar → (List SV → Prop) → Prop
  | [], k => k []
  | .tmp t :: l, k => match look t E with
    | some s => resF c E H l (fun r => k (s :: r))
    | none => False
  | .cell p t :: l, k => match look p E with
    | some (.loc b i off) => findF i H (fun b' cs => b' = b ∧ loadF c t cs off (fun s => resF c E H l (fun r => k (s :: r))))
    | _ => False
structure FinK (c : Cx) (R : Ending → World → Prop) (s : SV) (H : List Blk) : Prop where mk' ::
  get : ∀ w, Kn c.W c.S [] H w → R (.returned (den s)) w
theorem FinK.out {R s H} (h : FinK c R s H) : ∀ w, Kn c.W c.S [] H w → R (.returned (den s)) w := h.get
def endF (c : Cx) (rs : List ResultVar) (R : Ending → World → Prop) : KC := fun e E H => match e with
  | .exit _ => False
  | _ => resF c E H rs (fun l => match l with
    | [s] => FinK c R s H
    | l => FinK c R (.tup l) H)
def resStep (tmps : Array Value) : ResultVar → Sem Value
  | .tmp t => pure (tmps.getD t undef)
  | .cell a t => do loadVar t (← asAddr (tmps.getD a undef))
theorem resF_spec (hT : TOk c.P c.T) {ms ms' : List Nat} {E H a w} (ha : Has c.n ms E a) (hk : Kn c.W c.S ms' H w) : ∀ {rs : List ResultVar} {k : List SV → Prop}, resF c E H rs k →
    ∃ l, (rs.mapM (resStep a.tmps)).run c.P w = .ok (denL l) w ∧ k l
  | [], k, h => ⟨[], rfl, h⟩
  | .tmp t :: rs, k, h => by
    simp only [resF] at h
    split at h
    · rename_i s hs
      obtain ⟨l, h1, h2⟩ := resF_spec hT ha hk (rs := rs) h
      refine ⟨s :: l, ?_, h2⟩
      simp [List.mapM_cons, resStep, h1, denL, ha.get _ _ hs]
    · exact h.elim
  | .cell p t :: rs, k, h => by
    simp only [resF] at h
    split at h
    · rename_i b i off hs
      obtain ⟨A, j, b', cs, t', B, rfl, h1, h2, h3, h4⟩ := findF_spec' h
      have hy := hk.got (i := j) (b := b') (cs := cs) (t := t') (by simp)
      rw [h3] at hy
      obtain ⟨s, h5, h6⟩ := r_loadF hT h4 hy (off := off)
      obtain ⟨l, h7, h8⟩ := resF_spec hT ha hk (rs := rs) h6
      refine ⟨s :: l, ?_, h8⟩
      have e := ha.get _ _ hs
      simp only [den] at e
      simp [List.mapM_cons, resStep, h7, denL, e, asAddr, h5]
    · exact h.elim
theorem results_run (hT : TOk c.P c.T) {ms ms' : List Nat} {E H a w} (ha : Has c.n ms E a) (hk : Kn c.W c.S ms' H w) {fn : Func} {k : List SV → Prop} (h : resF c E H fn.results.toList k) :
    ∃ l, (results fn a.tmps).run c.P w = .ok (match l with | [s] => den s | l => .tuple (denL l).toArray) w ∧ k l := by
  obtain ⟨l, h1, h2⟩ := resF_spec hT ha hk h
  refine ⟨l, ?_, h2⟩
  have e : results fn a.tmps = (fn.results.mapM (resStep a.tmps) >>= fun vs => pure (if h : vs.size = 1 then vs[0] else .tuple vs)) := by
    unfold results
    show (Array.mapM _ _ >>= _) = _
    congr 1
  rw [e, Array.mapM_eq_mapM_toList]
  simp only [Sem.run_bind, Sem.run_map, h1, Result.andThen_ok]
  match l with
  | [] => rfl
  | [s] => simp [denL]
  | s :: t :: l => simp [denL]
theorem envF_spec : ∀ {l : List SV} {n : Nat} {k : Env → Prop}, envF n l k → k ((l.zipIdx n).map fun p => (p.2, p.1))
  | [], _, _, h => h
  | s :: l, n, k, h => by
    have := envF_spec (l := l) (n := n + 1) h
    simpa [List.zipIdx_cons] using this
theorem take_marks {P : Program} {fn : Func} {tmps : Array Value} {R : Ending → World → Prop} {W : World} {S : Nat → Prop} {H : List Blk} :
    ∀ (ms : List Nat) (w : World), Kn W S ms H w → (∀ w, Kn W S [] H w → ∃ v, (results fn tmps).run P w = .ok v w ∧ R (.returned v) w) →
      LeavesInM Fence.wide 0 P fn tmps R (ms.map mk) .returning w
  | [], w, hk, h => by
    obtain ⟨v, h1, h2⟩ := h w hk
    exact ⟨v, h1, h2⟩
  | m :: ms, w, hk, h => by
    refine ⟨by simp, .inl ⟨m, { w with heap := w.heap.setIfInBounds m (.deferred none) }, rfl, ?_, take_marks ms _ ?_ h⟩⟩
    · have : w.heap[m]? = some (.deferred (some [])) := by
        obtain ⟨T, hT, _⟩ := Kn0.foot hk
        simp only [List.map_cons, List.cons_append] at hT
        cases hT with
        | cons hx hb hH hd => exact hx.2
      exact run_takeDeferred this
    · obtain ⟨T, hT, hb⟩ := Kn0.foot hk
      simp only [List.map_cons, List.cons_append] at hT
      cases hT with
      | @cons _ _ Sx T' hx hbx hH hd =>
        have hsz : ({ w with heap := w.heap.setIfInBounds m (.deferred none) } : World).heap.size = w.heap.size := by simp
        refine Kn0.eff hk (T := Sx) (fun k hk => hb k (.inl hk)) ⟨rfl, rfl, rfl, by rw [hsz]; exact Nat.le_refl _, fun k hk hn => ?_⟩ (hH.mono (by rw [hsz]; exact Nat.le_refl _) fun k hk => ?_) fun k hk => .inr (hb k (.inr hk))
        · simp only [Array.getElem?_setIfInBounds]
          rw [if_neg]
          rintro rfl
          exact hn hx.1
        · simp only [Array.getElem?_setIfInBounds]
          rw [if_neg]
          rintro rfl
          exact hd _ hx.1 hk
theorem enter_sound {P : Program} {T : TR} (hT : TOk P T) {f : FuncId} {fn : Func} {x : Code} {W w0 : World} {S : Nat → Prop} {R : Ending → World → Prop} {n : Nat}
    (hf : P.funcs[f]? = some fn) (hb : fn.body = some x) (hnm : (fn.name == "runtime.NumGoroutine") = false) (hn : fn.ntmps = n)
    (args : List SV) {H : List Blk} (hk : Kn W S [] H w0) (hlen : Nat.ble (lenL args) n = true) {rs : List ResultVar} (hrs : fn.results.toList = rs)
    (h' : envF 0 args (fun E => Run ⟨P, T, n, W, S, none, hT⟩ x E H (endF ⟨P, T, n, W, S, none, hT⟩ rs R))) :
    CT P f (denL args).toArray w0 R := by
  have h := envF_spec h'
  refine ⟨⟨fn, hf, by rw [hb]; rfl, hnm⟩, (callsIn_wide (n := 0)).1 (callsIn_of_wp_marks (F := Fence.wide) hf hb trivial ?_)⟩
  have hle := Nat.le_of_ble_eq_true hlen
  rw [lenL_eq] at hle
  have ha : Has n [] (args.zipIdx.map fun p => (p.2, p.1)) ⟨(denL args).toArray ++ Array.replicate (fn.ntmps - (denL args).toArray.size) undef, []⟩ := by
    refine ⟨by simp [denL_length, hn]; omega, rfl, fun t s hs => ?_⟩
    have key : ∀ (l : List SV) (m : Nat), look t ((l.zipIdx m).map fun p => (p.2, p.1)) = some s → m ≤ t ∧ l[t - m]? = some s := by
      intro l
      induction l with
      | nil => intro m h; cases h
      | cons x l ih =>
        intro m h
        simp only [List.zipIdx_cons, List.map_cons, look] at h
        cases hb : Nat.beq m t with
        | true => rw [hb] at h; have := beq_true hb; subst this; simpa using h
        | false =>
          rw [hb] at h
          obtain ⟨h1, h2⟩ := ih (m + 1) h
          refine ⟨by omega, ?_⟩
          rw [show t - m = (t - (m + 1)) + 1 from by omega]
          simpa using h2
    obtain ⟨_, h2⟩ := key args 0 hs
    simp only [Nat.sub_zero] at h2
    have hlt : t < args.length := by
      rcases Nat.lt_or_ge t args.length with h3 | h3
      · exact h3
      · rw [List.getElem?_eq_none h3] at h2; cases h2
    rw [Array.getD_eq_getD_getElem?, Array.getElem?_append_left (by simpa [denL_length] using hlt)]
    simp [denL_getElem?, h2]
  have hw := Run.out h _ _ _ ha hk
  refine wpIn_mono hw ?_
  intro e a w hq
  have fin : ∀ (e : Ex), (∀ j, e ≠ .exit j) → (∃ ms E H, Has n ms E a ∧ Kn W S ms H w ∧ endF ⟨P, T, n, W, S, none, hT⟩ rs R e E H) →
      LeavesInM Fence.wide 0 P fn a.tmps R a.defers .returning w := by
    rintro e he ⟨ms, E, H, h1, h2, h3⟩
    have h4 : resF ⟨P, T, n, W, S, none, hT⟩ E H rs (fun l => match l with
      | [s] => FinK ⟨P, T, n, W, S, none, hT⟩ R s H
      | l => FinK ⟨P, T, n, W, S, none, hT⟩ R (.tup l) H) := by
      cases e with
      | exit j => exact absurd rfl (he j)
      | nrm => exact h3
      | ret => exact h3
    rw [← hrs] at h4
    rw [h1.defers]
    refine take_marks ms w h2 fun w' hk' => ?_
    obtain ⟨l, h5, h6⟩ := results_run (c := ⟨P, T, n, W, S, none, hT⟩) hT h1 hk' h4
    refine ⟨_, h5, ?_⟩
    match l with
    | [] => exact FinK.out h6 w' hk'
    | [s] => exact FinK.out h6 w' hk'
    | s :: t :: l => exact FinK.out h6 w' hk'
  cases e with
  | normal => exact fin .nrm (by intro j e; cases e) hq
  | ret => exact fin .ret (by intro j e; cases e) hq
  | exit j => obtain ⟨ms, E, H, _, _, h⟩ := hq; exact h.elim
  | goto j => exact hq.elim
  | panic j => exact hq.elim
  | outgrown => exact hq.elim
end
end Go.X
namespace Go.X
open Go
section
variable {c : Cx}
theorem wrap_i64 {z : Int} (h1 : -9223372036854775808 ≤ z) (h2 : z ≤ 9223372036854775807) : IntKind.i64.wrap z = z := IntWalk.i64_in z ⟨h1, h2⟩
theorem WrapK.i64 {z : Int} {f : Int → Prop} (h : -9223372036854775808 ≤ z ∧ z ≤ 9223372036854775807) (hf : f z) : WrapK .i64 z f := by
  refine ⟨?_⟩; rw [wrap_i64 h.1 h.2]; exact hf
theorem if_cond {b : Bool} {x y : Prop} (hx : b = true → x) (hy : b = false → y) : cond b x y := by
  cases b
  · exact hy rfl
  · exact hx rfl
theorem if_dec {p : Prop} [Decidable p] {x y : Prop} (hx : p → x) (hy : ¬p → y) : cond (decide p) x y :=
  if_cond (fun h => hx (of_decide_eq_true h)) (fun h => hy (of_decide_eq_false h))
theorem if_ndec {p : Prop} [Decidable p] {x y : Prop} (hx : ¬p → x) (hy : p → y) : cond (!decide p) x y :=
  if_cond (fun h => hx (by simpa using h)) (fun h => hy (by simpa using h))
def Pu (P : Program) (f : FuncId) (args : Array Value) (w : World) (v : Value) : Prop :=
  CT P f args w fun e w' => e = .returned v ∧ Go.RowKit.Below w.heap.size w w'
theorem Kn.below {W S ms H w w'} (h : Kn W S ms H w) (hb : Go.RowKit.Below w.heap.size w w') : Kn W S ms H w' := by
  obtain ⟨T, hT, ho⟩ := Kn0.foot h
  exact Kn0.eff h (T := fun _ => False) (fun _ h => h.elim) ⟨hb.os, hb.tape, hb.output, hb.size, fun k hk _ => hb.block k hk⟩ (hT.mono hb.size fun k hk => hb.block k (hT.lt k hk)) fun k hk => .inr (ho k hk)
theorem CallK.pure {g : FuncId} {l : List SV} {H : List Blk} {nx : K1} (v : SV) (h : ∀ ms w, Kn c.W c.S ms H w → Pu c.P g (denL l).toArray w (den v)) (hn : nx v H) : CallK c g l H nx := by
  refine ⟨?_⟩
  intro ms w hk
  refine ⟨(h ms w hk).1, (h ms w hk).2.mono ?_⟩
  rintro e w' ⟨rfl, hb⟩
  exact ⟨v, H, rfl, hk.below hb, hn⟩
theorem CallK.pu {g : FuncId} {l : List SV} {H : List Blk} {nx : K1} {v : Value} (h : ∀ w, Pu c.P g (denL l).toArray w v) (hn : nx (.v v) H) : CallK c g l H nx :=
  CallK.pure (.v v) (fun _ w _ => h w) hn
theorem CallK.puW {g : FuncId} {l : List SV} {H : List Blk} {nx : K1} {v : Value} (h : ∀ ms w, Kn c.W c.S ms H w → Pu c.P g (denL l).toArray w v) (hn : nx (.v v) H) : CallK c g l H nx :=
  CallK.pure (.v v) h hn
theorem CallK.gen {g : FuncId} {l : List SV} {H : List Blk} {nx : K1} (h : ∀ ms w, Kn c.W c.S ms H w → CT c.P g (denL l).toArray w (fun e w' => ∃ s H', e = .returned (den s) ∧ Kn c.W c.S ms H' w' ∧ nx s H')) : CallK c g l H nx := by
  exact ⟨h⟩
theorem CT.mono {P : Program} {f : FuncId} {args : Array Value} {w : World} {R R' : Ending → World → Prop} (h : CT P f args w R) (hr : ∀ e w', R e w' → R' e w') : CT P f args w R' :=
  ⟨h.1, h.2.mono hr⟩
theorem CT.both {P : Program} {f : FuncId} {args : Array Value} {w : World} {R : Ending → World → Prop} (h : CT P f args w R) : Bodied P f ∧ Calls P f args w R := h
theorem CT.calls {P : Program} {f : FuncId} {args : Array Value} {w : World} {R : Ending → World → Prop} (h : CT P f args w R) : Calls P f args w R := h.2
theorem Pu.calls {P : Program} {f : FuncId} {args : Array Value} {w : World} {v : Value} (h : Pu P f args w v) : Calls P f args w (fun e w' => e = .returned v ∧ Go.RowKit.Below w.heap.size w w') := h.2
theorem Pu.congr {P : Program} {f : FuncId} {args : Array Value} {w : World} {v v' : Value} (h : Pu P f args w v) (e : v = v') : Pu P f args w v' := e ▸ h
theorem FinK.mk {R : Ending → World → Prop} {s : SV} {H : List Blk} (h : ∀ w, Kn c.W c.S [] H w → R (.returned (den s)) w) : FinK c R s H := ⟨h⟩
abbrev noS : Nat → Prop := fun _ => False
theorem Kn.toBelow {W ms H w} (h : Kn W noS ms H w) : Go.RowKit.Below W.heap.size W w :=
  ⟨Kn0.os h, Kn0.tape h, Kn0.output h, Kn0.size h, fun k hk => Kn0.old h k hk id⟩
theorem FinK.pu {P : Program} {T : TR} {n : Nat} {W : World} {r : Option Nat} {hT : TOk P T} {v : Value} {s : SV} {H : List Blk} (hs : den s = v) :
    FinK ⟨P, T, n, W, noS, r, hT⟩ (fun e w' => e = .returned v ∧ Go.RowKit.Below W.heap.size W w') s H := by
  refine ⟨?_⟩
  intro w hk
  exact ⟨by rw [hs], hk.toBelow⟩
end
theorem Kn.start (W : World) (S : Nat → Prop) : Kn W S [] [] W :=
  ⟨rfl, rfl, rfl, Nat.le_refl _, fun _ _ _ => rfl, _, .nil, fun _ h => h.elim⟩
end Go.X
namespace Go.X
open Go
theorem TOk.leaf {P : Program} : TOk P .leaf := fun _ _ h => by cases h
theorem TOk.node {P : Program} {l : TR} {k : Nat} {v : TI} {r : TR} (hl : TOk P l) (hv : TIok P k v) (hr : TOk P r) : TOk P (.node l k v r) := by
  intro t i h
  simp only [TR.get] at h
  cases hb : Nat.blt t k with
  | true => rw [hb] at h; exact hl t i h
  | false =>
    rw [hb] at h
    cases he : Nat.beq t k with
    | true => rw [he] at h; simp at h; subst h; rw [beq_true he]; exact hv
    | false => rw [he] at h; exact hr t i h
end Go.X
namespace Go.X
open Go
section
variable {c : Cx}
def opG (c : Cx) (all : List Oper) (o : Oper) (E : Env) (H : List Blk) (K : KE) : Prop :=
  cond (okd c o.dst) (match o.guard with
    | none => op1 c o E H (fun s H => putF o.dst s E (fun E => K E H))
    | some (j, want) => match dstOf all j with
      | none => False
      | some dj => match look dj E with
        | some (.v (.bool p)) => match want with
          | true => cond p (op1 c o ((dj, .v (.bool true)) :: E) H (fun s H => putF o.dst s ((dj, .v (.bool true)) :: E) (fun E => K E H)))
                           (putF o.dst (.v undef) ((dj, .v (.bool false)) :: E) (fun E => K E H))
          | false => cond p (putF o.dst (.v undef) ((dj, .v (.bool true)) :: E) (fun E => K E H))
                           (op1 c o ((dj, .v (.bool false)) :: E) H (fun s H => putF o.dst s ((dj, .v (.bool false)) :: E) (fun E => K E H)))
        | some (.v (.tuple _)) => putF o.dst (.v undef) E (fun E => K E H)
        | _ => False) False
end
attribute [irreducible] CT
end Go.X
