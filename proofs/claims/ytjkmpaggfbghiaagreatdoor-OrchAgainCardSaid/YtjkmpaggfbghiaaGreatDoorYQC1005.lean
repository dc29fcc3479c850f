/- Contracts and lemmas for the claim (part 5); no condition of its own. -/
import Derived.Test.YtjkmpaggfbghiaaGreatDoorYQC1004
set_option linter.all false
set_option maxRecDepth 100000
set_option maxHeartbeats 0
set_option linter.unusedVariables false
set_option linter.unusedSimpArgs false
set_option linter.unnecessarySimpa false
namespace Go.X
open Go
section
variable {c : Cx} {o : Oper} {E : Env} {H : List Blk} {nx : K1}
theorem OpK.slRF {t e : Nat} {x y : Operand} {ti j : TI} (ho : o.op = .slice t x none (some y) none) {a : Option Addr} {n cap : Nat} {q : IntKind} {u : Nat} (hx : opd E x = some (.v (.slice a n cap))) (hy : opd E y = some (.v (.int q (u : Nat))))
    (hti : c.T.get t = some ti) (hd : ti.desc = .slice e) (hj : c.T.get e = some j) {k : Nat} (hkk : j.size = k) {cs : List Value} (hs : Sees c H e k a n cap cs) (hN : u ≤ n)
    (h : ∀ a', Sees c H e k a' u cap (cs.take (u * k)) → nx (.v (.slice a' u cap)) H) : OpK c o E H nx := by
  refine OpK.slR ho hx hti hd hj hkk hs ?_
  simp only [bnd, hy]
  refine ⟨by omega, by omega, by omega, fun a' h' => ?_⟩
  simp only [Int.toNat_natCast, Int.toNat_zero, Nat.sub_zero, Nat.zero_mul, List.drop_zero] at h' ⊢
  exact h a' h'
theorem OpK.minN {x y : Operand} {t t' : Nat} (ho : o.op = .call { callee := .builtin .min, args := #[x, y], argTypes := #[t, t'] }) {q : IntKind} {a b : Nat} (hx : opd E x = some (.v (.int q (a : Nat)))) (hy : opd E y = some (.v (.int q (b : Nat))))
    (h : nx (.v (.int q ((Nat.min a b : Nat) : Int))) H) : OpK c o E H nx := by
  refine OpK.min ho hx hy ?_
  rw [show (if (b : Int) < a then (b : Int) else a) = ((Nat.min a b : Nat) : Int) by have : Nat.min a b = if a ≤ b then a else b := rfl; rw [this]; split <;> split <;> omega]
  exact h
end
end Go.X

namespace Go.X
open Go
def RdB (w : World) (a : Option Addr) (cs : List Value) : Prop := ∀ i v, cs[i]? = some v → ∃ b off C t f, a = some ⟨b, off, none⟩ ∧ w.heap[b]? = some (.cells C t f) ∧ C[off + i]? = some v
def SeesB (c : Cx) (H : List Blk) (a : Option Addr) (cs : List Value) : Prop := ∀ ms w, Kn c.W c.S ms H w → RdB w a cs
theorem RdB.take {w a cs} (h : RdB w a cs) (u : Nat) : RdB w a (cs.take u) := fun i v hi => by
  rw [List.getElem?_take] at hi
  split at hi
  · exact h i v hi
  · cases hi
section
variable {c : Cx} {o : Oper} {E : Env} {H : List Blk} {nx : K1}
theorem SeesB.old {a cs} (h : RdB c.W a cs) (hS : ∀ k, ¬ c.S k) : SeesB c H a cs := fun ms w hk i v hi => by
  obtain ⟨b, off, C, t, f, h1, h2, h3⟩ := h i v hi
  exact ⟨b, off, C, t, f, h1, hk.oldO h2 (hS b), h3⟩
theorem OpK.slB {t e : Nat} {x y : Operand} {ti j : TI} (ho : o.op = .slice t x none (some y) none) {a : Option Addr} {n cap : Nat} {q : IntKind} {u : Nat} (hx : opd E x = some (.v (.slice a n cap))) (hy : opd E y = some (.v (.int q (u : Nat))))
    (hti : c.T.get t = some ti) (hd : ti.desc = .slice e) (hj : c.T.get e = some j) (hN : u ≤ cap)
    (h : nx (.v (.slice a u cap)) H) : OpK c o E H nx := by
  have hnd : ∀ cl, o.op ≠ .defer cl := by rw [ho]; intro cl e; cases e
  refine OpK.val hnd _ (fun ms ac w ha hk => ?_) h
  rw [run_sl (l := 0) (u := u) ho hx hti hd hj (.inl ⟨rfl, rfl⟩) (.inr ⟨y, q, rfl, hy⟩) (by omega) (by omega) (by omega) ha]
  have h4 : a.map (·.add 0) = a := by cases a <;> simp [Addr.add]
  simp [den, h4]
end
end Go.X

namespace Go.X
open Go
section
variable {c : Cx} {o : Oper} {E : Env} {H : List Blk}
theorem bytesLess_irrefl : ∀ x : List UInt8, Op.bytesLess x x = false
  | [] => rfl
  | a :: x => by
    have h2 : ¬ a < a := by intro h3; have : a.toNat < a.toNat := h3; omega
    simp [Op.bytesLess, h2, bytesLess_irrefl x]
theorem run_ltS {n ms ac} (ha : Has n ms E ac) {P : Program} {t t' : Nat} {x y : Operand} (ho : o.op = .binOp .lss t x y t') {a b : ByteArray} (hx : opd E x = some (.v (.string a))) (hy : opd E y = some (.v (.string b))) (w : World) :
    (execOp ac.eval o).run P w = .ok (.value (den (.v (.bool (ltS a b))))) w := by
  have e1 := ha.opd hx
  have e2 := ha.opd hy
  simp only [den] at e1 e2
  simp [execOp, ho, e1, e2, eqGuard, Go.binOp, Op.stringOp, den, ltS]
theorem run_gtS {n ms ac} (ha : Has n ms E ac) {P : Program} {t t' : Nat} {x y : Operand} (ho : o.op = .binOp .gtr t x y t') {a b : ByteArray} (hx : opd E x = some (.v (.string a))) (hy : opd E y = some (.v (.string b))) (w : World) :
    (execOp ac.eval o).run P w = .ok (.value (den (.v (.bool (ltS b a))))) w := by
  have e1 := ha.opd hx
  have e2 := ha.opd hy
  simp only [den] at e1 e2
  simp [execOp, ho, e1, e2, eqGuard, Go.binOp, Op.stringOp, den, ltS]
  have h := bytesLess_tri a.toList b.toList
  rw [h]
  cases hba : Op.bytesLess b.toList a.toList with
  | true =>
    have e : ¬ a.toList = b.toList := fun e => by rw [e, bytesLess_irrefl] at hba; cases hba
    simp [e]
  | false =>
    rw [Bool.false_or]
    by_cases e : a.toList = b.toList
    · rw [e]; simp
    · have e' : ¬ b.toList = a.toList := fun h => e h.symm
      simp [e']
theorem IK.ltS {k : SV → Prop} {t t' : Nat} {x y : Operand} (ho : o.op = .binOp .lss t x y t') {a b : ByteArray} (hx : opd E x = some (.v (.string a))) (hy : opd E y = some (.v (.string b))) (h : k (.v (.bool (X.ltS a b)))) : IK c o E k :=
  ⟨_, fun _ _ ha w => run_ltS ha ho hx hy w, h⟩
theorem QK.ltS {k : SV → Prop} {t t' : Nat} {x y : Operand} (ho : o.op = .binOp .lss t x y t') {a b : ByteArray} (hx : opd E x = some (.v (.string a))) (hy : opd E y = some (.v (.string b))) (h : k (.v (.bool (X.ltS a b)))) : QK c o E H k :=
  QK.val _ (fun _ _ w ha _ => run_ltS ha ho hx hy w) h
theorem OpK.ltS {nx : K1} {t t' : Nat} {x y : Operand} (ho : o.op = .binOp .lss t x y t') {a b : ByteArray} (hx : opd E x = some (.v (.string a))) (hy : opd E y = some (.v (.string b))) (h : nx (.v (.bool (X.ltS a b))) H) : OpK c o E H nx :=
  OpK.val (by rw [ho]; intro cl e; cases e) _ (fun _ _ w ha _ => run_ltS ha ho hx hy w) h
theorem OpK.gtS {nx : K1} {t t' : Nat} {x y : Operand} (ho : o.op = .binOp .gtr t x y t') {a b : ByteArray} (hx : opd E x = some (.v (.string a))) (hy : opd E y = some (.v (.string b))) (h : nx (.v (.bool (X.ltS b a))) H) : OpK c o E H nx :=
  OpK.val (by rw [ho]; intro cl e; cases e) _ (fun _ _ w ha _ => run_gtS ha ho hx hy w) h
end
end Go.X

namespace Go.X.OM
open Go Go.X
abbrev Str := ByteArray
def eps : Str := ⟨#[]⟩
def alnumB (c : UInt8) : Bool := (decide (97 ≤ c.toNat) && decide (c.toNat ≤ 122)) || (decide (48 ≤ c.toNat) && decide (c.toNat ≤ 57))
def nmOk (s : Str) : Bool := decide (1 ≤ s.size) && decide (s.size ≤ 16) && s.data.toList.all alnumB
structure Rg where
  lo : Str
  hi : Str
  deriving DecidableEq
def eqS (a b : Str) : Bool := decide (a = b)
def endLt (x y : Str) : Bool := !(eqS x y) && (!(eqS x eps) && (eqS y eps || ltS x y))
def Rg.ok (r : Rg) : Bool := (eqS r.lo eps || nmOk r.lo) && (eqS r.hi eps || nmOk r.hi) && (eqS r.hi eps || ltS r.lo r.hi)
def Rg.has (r : Rg) (k : Str) : Bool := r.ok && nmOk k && leS r.lo k && endLt k r.hi
def maxS (a b : Str) : Str := if ltS a b then b else a
def meet (a b : Rg) : Rg := ⟨maxS a.lo b.lo, if endLt b.hi a.hi then b.hi else a.hi⟩
def meets (a b : Rg) : Bool := a.ok && b.ok && (meet a b).ok
def without (a b : Rg) : List Rg :=
  (if ltS a.lo b.lo then [⟨a.lo, if endLt a.hi b.lo then a.hi else b.lo⟩] else []) ++ (if endLt b.hi a.hi then [⟨maxS a.lo b.hi, a.hi⟩] else [])
structure Stp where
  key : Str
  delta : Int
  deriving DecidableEq
structure Dfn where
  name : Str
  retries : Int
  deadline : Int
  steps : List Stp
  deriving DecidableEq
def stepsOk : List Stp → List Stp → Bool
  | _, [] => true
  | before, s :: l => !(before.any fun x => eqS x.key s.key) && nmOk s.key && !(s.delta == 0) && decide (-1152921504606846976 ≤ s.delta) && decide (s.delta ≤ 1152921504606846976) && stepsOk (before ++ [s]) l
def Dfn.ok (d : Dfn) : Bool := nmOk d.name && decide (0 ≤ d.retries) && decide (d.retries ≤ 20) && decide (0 ≤ d.deadline) && decide (d.deadline ≤ 100000) && decide (1 ≤ d.steps.length) && decide (d.steps.length ≤ 8) && stepsOk [] d.steps
structure Sg where
  d : Dfn
  st : Int
  at_ : Int
  cancel : Bool
  tried : Int
  began : Int
  err : Int
  deriving DecidableEq
def Sg.last (s : Sg) : Int := (s.d.steps.length : Int) - 1
def Sg.open_ (s : Sg) : Bool := decide (s.st < 4)
def Sg.ok (s : Sg) : Bool :=
  s.d.ok && decide (0 ≤ s.tried) && decide (s.tried ≤ 21) && decide (0 ≤ s.began) && decide (s.began ≤ 2147483648) && decide (1 ≤ s.st) && decide (s.st ≤ 5) && decide (0 ≤ s.at_) && decide (s.at_ ≤ if s.open_ then s.last else 0) &&
    !(s.cancel && (s.st == 2 || s.st == 4)) && (if s.st == 3 || s.st == 5 then decide (1 ≤ s.err) && decide (s.err ≤ 18) else s.err == 0)
structure Eff where
  saga : Int
  step : Int
  phase : Int
  deriving DecidableEq
def phaseOf (st : Int) : Int := if st = 1 then 1 else if st = 2 then 3 else 2
def Sg.next (s : Sg) (id : Int) : Option Eff := if s.open_ then some ⟨id, s.at_, phaseOf s.st⟩ else none
def Sg.to (s : Sg) (st at_ why : Int) : Sg := { s with st := st, at_ := at_, err := why, tried := 0 }
def Sg.late (s : Sg) (now : Int) : Bool := decide (0 < s.d.deadline) && decide (s.d.deadline ≤ now - s.began)
def isShort (res : Int) : Bool := res == 16 || res == 17 || res == 18
def Sg.forward (s : Sg) (res now : Int) : Sg :=
  if !(res == 0) && !isShort res then (if s.at_ = 0 then s.to 5 0 res else s.to 3 (s.at_ - 1) res)
  else if s.cancel then s.to 3 s.at_ 9
  else if s.late now then s.to 3 s.at_ 11
  else if isShort res then
    (if s.tried ≤ s.d.retries ∧ s.tried + 1 ≤ s.d.retries then { s with tried := s.tried + 1 } else s.to 3 s.at_ res)
  else if s.at_ < s.last then s.to 1 (s.at_ + 1) 0
  else s.to 2 0 0
def Sg.free (s : Sg) (res : Int) : Sg := if !(res == 0) then s else if s.at_ < s.last then s.to 2 (s.at_ + 1) 0 else s.to 4 0 0
def Sg.undo (s : Sg) (res : Int) : Sg := if !(res == 0) then s else if 0 < s.at_ then s.to 3 (s.at_ - 1) s.err else s.to 5 0 s.err
def Sg.follow (s : Sg) (res now : Int) : Sg := if s.st = 1 then s.forward res now else if s.st = 2 then s.free res else s.undo res
structure Item where
  eff : Eff
  move : Int
  in_ : Bool
  group : Int
  deriving DecidableEq
structure Mv where
  r : Rg
  fr : Int
  to : Int
  st : Int
  data : Str
  deriving DecidableEq
structure Pt where
  r : Rg
  group : Int
  epoch : Int
  deriving DecidableEq
structure Cmd where
  kind : Int
  call : Int
  saga : Int
  eff : Eff
  key : Str
  delta : Int
  move : Int
  r : Rg
  group : Int
  d : Dfn
  item : Item
  res : Int
  data : Str
  deriving DecidableEq
structure Rep where
  err : Int
  num : Int
  deriving DecidableEq
structure St where
  groups : Int
  done : Int
  sagas : List (Int × Sg)
  moves : List Mv
  parts : List Pt
def zEff : Eff := ⟨0, 0, 0⟩
def zItem : Item := ⟨zEff, 0, false, 0⟩
def zDef : Dfn := ⟨eps, 0, 0, []⟩
def zCmd : Cmd := ⟨0, 0, 0, zEff, eps, 0, 0, ⟨eps, eps⟩, 0, zDef, zItem, 0, eps⟩
def init (groups : Int) : St := ⟨groups, 0, [], [], [⟨⟨eps, eps⟩, 1, 1⟩]⟩
def St.now (o : St) : Int := min o.done 2147483648
def St.get (o : St) (id : Int) : Option Sg := (o.sagas.find? fun x => x.1 == id).map (·.2)
def putS (id : Int) (s : Sg) : List (Int × Sg) → List (Int × Sg)
  | [] => [(id, s)]
  | x :: l => if id < x.1 then (id, s) :: x :: l else if id = x.1 then (id, s) :: l else x :: putS id s l
def openF : Int → List Mv → List (Int × Mv)
  | _, [] => []
  | i, m :: l => if m.st = 3 then openF (i + 1) l else (i, m) :: openF (i + 1) l
def St.openM (o : St) : List (Int × Mv) := openF 1 o.moves
def St.busy (o : St) (k : Str) : Bool := o.openM.any fun x => x.2.r.has k
def St.part (o : St) (k : Str) : Option Pt := o.parts.find? fun p => p.r.has k
def St.route (o : St) (k : Str) : Int := match o.part k with | some p => p.group | none => 0
def ownerF (r : Rg) : Int → List Pt → Option Int
  | own, [] => some own
  | own, p :: l => if meets p.r r then (if own ≠ 0 ∧ p.group ≠ own then none else ownerF r p.group l) else ownerF r own l
def St.owner (o : St) (r : Rg) : Option Int := ownerF r 0 o.parts
def itemNum (x : Item) : Int :=
  (if x.move = 0 then ((x.eff.saga - 1) * 8 + x.eff.step) * 3 + x.eff.phase - 1 else if x.in_ then 239976 + 2 * x.move - 1 else 239976 + 2 * x.move - 2) * 7 + x.group
def Sg.stepAt (s : Sg) : Stp := (s.d.steps[s.at_.toNat]?).getD ⟨eps, 0⟩
def St.effOf (o : St) (x : Int × Sg) : Option (Item × Cmd) := match x.2.next x.1 with
  | none => none
  | some e => if o.busy x.2.stepAt.key then none else some (⟨e, 0, false, o.route x.2.stepAt.key⟩, { zCmd with kind := 1, eff := e, key := x.2.stepAt.key, delta := x.2.stepAt.delta })
def St.effs (o : St) : List (Item × Cmd) := o.sagas.filterMap o.effOf
def mvItem (n : Int) (m : Mv) : Item × Cmd :=
  if m.st = 2 then (⟨zEff, n, true, m.to⟩, { zCmd with kind := 4, move := n, r := m.r, data := m.data }) else (⟨zEff, n, false, m.fr⟩, { zCmd with kind := 3, move := n, r := m.r })
def St.wanted (o : St) : List (Item × Cmd) := o.effs ++ o.openM.map fun x => mvItem x.1 x.2
def St.command (o : St) (x : Item) : Option Cmd := (o.wanted.find? fun y => x == y.1).map (·.2)
def St.items (o : St) : List Item := o.wanted.map (·.1)
def St.room (o : St) : Int := 64 - (o.parts.length : Int) - 2 * (o.openM.length : Int)
def Item.ok (x : Item) : Bool := decide (1 ≤ x.group) && decide (x.group ≤ 7) &&
  (if x.move = 0 ∧ x.in_ = false then decide (1 ≤ x.eff.saga) && decide (x.eff.saga ≤ 9999) && decide (0 ≤ x.eff.step) && decide (x.eff.step < 8) && decide (1 ≤ x.eff.phase) && decide (x.eff.phase ≤ 3)
   else decide (1 ≤ x.move) && decide (x.move ≤ 64) && (x.eff == zEff))
def Cmd.ok (c : Cmd) : Bool :=
  if c.kind = 0 then c == zCmd
  else if c.kind = 11 then decide (0 ≤ c.call) && decide (c.call ≤ 2147483648) && decide (1 ≤ c.saga) && decide (c.saga ≤ 9999) && c.d.ok && (c == { zCmd with kind := 11, call := c.call, saga := c.saga, d := c.d })
  else if c.kind = 12 ∨ c.kind = 13 then decide (0 ≤ c.call) && decide (c.call ≤ 2147483648) && decide (1 ≤ c.saga) && decide (c.saga ≤ 9999) && (c == { zCmd with kind := c.kind, call := c.call, saga := c.saga })
  else if c.kind = 14 then decide (0 ≤ c.call) && decide (c.call ≤ 2147483648) && c.r.ok && decide (1 ≤ c.group) && decide (c.group ≤ 7) && (c == { zCmd with kind := 14, call := c.call, r := c.r, group := c.group })
  else if c.kind = 15 then c.item.ok && decide (0 ≤ c.res) && decide (c.res ≤ 18) && decide (c.data.size ≤ 65536) && (c == { zCmd with kind := 15, item := c.item, res := c.res, data := c.data })
  else false
def setM (l : List Mv) (n : Int) (f : Mv → Mv) : List Mv := l.modify (n - 1).toNat f
def firstIx (r : Rg) (l : List Pt) : Nat := l.findIdx fun p => meets p.r r
def lastIx (r : Rg) (l : List Pt) : Nat := l.length - 1 - (l.reverse.findIdx fun p => meets p.r r)
def leftN (r : Rg) : List Pt → Nat
  | [] => 0
  | x :: _ => if eqS x.r.hi r.lo && !(eqS r.lo eps) then 1 else 0
def moveP (l : List Pt) (r : Rg) (group : Int) : List Pt :=
  let t := l.filter fun p => meets p.r r
  let left := t.flatMap fun p => (without p.r r).map fun s => (⟨s, p.group, p.epoch⟩ : Pt)
  let k := leftN r left
  let ep := min (t.foldl (fun a p => max a p.epoch) 0 + 1) 2147483648
  l.take (firstIx r l) ++ left.take k ++ [⟨r, group, ep⟩] ++ left.drop k ++ l.drop (lastIx r l + 1)
def St.doStart (o : St) (c : Cmd) : St × Rep :=
  if (o.get c.saga).isSome then (o, ⟨6, 0⟩)
  else if 64 ≤ o.sagas.length then (o, ⟨4, 0⟩)
  else ({ o with sagas := putS c.saga ⟨c.d, 1, 0, false, 0, o.now, 0⟩ o.sagas }, ⟨0, 0⟩)
def St.doCancel (o : St) (c : Cmd) : St × Rep := match o.get c.saga with
  | none => (o, ⟨5, 0⟩)
  | some s => if s.st = 1 then ({ o with sagas := putS c.saga { s with cancel := true } o.sagas }, ⟨0, 0⟩) else (o, ⟨9, 0⟩)
def St.doMove (o : St) (c : Cmd) : St × Rep :=
  if o.groups ≤ c.group then (o, ⟨2, 0⟩)
  else match o.owner c.r with
    | none => (o, ⟨9, 0⟩)
    | some fr =>
      if fr ≤ 0 ∨ fr = c.group then (o, ⟨9, 0⟩)
      else if o.openM.any (fun x => meets x.2.r c.r) then (o, ⟨17, 0⟩)
      else if o.room < 2 then (o, ⟨4, 0⟩)
      else if 64 ≤ o.moves.length then (o, ⟨4, 0⟩)
      else ({ o with moves := o.moves ++ [⟨c.r, fr, c.group, 1, eps⟩] }, ⟨0, o.moves.length + 1⟩)
def St.doResult (o : St) (c : Cmd) : St × Rep :=
  if (o.command c.item).isNone ∨ (0 < c.item.move ∧ c.res ≠ 0) then (o, ⟨9, 0⟩)
  else if c.item.move = 0 then
    (match o.get c.item.eff.saga with
     | none => (o, ⟨5, 0⟩)
     | some s => ({ o with sagas := putS c.item.eff.saga (s.follow c.res o.now) o.sagas }, ⟨0, 0⟩))
  else if c.item.in_ = false then ({ o with moves := setM o.moves c.item.move fun m => { m with st := 2, data := c.data } }, ⟨0, 0⟩)
  else match o.moves[(c.item.move - 1).toNat]? with
    | none => (o, ⟨3, 0⟩)
    | some m => ({ o with moves := setM o.moves c.item.move (fun m => { m with st := 3, data := eps }), parts := moveP o.parts m.r m.to }, ⟨0, 0⟩)
def St.dox (o : St) (c : Cmd) : St × Rep :=
  if !c.ok then (o, ⟨2, 0⟩)
  else if c.kind = 0 then (o, ⟨0, 0⟩)
  else if c.kind = 11 then o.doStart c
  else if c.kind = 12 then (o, match o.get c.saga with | none => ⟨5, 0⟩ | some s => ⟨0, s.st⟩)
  else if c.kind = 13 then o.doCancel c
  else if c.kind = 14 then o.doMove c
  else o.doResult c
def St.apply (o : St) (c : Cmd) : St × Rep := ({ (o.dox c).1 with done := min (o.done + 1) 1099511627776 }, (o.dox c).2)
end Go.X.OM

namespace Go.X.OM
open Go Go.X
theorem bl_irrefl : ∀ x : List UInt8, Op.bytesLess x x = false
  | [] => rfl
  | a :: x => by
    have h2 : ¬ a < a := by intro h3; have : a.toNat < a.toNat := h3; omega
    simp [Op.bytesLess, h2, bl_irrefl x]
theorem bl_trans : ∀ {x y z : List UInt8}, Op.bytesLess x y = true → Op.bytesLess y z = true → Op.bytesLess x z = true
  | _, [], _, h, _ => by cases ‹List UInt8› <;> simp [Op.bytesLess] at h
  | _, _ :: _, [], _, h => by simp [Op.bytesLess] at h
  | [], _ :: _, _ :: _, _, _ => by simp [Op.bytesLess]
  | a :: x, b :: y, c :: z, h, h' => by
    have ih := @bl_trans x y z
    simp only [Op.bytesLess, Bool.or_eq_true, decide_eq_true_eq, Bool.and_eq_true, beq_iff_eq] at h h' ⊢
    rcases h with h | ⟨rfl, h⟩
    · rcases h' with h' | ⟨rfl, h'⟩
      · left; have h1 : a.toNat < b.toNat := h; have h2 : b.toNat < c.toNat := h'; show a.toNat < c.toNat; omega
      · exact .inl h
    · rcases h' with h' | ⟨rfl, h'⟩
      · exact .inl h'
      · exact .inr ⟨rfl, ih h h'⟩
theorem toList_inj {a b : Str} (h : a.toList = b.toList) : a = b := by
  have : a.data.toList = b.data.toList := by rwa [ByteArray.toList_eq, ByteArray.toList_eq] at h
  cases a; cases b; simp at this; rw [this]
theorem lt_irrefl (a : Str) : ltS a a = false := bl_irrefl _
theorem lt_trans {a b c : Str} (h : ltS a b = true) (h' : ltS b c = true) : ltS a c = true := bl_trans h h'
theorem lt_total (a b : Str) : ltS a b = true ∨ a = b ∨ ltS b a = true := by
  have h := bytesLess_tri a.toList b.toList
  cases hab : Op.bytesLess a.toList b.toList with
  | true => exact .inl hab
  | false =>
    rw [hab] at h
    have h : Op.bytesLess b.toList a.toList = true ∨ b.toList = a.toList := by simpa using h.symm
    rcases h with h | h
    · exact .inr (.inr h)
    · exact .inr (.inl (toList_inj h).symm)
theorem eps_lt {a : Str} (h : a ≠ eps) : ltS eps a = true := by
  rcases lt_total eps a with h1 | h1 | h1
  · exact h1
  · exact absurd h1.symm h
  · exfalso
    unfold ltS at h1
    have : eps.toList = [] := by rw [ByteArray.toList_eq]; rfl
    rw [this] at h1
    cases h2 : a.toList <;> rw [h2] at h1 <;> simp [Op.bytesLess] at h1
theorem lt_asymm {a b : Str} (h : ltS a b = true) : ltS b a = false := by
  cases hb : ltS b a with
  | false => rfl
  | true => have := lt_trans h hb; rw [lt_irrefl] at this; cases this
theorem not_lt_eps (a : Str) : ltS a eps = false := by
  by_cases h : a = eps
  · rw [h]; exact lt_irrefl _
  · exact lt_asymm (eps_lt h)
theorem le_of_not {a b : Str} (h : ltS a b = false) : a = b ∨ ltS b a = true := by
  rcases lt_total a b with h1 | h1 | h1
  · rw [h] at h1; cases h1
  · exact .inl h1
  · exact .inr h1
theorem lt_of_le_lt {a b c : Str} (h : ltS b a = false) (h' : ltS b c = true) : ltS a c = true := by
  rcases le_of_not h with rfl | h1
  · exact h'
  · exact lt_trans h1 h'
theorem lt_of_lt_le {a b c : Str} (h : ltS a b = true) (h' : ltS c b = false) : ltS a c = true := by
  rcases le_of_not h' with rfl | h1
  · exact h
  · exact lt_trans h h1
theorem le_trans {a b c : Str} (h : ltS b a = false) (h' : ltS c b = false) : ltS c a = false := by
  rcases le_of_not h with rfl | h1
  · exact h'
  · cases hc : ltS c a with
    | false => rfl
    | true => have := lt_trans hc h1; rw [h'] at this; cases this
def below (k hi : Str) : Prop := hi = eps ∨ ltS k hi = true
def inR (r : Rg) (k : Str) : Prop := ltS k r.lo = false ∧ below k r.hi
theorem endLt_iff {x y : Str} : endLt x y = true ↔ x ≠ eps ∧ below x y := by
  unfold endLt below eqS
  simp only [Bool.and_eq_true, Bool.not_eq_true', decide_eq_false_iff_not, Bool.or_eq_true, decide_eq_true_eq]
  constructor
  · rintro ⟨h1, h2, h3⟩; exact ⟨h2, h3⟩
  · rintro ⟨h2, h3⟩
    refine ⟨?_, h2, h3⟩
    rintro rfl
    rcases h3 with h3 | h3
    · exact h2 h3
    · rw [lt_irrefl] at h3; cases h3
theorem endLt_false {x y : Str} : endLt x y = false ↔ x = eps ∨ (y ≠ eps ∧ ltS x y = false) := by
  rw [← Bool.not_eq_true, endLt_iff]
  unfold below
  constructor
  · intro h
    by_cases hx : x = eps
    · exact .inl hx
    · right
      refine ⟨fun hy => h ⟨hx, .inl hy⟩, ?_⟩
      cases hl : ltS x y with
      | false => rfl
      | true => exact absurd ⟨hx, .inr hl⟩ h
  · rintro (rfl | ⟨h1, h2⟩) ⟨h3, h4⟩
    · exact h3 rfl
    · rcases h4 with h4 | h4
      · exact h1 h4
      · rw [h2] at h4; cases h4
structure ROk (r : Rg) : Prop where
  lo : r.lo = eps ∨ nmOk r.lo = true
  hi : r.hi = eps ∨ nmOk r.hi = true
  lt : below r.lo r.hi
theorem ok_iff {r : Rg} : r.ok = true ↔ ROk r := by
  unfold Rg.ok eqS
  simp only [Bool.and_eq_true, Bool.or_eq_true, decide_eq_true_eq]
  constructor
  · rintro ⟨⟨h1, h2⟩, h3⟩; exact ⟨h1, h2, h3⟩
  · rintro ⟨h1, h2, h3⟩; exact ⟨⟨h1, h2⟩, h3⟩
theorem nmOk_ne {k : Str} (h : nmOk k = true) : k ≠ eps := by
  rintro rfl
  exact absurd h (by decide)
theorem has_iff {r : Rg} (hr : ROk r) {k : Str} (hk : nmOk k = true) : r.has k = true ↔ inR r k := by
  unfold Rg.has inR
  have h1 := ok_iff.2 hr
  rw [h1, hk, ← ltS_le]
  simp only [Bool.true_and, Bool.and_eq_true, Bool.not_eq_true', endLt_iff]
  constructor
  · rintro ⟨h1, _, h2⟩; exact ⟨h1, h2⟩
  · rintro ⟨h1, h2⟩; exact ⟨h1, nmOk_ne hk, h2⟩
theorem maxS_lt {a b k : Str} : ltS k (maxS a b) = false ↔ ltS k a = false ∧ ltS k b = false := by
  unfold maxS
  split
  · rename_i h
    constructor
    · intro h1
      refine ⟨?_, h1⟩
      exact le_trans (lt_asymm h) h1
    · exact fun h => h.2
  · rename_i h
    have h : ltS a b = false := by simpa using h
    constructor
    · intro h1
      exact ⟨h1, le_trans h h1⟩
    · exact fun h => h.1
theorem maxS_or (a b : Str) : maxS a b = a ∨ maxS a b = b := by unfold maxS; split <;> simp
theorem inR_lo {r : Rg} (h : ROk r) : inR r r.lo := ⟨lt_irrefl _, h.lt⟩
theorem meet_in {a b : Rg} {k : Str} : inR (meet a b) k ↔ inR a k ∧ inR b k := by
  unfold inR meet
  dsimp only
  rw [maxS_lt]
  cases he : endLt b.hi a.hi with
  | true =>
    rw [if_pos rfl]
    obtain ⟨h1, h2⟩ := endLt_iff.1 he
    constructor
    · rintro ⟨⟨h3, h4⟩, h5⟩
      refine ⟨⟨h3, ?_⟩, h4, h5⟩
      rcases h2 with h2 | h2
      · exact .inl h2
      · rcases h5 with h5 | h5
        · exact absurd h5 h1
        · exact .inr (lt_trans h5 h2)
    · rintro ⟨⟨h3, _⟩, h4, h5⟩; exact ⟨⟨h3, h4⟩, h5⟩
  | false =>
    rw [if_neg (by simp)]
    have he := endLt_false.1 he
    constructor
    · rintro ⟨⟨h3, h4⟩, h5⟩
      refine ⟨⟨h3, h5⟩, h4, ?_⟩
      rcases he with he | ⟨h1, h2⟩
      · exact .inl he
      · rcases h5 with h5 | h5
        · exact absurd h5 h1
        · exact .inr (lt_of_lt_le h5 h2)
    · rintro ⟨⟨h3, h5⟩, h4, _⟩; exact ⟨⟨h3, h4⟩, h5⟩
theorem meets_iff {a b : Rg} (ha : ROk a) (hb : ROk b) : meets a b = true ↔ ∃ k, inR a k ∧ inR b k := by
  unfold meets
  rw [ok_iff.2 ha, ok_iff.2 hb, Bool.true_and, Bool.true_and, ok_iff]
  constructor
  · intro h
    exact ⟨_, meet_in.1 (inR_lo h)⟩
  · rintro ⟨k, h1, h2⟩
    have hk := meet_in.2 ⟨h1, h2⟩
    refine ⟨?_, ?_, ?_⟩
    · unfold meet; dsimp only
      rcases maxS_or a.lo b.lo with h | h <;> rw [h]
      · exact ha.lo
      · exact hb.lo
    · unfold meet; dsimp only
      split
      · exact hb.hi
      · exact ha.hi
    · rcases hk.2 with h | h
      · exact .inl h
      · exact .inr (lt_of_le_lt hk.1 h)
theorem meets_comm {a b : Rg} (ha : ROk a) (hb : ROk b) : meets a b = meets b a := by
  rw [Bool.eq_iff_iff, meets_iff ha hb, meets_iff hb ha]
  exact ⟨fun ⟨k, h, h'⟩ => ⟨k, h', h⟩, fun ⟨k, h, h'⟩ => ⟨k, h', h⟩⟩
end Go.X.OM

namespace Go.X
open Go
section
variable {c : Cx} {o : Oper} {E : Env} {H : List Blk} {nx : K1}
theorem OpK.maxS {x y : Operand} {t t' : Nat} (ho : o.op = .call { callee := .builtin .max, args := #[x, y], argTypes := #[t, t'] }) {a b : ByteArray} (hx : opd E x = some (.v (.string a))) (hy : opd E y = some (.v (.string b)))
    (h : nx (.v (.string (if X.ltS a b = true then b else a))) H) : OpK c o E H nx := by
  have hnd : ∀ cl, o.op ≠ .defer cl := by rw [ho]; intro cl e; cases e
  refine OpK.val hnd _ (fun ms ac w ha hk => ?_) h
  have e1 := ha.opd hx
  have e2 := ha.opd hy
  simp only [den] at e1 e2
  cases hb : X.ltS a b with
  | true =>
    have hb' : Op.bytesLess a.toList b.toList = true := hb
    simp [execOp, ho, resolve, invoke, builtin, e1, e2, den, Builtin.max_, Builtin.max2, Op.stringOp, asBool, hb']
  | false =>
    have hb' : Op.bytesLess a.toList b.toList = false := hb
    simp [execOp, ho, resolve, invoke, builtin, e1, e2, den, Builtin.max_, Builtin.max2, Op.stringOp, asBool, hb']
end
end Go.X

namespace Go.X.OM
open Go Go.X
inductive Seg : Str → List Pt → Str → Prop
  | nil {x : Str} : Seg x [] x
  | cons {p : Pt} {l : List Pt} {y : Str} (h : ROk p.r) (hl : p.r.hi = eps → l = []) (ht : Seg p.r.hi l y) : Seg p.r.lo (p :: l) y
def Cover (l : List Pt) : Prop := Seg eps l eps ∧ l ≠ []
theorem Seg.inv {x y : Str} {p : Pt} {l : List Pt} (h : Seg x (p :: l) y) : x = p.r.lo ∧ ROk p.r ∧ (p.r.hi = eps → l = []) ∧ Seg p.r.hi l y := by
  cases h with
  | cons h hl ht => exact ⟨rfl, h, hl, ht⟩
theorem Seg.nil_inv {x y : Str} (h : Seg x [] y) : x = y := by cases h; rfl
theorem Seg.ok {x y : Str} {l : List Pt} (h : Seg x l y) : ∀ p ∈ l, ROk p.r := by
  induction h with
  | nil => simp
  | cons h hl ht ih =>
    intro q hq
    rcases List.mem_cons.1 hq with rfl | hq
    · exact h
    · exact ih q hq
theorem Seg.ge {x y : Str} {l : List Pt} (h : Seg x l y) : ∀ p ∈ l, ltS p.r.lo x = false := by
  induction h with
  | nil => simp
  | @cons p l y h hl ht ih =>
    intro q hq
    rcases List.mem_cons.1 hq with rfl | hq
    · exact lt_irrefl _
    · have h1 := ih q hq
      rcases h.lt with h2 | h2
      · rw [hl h2] at hq; cases hq
      · exact le_trans (lt_asymm h2) h1
theorem Seg.append {x y z : Str} {l m : List Pt} (h : Seg x l y) (hm : Seg y m z) (hy : y = eps → l = [] ∨ m = []) : Seg x (l ++ m) z := by
  induction h with
  | nil => exact hm
  | @cons p l y h hl ht ih =>
    refine .cons h (fun e => ?_) (ih hm fun e => ?_)
    · have := hl e
      subst this
      have hy' : y = p.r.hi := by
        generalize p.r.hi = z at ht
        cases ht; rfl
      rcases hy (hy'.trans e) with h1 | h1
      · cases h1
      · simp [h1]
    · rcases hy e with h1 | h1
      · cases h1
      · exact .inr h1
theorem Seg.find {x : Str} {l : List Pt} (h : Seg x l eps) (hne : l ≠ []) {k : Str} (hk : ltS k x = false) :
    ∃ A p C, l = A ++ p :: C ∧ Seg x A p.r.lo ∧ inR p.r k ∧ ROk p.r ∧ (p.r.hi = eps → C = []) ∧ Seg p.r.hi C eps ∧ (∀ q ∈ A, q.r.hi ≠ eps ∧ ltS k q.r.hi = false) ∧ (p.r.lo = eps → A = []) := by
  induction l generalizing x with
  | nil => exact absurd rfl hne
  | cons p l ih =>
    obtain ⟨rfl, h1, h2, h3⟩ := h.inv
    by_cases hb : OM.below k p.r.hi
    · exact ⟨[], p, l, rfl, .nil, ⟨hk, hb⟩, h1, h2, h3, by simp, fun _ => rfl⟩
    · have hp : p.r.hi ≠ eps := fun e => hb (.inl e)
      have hk2 : ltS k p.r.hi = false := by
        cases hl : ltS k p.r.hi with
        | false => rfl
        | true => exact absurd (.inr hl) hb
      have hl : l ≠ [] := by
        rintro rfl
        exact hp h3.nil_inv
      obtain ⟨A, q, C, e, h4, h5, h6, h7, h8, h9, h10⟩ := ih h3 hl hk2
      refine ⟨p :: A, q, C, by rw [e]; rfl, .cons h1 (fun e => absurd e hp) h4, h5, h6, h7, h8, ?_, ?_⟩
      · intro z hz
        rcases List.mem_cons.1 hz with rfl | hz
        · exact ⟨hp, hk2⟩
        · exact h9 z hz
      · intro e0
        exfalso
        have h11 := h3.ge q (by rw [e]; simp)
        rw [e0] at h11
        have := eps_lt hp
        rw [h11] at this; cases this
theorem not_meets {a b : Rg} (ha : ROk a) (hb : ROk b) (h : ∀ k, inR a k → ¬ inR b k) : meets a b = false := by
  rw [← Bool.not_eq_true, meets_iff ha hb]
  rintro ⟨k, h1, h2⟩
  exact h k h1 h2
theorem Seg.last {r : Rg} (hr : ROk r) : ∀ {C : List Pt} {p : Pt}, ROk p.r → (p.r.hi = eps → C = []) → Seg p.r.hi C eps → meets p.r r = true → OM.below p.r.lo r.hi → OM.below r.lo p.r.hi →
    ∃ T q B, p :: C = T ++ q :: B ∧ (∀ z ∈ T, meets z.r r = true) ∧ meets q.r r = true ∧ (∀ z ∈ B, meets z.r r = false) ∧ ROk q.r ∧ Seg q.r.hi B eps ∧ (q.r.hi = eps → B = []) ∧ endLt q.r.hi r.hi = false ∧ OM.below q.r.lo r.hi ∧ (∀ z ∈ T, endLt z.r.hi r.hi = true)
  | C, p, h1, h2, h3, hm, hb, hlo => by
    cases he : endLt p.r.hi r.hi with
    | false =>
      refine ⟨[], p, C, rfl, by simp, hm, fun z hz => ?_, h1, h3, h2, he, hb, by simp⟩
      refine not_meets (h3.ok z hz) hr fun k hk hk' => ?_
      have h4 := h3.ge z hz
      rcases endLt_false.1 he with h5 | ⟨h5, h6⟩
      · rw [h2 h5] at hz; cases hz
      · have h7 := le_trans (le_trans h6 h4) hk.1
        rcases hk'.2 with h8 | h8
        · exact h5 h8
        · rw [h7] at h8; cases h8
    | true =>
      obtain ⟨hp, hb2⟩ := endLt_iff.1 he
      cases C with
      | nil => exact absurd h3.nil_inv hp
      | cons p2 C2 =>
        obtain ⟨e, k1, k2, k3⟩ := h3.inv
        have hl : ltS r.lo p.r.hi = true := by
          rcases hlo with h | h
          · exact absurd h hp
          · exact h
        rw [e] at hl hb2
        have hm2 : meets p2.r r = true := (meets_iff k1 hr).2 ⟨p2.r.lo, inR_lo k1, lt_asymm hl, hb2⟩
        have hlo2 : OM.below r.lo p2.r.hi := by
          rcases k1.lt with h | h
          · exact .inl h
          · exact .inr (lt_trans hl h)
        obtain ⟨T, q, B, e1, e2, e3, e4, e5, e6, e7, e8, e9, e10⟩ := Seg.last hr k1 k2 k3 hm2 hb2 hlo2
        refine ⟨p :: T, q, B, by rw [e1]; rfl, ?_, e3, e4, e5, e6, e7, e8, e9, ?_⟩
        · intro z hz
          rcases List.mem_cons.1 hz with rfl | hz
          · exact hm
          · exact e2 z hz
        · intro z hz
          rcases List.mem_cons.1 hz with rfl | hz
          · exact he
          · exact e10 z hz
theorem Cover.split {l : List Pt} (h : Cover l) {r : Rg} (hr : ROk r) :
    ∃ A p C T q B, l = A ++ p :: C ∧ p :: C = T ++ q :: B ∧ (∀ z ∈ A, meets z.r r = false) ∧ (∀ z ∈ T, meets z.r r = true) ∧ meets q.r r = true ∧ (∀ z ∈ B, meets z.r r = false) ∧
      Seg eps A p.r.lo ∧ (p.r.lo = eps → A = []) ∧ ROk p.r ∧ inR p.r r.lo ∧ (∀ z ∈ C, ltS z.r.lo r.lo = false ∧ z.r.lo ≠ eps) ∧
      ROk q.r ∧ Seg q.r.hi B eps ∧ (q.r.hi = eps → B = []) ∧ endLt q.r.hi r.hi = false ∧ OM.below q.r.lo r.hi ∧ (∀ z ∈ T, endLt z.r.hi r.hi = true) := by
  obtain ⟨A, p, C, e, h4, h5, h6, h7, h8, h9, h10⟩ := h.1.find h.2 (k := r.lo) (not_lt_eps _)
  have hm : meets p.r r = true := (meets_iff h6 hr).2 ⟨r.lo, h5, inR_lo hr⟩
  have hb : OM.below p.r.lo r.hi := by
    rcases hr.lt with h | h
    · exact .inl h
    · exact .inr (lt_of_le_lt h5.1 h)
  obtain ⟨T, q, B, e1, e2, e3, e4, e5, e6, e7, e8, e9, e10⟩ := Seg.last hr h6 h7 h8 hm hb h5.2
  refine ⟨A, p, C, T, q, B, e, e1, fun z hz => ?_, e2, e3, e4, h4, h10, h6, h5, fun z hz => ?_, e5, e6, e7, e8, e9, e10⟩
  · refine not_meets (h4.ok z hz) hr fun k hk hk' => ?_
    obtain ⟨h11, h12⟩ := h9 z hz
    rcases hk.2 with h13 | h13
    · exact h11 h13
    · have := lt_of_lt_le h13 h12
      rw [hk'.1] at this; cases this
  · have h11 := h8.ge z hz
    rcases h5.2 with h12 | h12
    · rw [h7 h12] at hz; cases hz
    · have h13 := lt_of_lt_le h12 h11
      refine ⟨lt_asymm h13, ?_⟩
      intro e0
      rw [e0, not_lt_eps] at h13; cases h13
end Go.X.OM

namespace Go.X.OM
open Go Go.X
def lftP (p : Pt) (r : Rg) : List Pt := if ltS p.r.lo r.lo = true then [⟨⟨p.r.lo, r.lo⟩, p.group, p.epoch⟩] else []
def rgtP (q : Pt) (r : Rg) : List Pt := if endLt r.hi q.r.hi = true then [⟨⟨r.hi, q.r.hi⟩, q.group, q.epoch⟩] else []
def cutP (r : Rg) (p : Pt) : List Pt := (without p.r r).map fun s => (⟨s, p.group, p.epoch⟩ : Pt)
theorem cut_eq {p : Pt} {r : Rg} (h1 : OM.below r.lo p.r.hi) (h2 : OM.below p.r.lo r.hi) : cutP r p = lftP p r ++ rgtP p r := by
  unfold cutP without lftP rgtP
  rw [List.map_append]
  congr 1
  · split
    · rename_i h
      have : endLt p.r.hi r.lo = false := by
        rw [endLt_false]
        rcases h1 with h1 | h1
        · exact .inl h1
        · right
          exact ⟨fun e => (by rw [e, not_lt_eps] at h; cases h), lt_asymm h1⟩
      rw [this]; rfl
    · rfl
  · split
    · rename_i h
      have hne := (endLt_iff.1 h).1
      have : maxS p.r.lo r.hi = r.hi := by
        rcases h2 with h2 | h2
        · exact absurd h2 hne
        · unfold maxS; rw [if_pos h2]
      rw [this]; rfl
    · rfl
theorem endLt_asymm {x y : Str} (h : endLt x y = true) : endLt y x = false := by
  obtain ⟨h1, h2⟩ := endLt_iff.1 h
  rw [endLt_false]
  rcases h2 with h2 | h2
  · exact .inl h2
  · exact .inr ⟨h1, lt_asymm h2⟩
theorem filter_none {α : Type} {f : α → Bool} {l : List α} (h : ∀ z ∈ l, f z = false) : l.filter f = [] := by
  rw [List.filter_eq_nil_iff]; intro z hz; rw [h z hz]; simp
theorem filter_all {α : Type} {f : α → Bool} {l : List α} (h : ∀ z ∈ l, f z = true) : l.filter f = l := by
  rw [List.filter_eq_self]; exact h
theorem findIdx_app {α : Type} {f : α → Bool} {x : α} {C : List α} (hx : f x = true) : ∀ {A : List α}, (∀ z ∈ A, f z = false) → (A ++ x :: C).findIdx f = A.length
  | [], _ => by simp [List.findIdx_cons, hx]
  | a :: A, h => by
    have h1 := h a (by simp)
    have ih := findIdx_app (C := C) hx (A := A) fun z hz => h z (by simp [hz])
    rw [List.cons_append, List.findIdx_cons, h1, ih]
    rfl
theorem meets_lo {a r : Rg} (ha : ROk a) (hr : ROk r) (h : meets a r = true) : OM.below r.lo a.hi ∧ OM.below a.lo r.hi := by
  obtain ⟨k, h1, h2⟩ := (meets_iff ha hr).1 h
  constructor
  · rcases h1.2 with h3 | h3
    · exact .inl h3
    · exact .inr (lt_of_le_lt h2.1 h3)
  · rcases h2.2 with h3 | h3
    · exact .inl h3
    · exact .inr (lt_of_le_lt h1.1 h3)
theorem moveP_eq {l : List Pt} (hl : Cover l) {r : Rg} (hr : ROk r) (g : Int) :
    ∃ A p C T q B ep, l = A ++ p :: C ∧ p :: C = T ++ q :: B ∧ moveP l r g = A ++ (lftP p r ++ (⟨r, g, ep⟩ :: (rgtP q r ++ B))) ∧ ep = min ((l.filter fun p => meets p.r r).foldl (fun a p => max a p.epoch) 0 + 1) 2147483648 ∧
      (l.filter fun p => meets p.r r) = T ++ [q] ∧ (∀ z ∈ A, meets z.r r = false) ∧ (∀ z ∈ B, meets z.r r = false) ∧
      Seg eps A p.r.lo ∧ (p.r.lo = eps → A = []) ∧ ROk p.r ∧ inR p.r r.lo ∧
      ROk q.r ∧ Seg q.r.hi B eps ∧ (q.r.hi = eps → B = []) ∧ endLt q.r.hi r.hi = false ∧ OM.below q.r.lo r.hi ∧ (∀ z ∈ C, ltS z.r.lo r.lo = false) ∧ (∀ z ∈ T, endLt z.r.hi r.hi = true) := by
  obtain ⟨A, p, C, T, q, B, e, e1, hA, hT, hq, hB, sA, sA0, okp, inp, hC, okq, sB, sB0, hqr, hql, hTr⟩ := hl.split hr
  have hlT : l = A ++ (T ++ q :: B) := by rw [← e1]; exact e
  have okl := hl.1.ok
  have hfil : (l.filter fun p => meets p.r r) = T ++ [q] := by
    rw [hlT, List.filter_append, List.filter_append, filter_none hA, filter_all hT, List.filter_cons_of_pos (p := fun p : Pt => meets p.r r) hq, filter_none hB]
    simp
  have hcut : (T ++ [q]).flatMap (cutP r) = lftP p r ++ rgtP q r := by
    cases T with
    | nil =>
      simp only [List.nil_append, List.cons.injEq] at e1
      obtain ⟨rfl, rfl⟩ := e1
      have := meets_lo okq hr hq
      rw [List.nil_append, List.flatMap_singleton, cut_eq this.1 this.2]
    | cons p' T =>
      simp only [List.cons_append, List.cons.injEq] at e1
      obtain ⟨rfl, rfl⟩ := e1
      have hz : ∀ z ∈ T, cutP r z = [] := by
        intro z hz
        have h1 := hT z (by simp [hz])
        have h2 := meets_lo (okl z (by rw [hlT]; simp [hz])) hr h1
        rw [cut_eq h2.1 h2.2]
        unfold lftP rgtP
        rw [if_neg (by rw [(hC z (by simp [hz])).1]; simp), if_neg (by rw [endLt_asymm (hTr z (by simp [hz]))]; simp)]
        rfl
      have h1 := meets_lo okp hr (hT p (by simp))
      have h2 := meets_lo okq hr hq
      rw [List.cons_append, List.flatMap_cons, List.flatMap_append, List.flatMap_singleton, cut_eq h1.1 h1.2, cut_eq h2.1 h2.2]
      have h3 : T.flatMap (cutP r) = [] := by rw [List.flatMap_eq_nil_iff]; exact hz
      have h4 : rgtP p r = [] := by unfold rgtP; rw [if_neg (by rw [endLt_asymm (hTr p (by simp))]; simp)]
      have h5 : lftP q r = [] := by unfold lftP; rw [if_neg (by rw [(hC q (by simp)).1]; simp)]
      rw [h3, h4, h5]
      simp
  have hk : leftN r (lftP p r ++ rgtP q r) = (lftP p r).length := by
    unfold lftP
    split
    · rename_i h
      have hne : r.lo ≠ eps := fun e => (by rw [e, not_lt_eps] at h; cases h)
      simp [leftN, eqS, hne]
    · unfold rgtP
      split
      · have : ¬ (q.r.hi = r.lo ∧ r.lo ≠ eps) := by
          rintro ⟨h1, h2⟩
          rcases endLt_false.1 hqr with h3 | ⟨h3, h4⟩
          · exact h2 (h1 ▸ h3)
          · rw [h1] at h4
            rcases hr.lt with h5 | h5
            · exact h3 h5
            · rw [h4] at h5; cases h5
        have h9 : (eqS q.r.hi r.lo && !eqS r.lo eps) = false := by
          unfold eqS
          rw [← Bool.not_eq_true]
          simp only [Bool.and_eq_true, decide_eq_true_eq, Bool.not_eq_true', decide_eq_false_iff_not]
          exact this
        show (if (eqS q.r.hi r.lo && !eqS r.lo eps) = true then 1 else 0) = 0
        rw [h9]; rfl
      · rfl
  refine ⟨A, p, C, T, q, B, _, e, e1, ?_, rfl, hfil, hA, hB, sA, sA0, okp, inp, okq, sB, sB0, hqr, hql, fun z hz => (hC z hz).1, hTr⟩
  have hmp : meets p.r r = true := by
    cases T with
    | nil => simp only [List.nil_append, List.cons.injEq] at e1; obtain ⟨rfl, _⟩ := e1; exact hq
    | cons t T => simp only [List.cons_append, List.cons.injEq] at e1; obtain ⟨rfl, _⟩ := e1; exact hT _ (by simp)
  have hf : firstIx r l = A.length := by
    unfold firstIx
    rw [e]
    exact findIdx_app (f := fun p : Pt => meets p.r r) hmp hA
  have hla : lastIx r l + 1 = (A ++ (T ++ [q])).length := by
    unfold lastIx
    have : l.reverse = B.reverse ++ q :: (T.reverse ++ A.reverse) := by rw [hlT]; simp
    rw [this, findIdx_app (f := fun p : Pt => meets p.r r) hq (fun z hz => hB z (by simpa using hz)), hlT]
    simp
    omega
  unfold moveP
  dsimp only
  rw [hf, hla]
  have h6 : ((l.filter fun p => meets p.r r).flatMap fun p => (without p.r r).map fun s => (⟨s, p.group, p.epoch⟩ : Pt)) = lftP p r ++ rgtP q r := by rw [hfil]; exact hcut
  rw [h6, hk]
  have h7 : l.take A.length = A := by rw [e, List.take_left]
  have h8 : l.drop (A ++ (T ++ [q])).length = B := by
    rw [hlT, show A ++ (T ++ q :: B) = (A ++ (T ++ [q])) ++ B by simp, List.drop_left]
  rw [h7, h8, List.take_left, List.drop_left]
  simp
end Go.X.OM

namespace Go.X.OM
open Go Go.X
theorem endLt_antisymm {x y : Str} (h : endLt x y = false) (h' : endLt y x = false) : x = y := by
  rcases endLt_false.1 h with h1 | ⟨h1, h2⟩
  · rcases endLt_false.1 h' with h3 | ⟨h3, _⟩
    · rw [h1, h3]
    · exact absurd h1 h3
  · rcases endLt_false.1 h' with h3 | ⟨_, h4⟩
    · exact absurd h3 h1
    · rcases le_of_not h2 with h5 | h5
      · exact h5
      · rw [h4] at h5; cases h5
theorem Cover.at {l : List Pt} (h : Cover l) (k : Str) : ∃ p ∈ l, inR p.r k := by
  obtain ⟨A, p, C, e, _, h5, _⟩ := h.1.find h.2 (k := k) (not_lt_eps _)
  exact ⟨p, by rw [e]; simp, h5⟩
theorem Cover.ok {l : List Pt} (h : Cover l) : ∀ p ∈ l, ROk p.r := h.1.ok
theorem lft_seg {p : Pt} {r : Rg} (okp : ROk p.r) (hr : ROk r) (h : ltS r.lo p.r.lo = false) : Seg p.r.lo (lftP p r) r.lo := by
  unfold lftP
  split
  · rename_i h1
    exact .cons (p := ⟨⟨p.r.lo, r.lo⟩, p.group, p.epoch⟩) ⟨okp.lo, hr.lo, .inr h1⟩ (fun _ => rfl) .nil
  · rename_i h1
    have h1 : ltS p.r.lo r.lo = false := by simpa using h1
    rcases le_of_not h1 with h2 | h2
    · rw [h2]; exact .nil
    · rw [h] at h2; cases h2
theorem rgt_seg {q : Pt} {r : Rg} (okq : ROk q.r) (hr : ROk r) (h : endLt q.r.hi r.hi = false) : Seg r.hi (rgtP q r) q.r.hi := by
  unfold rgtP
  split
  · rename_i h1
    exact .cons (p := ⟨⟨r.hi, q.r.hi⟩, q.group, q.epoch⟩) ⟨hr.hi, okq.hi, (endLt_iff.1 h1).2⟩ (fun _ => rfl) .nil
  · rename_i h1
    have h1 : endLt r.hi q.r.hi = false := by simpa using h1
    rw [endLt_antisymm h1 h]; exact .nil
theorem Cover.move {l : List Pt} (hl : Cover l) {r : Rg} (hr : ROk r) (g : Int) :
    Cover (moveP l r g) ∧ (moveP l r g).length ≤ l.length + 2 ∧ (∃ ep, (⟨r, g, ep⟩ : Pt) ∈ moveP l r g ∧ 1 ≤ ep ∧ ep ≤ 2147483648) ∧
      (∀ z ∈ moveP l r g, (z.r = r ∧ z.group = g ∧ 1 ≤ z.epoch ∧ z.epoch ≤ 2147483648) ∨ ∃ q ∈ l, z.group = q.group ∧ z.epoch = q.epoch ∧ ∀ k, inR z.r k → inR q.r k) ∧
      (∀ q ∈ l, ∀ k, inR q.r k → ¬ inR r k → ∃ z ∈ moveP l r g, inR z.r k ∧ z.group = q.group ∧ z.epoch = q.epoch) := by
  obtain ⟨A, p, C, T, q, B, ep, e, e1, hm, hep, hfil, hA, hB, sA, sA0, okp, inp, okq, sB, sB0, hqr, hql, hC, hT⟩ := moveP_eq hl hr g
  have hep1 : 1 ≤ ep ∧ ep ≤ 2147483648 := by
    have : 0 ≤ (l.filter fun p => meets p.r r).foldl (fun a p => max a p.epoch) 0 := by
      generalize (l.filter fun p => meets p.r r) = m
      have h : ∀ (m : List Pt) (a : Int), 0 ≤ a → 0 ≤ m.foldl (fun a p => max a p.epoch) a := by
        intro m
        induction m with
        | nil => intro a h; exact h
        | cons x m ih => intro a h; exact ih _ (Int.le_trans h (Int.le_max_left _ _))
      exact h m 0 (Int.le_refl _)
    rw [hep]
    constructor <;> omega
  have h3 : Seg r.hi (rgtP q r ++ B) eps := (rgt_seg okq hr hqr).append sB fun e => .inr (sB0 e)
  have hrz : r.hi = eps → rgtP q r ++ B = [] := by
    intro e0
    have h1 : rgtP q r = [] := by unfold rgtP; rw [if_neg]; rw [endLt_iff]; rintro ⟨h, _⟩; exact h e0
    have h2 : q.r.hi = eps := by
      rcases endLt_false.1 hqr with h | ⟨h, _⟩
      · exact h
      · exact absurd e0 h
    rw [h1, sB0 h2]; rfl
  have h2 : Seg r.lo ((⟨r, g, ep⟩ : Pt) :: (rgtP q r ++ B)) eps := .cons (p := ⟨r, g, ep⟩) hr hrz h3
  have h1 : Seg p.r.lo (lftP p r ++ ((⟨r, g, ep⟩ : Pt) :: (rgtP q r ++ B))) eps := (lft_seg okp hr inp.1).append h2 fun e0 => .inl (by unfold lftP; rw [if_neg]; rw [e0, not_lt_eps]; simp)
  have h0 := sA.append h1 fun e0 => .inl (sA0 e0)
  have hlen : l.length = A.length + (T.length + (B.length + 1)) := by rw [e, e1]; simp
  refine ⟨⟨by rw [hm]; exact h0, by rw [hm]; simp⟩, ?_, ⟨ep, by rw [hm]; simp, hep1⟩, ?_, ?_⟩
  · rw [hm]
    have : (lftP p r).length ≤ 1 := by unfold lftP; split <;> simp
    have : (rgtP q r).length ≤ 1 := by unfold rgtP; split <;> simp
    simp only [List.length_append, List.length_cons]
    omega
  · intro z hz
    rw [hm] at hz
    simp only [List.mem_append, List.mem_cons] at hz
    rcases hz with hz | hz | rfl | hz | hz
    · exact .inr ⟨z, by rw [e]; simp [hz], rfl, rfl, fun _ h => h⟩
    · right
      unfold lftP at hz
      split at hz
      · simp only [List.mem_singleton] at hz
        subst hz
        refine ⟨p, by rw [e]; simp, rfl, rfl, fun k hk => ⟨hk.1, ?_⟩⟩
        have h5 : ltS k r.lo = true := by
          rcases hk.2 with h6 | h6
          · rename_i h7; dsimp only at h6; rw [h6, not_lt_eps] at h7; cases h7
          · exact h6
        rcases inp.2 with h6 | h6
        · exact .inl h6
        · exact .inr (lt_trans h5 h6)
      · cases hz
    · exact .inl ⟨rfl, rfl, hep1.1, hep1.2⟩
    · right
      unfold rgtP at hz
      split at hz
      · simp only [List.mem_singleton] at hz
        subst hz
        rename_i h7
        refine ⟨q, by rw [e, e1]; simp, rfl, rfl, fun k hk => ⟨?_, hk.2⟩⟩
        have hne := (endLt_iff.1 h7).1
        rcases hql with h6 | h6
        · exact absurd h6 hne
        · exact le_trans (lt_asymm h6) hk.1
      · cases hz
    · exact .inr ⟨z, by rw [e, e1]; simp [hz], rfl, rfl, fun _ h => h⟩
  · intro z hz k hk hkr
    rw [hm]
    have hz' : z ∈ A ∨ z ∈ p :: C := by rw [e] at hz; simpa using hz
    rcases hz' with hz1 | hz1
    · exact ⟨z, by simp [hz1], hk, rfl, rfl⟩
    · by_cases hlo : ltS k r.lo = true
      · have hzp : z = p := by
          rcases List.mem_cons.1 hz1 with h4 | h4
          · exact h4
          · exfalso
            have := lt_of_lt_le hlo (hC z h4)
            rw [hk.1] at this; cases this
        subst hzp
        have h5 := lt_of_le_lt hk.1 hlo
        refine ⟨⟨⟨z.r.lo, r.lo⟩, z.group, z.epoch⟩, ?_, ⟨hk.1, .inr hlo⟩, rfl, rfl⟩
        have : lftP z r = [⟨⟨z.r.lo, r.lo⟩, z.group, z.epoch⟩] := by unfold lftP; rw [if_pos h5]
        rw [this]; simp
      · have hlo : ltS k r.lo = false := by simpa using hlo
        have hnb : ¬ OM.below k r.hi := fun h => hkr ⟨hlo, h⟩
        have hne : r.hi ≠ eps := fun h => hnb (.inl h)
        have hge : ltS k r.hi = false := by
          cases hx : ltS k r.hi with
          | false => rfl
          | true => exact absurd (.inr hx) hnb
        rw [e1] at hz1
        rcases List.mem_append.1 hz1 with h4 | h4
        · exfalso
          obtain ⟨h5, h6⟩ := endLt_iff.1 (hT z h4)
          rcases hk.2 with h7 | h7
          · exact h5 h7
          · rcases h6 with h8 | h8
            · exact hne h8
            · rw [lt_trans h7 h8] at hge; cases hge
        · rcases List.mem_cons.1 h4 with h4 | h4
          · subst h4
            have h5 : endLt r.hi z.r.hi = true := by
              rw [endLt_iff]
              refine ⟨hne, ?_⟩
              rcases hk.2 with h7 | h7
              · exact .inl h7
              · exact .inr (lt_of_le_lt hge h7)
            refine ⟨⟨⟨r.hi, z.r.hi⟩, z.group, z.epoch⟩, ?_, ⟨hge, hk.2⟩, rfl, rfl⟩
            have : rgtP z r = [⟨⟨r.hi, z.r.hi⟩, z.group, z.epoch⟩] := by unfold rgtP; rw [if_pos h5]
            rw [this]; simp
          · exact ⟨z, by simp [h4], hk, rfl, rfl⟩
end Go.X.OM

namespace Go.X.OM
open Go Go.X
structure SOk (s : Sg) : Prop where
  d : s.d.ok = true
  tried : 0 ≤ s.tried ∧ s.tried ≤ 21
  began : 0 ≤ s.began ∧ s.began ≤ 2147483648
  st : 1 ≤ s.st ∧ s.st ≤ 5
  at0 : 0 ≤ s.at_
  atE : 4 ≤ s.st → s.at_ = 0
  at1 : s.st < 4 → s.at_ < s.d.steps.length
  can : s.cancel = true → s.st ≠ 2 ∧ s.st ≠ 4
  err : (s.st = 3 ∨ s.st = 5) → 1 ≤ s.err ∧ s.err ≤ 18
  err0 : s.st ≠ 3 → s.st ≠ 5 → s.err = 0
theorem Dfn.steps_pos {d : Dfn} (h : d.ok = true) : 1 ≤ d.steps.length ∧ d.steps.length ≤ 8 ∧ 0 ≤ d.retries ∧ d.retries ≤ 20 ∧ 0 ≤ d.deadline ∧ d.deadline ≤ 100000 ∧ nmOk d.name = true ∧ stepsOk [] d.steps = true := by
  unfold Dfn.ok at h
  simp only [Bool.and_eq_true, decide_eq_true_eq] at h
  obtain ⟨⟨⟨⟨⟨⟨⟨h1, h2⟩, h3⟩, h4⟩, h5⟩, h6⟩, h7⟩, h8⟩ := h
  exact ⟨h6, h7, h2, h3, h4, h5, h1, h8⟩
theorem SOk.to {s : Sg} (h : SOk s) {st a why : Int} (hst : 1 ≤ st ∧ st ≤ 5) (h0 : 0 ≤ a) (hE : 4 ≤ st → a = 0) (h1 : st < 4 → a < s.d.steps.length) (hc : s.cancel = true → st ≠ 2 ∧ st ≠ 4) (he : st = 3 ∨ st = 5 → 1 ≤ why ∧ why ≤ 18) (he0 : st ≠ 3 → st ≠ 5 → why = 0) : SOk (s.to st a why) :=
  ⟨h.d, ⟨Int.le_refl 0, by show (0 : Int) ≤ 21; decide⟩, h.began, hst, h0, hE, h1, hc, he, he0⟩
theorem SOk.follow {s : Sg} (h : SOk s) (ho : s.st < 4) {res now : Int} (hr : 0 ≤ res ∧ res ≤ 18) : SOk (s.follow res now) := by
  have hd := Dfn.steps_pos h.d
  have ha := h.at1 ho
  have h0 := h.at0
  have hst := h.st
  unfold Sg.follow
  by_cases h1 : s.st = 1
  · rw [if_pos h1]
    unfold Sg.forward
    split
    · rename_i hc
      have hre : res ≠ 0 := by intro e; subst e; simp at hc
      split
      · exact h.to (by omega) (by omega) (by omega) (by omega) (by omega) (by omega) (by omega)
      · exact h.to (by omega) (by omega) (by omega) (by omega) (by omega) (by omega) (by omega)
    · split
      · exact h.to (by omega) (by omega) (by omega) (by omega) (by omega) (by omega) (by omega)
      · rename_i hcan
        split
        · exact h.to (by omega) (by omega) (by omega) (by omega) (by omega) (by omega) (by omega)
        · split
          · rename_i hsh
            have hre : 16 ≤ res := by
              unfold isShort at hsh
              simp only [Bool.or_eq_true, beq_iff_eq] at hsh
              omega
            split
            · have htr := h.tried
              exact ⟨h.d, ⟨by show 0 ≤ s.tried + 1; omega, by show s.tried + 1 ≤ 21; omega⟩, h.began, h.st, h0, h.atE, h.at1, h.can, h.err, h.err0⟩
            · exact h.to (by omega) (by omega) (by omega) (by omega) (by omega) (by omega) (by omega)
          · split
            · rename_i hl
              unfold Sg.last at hl
              exact h.to (by omega) (by omega) (by omega) (by omega) (by omega) (by omega) (by omega)
            · exact h.to (by omega) (by omega) (by omega) (by omega) (fun h => absurd h hcan) (by omega) (by omega)
  · rw [if_neg h1]
    by_cases h2 : s.st = 2
    · rw [if_pos h2]
      have hcan : ¬ s.cancel = true := fun hc => (h.can hc).1 h2
      unfold Sg.free
      split
      · exact h
      · split
        · rename_i hl
          unfold Sg.last at hl
          exact h.to (by omega) (by omega) (by omega) (by omega) (fun h => absurd h hcan) (by omega) (by omega)
        · exact h.to (by omega) (by omega) (by omega) (by omega) (fun h => absurd h hcan) (by omega) (by omega)
    · rw [if_neg h2]
      have h3 : s.st = 3 := by omega
      have he := h.err (.inl h3)
      unfold Sg.undo
      split
      · exact h
      · split
        · exact h.to (by omega) (by omega) (by omega) (by omega) (by omega) (by omega) (by omega)
        · exact h.to (by omega) (by omega) (by omega) (by omega) (by omega) (by omega) (by omega)
def ahead (a b : Int) : Prop := a = b ∨ a = 1 ∨ (a = 2 ∧ b = 4) ∨ (a = 3 ∧ b = 5)
theorem follow_ahead {s : Sg} (h : SOk s) (ho : s.st < 4) {res now : Int} : ahead s.st (s.follow res now).st := by
  unfold ahead Sg.follow
  by_cases h1 : s.st = 1
  · exact .inr (.inl h1)
  · rw [if_neg h1]
    by_cases h2 : s.st = 2
    · rw [if_pos h2]
      unfold Sg.free
      split
      · exact .inl rfl
      · split
        · exact .inl h2
        · exact .inr (.inr (.inl ⟨h2, rfl⟩))
    · rw [if_neg h2]
      have hst := h.st
      have h3 : s.st = 3 := by omega
      unfold Sg.undo
      split
      · exact .inl rfl
      · split
        · exact .inl h3
        · exact .inr (.inr (.inr ⟨h3, rfl⟩))
theorem putS_mem {id : Int} {s : Sg} {x : Int × Sg} : ∀ {l : List (Int × Sg)}, x ∈ putS id s l → x = (id, s) ∨ x ∈ l
  | [], h => by simp [putS] at h; exact .inl h
  | y :: l, h => by
    unfold putS at h
    split at h
    · rcases List.mem_cons.1 h with h | h
      · exact .inl h
      · exact .inr h
    · split at h
      · rcases List.mem_cons.1 h with h | h
        · exact .inl h
        · exact .inr (List.mem_cons_of_mem _ h)
      · rcases List.mem_cons.1 h with h | h
        · exact .inr (by rw [h]; simp)
        · rcases putS_mem h with h | h
          · exact .inl h
          · exact .inr (List.mem_cons_of_mem _ h)
theorem putS_sorted {id : Int} {s : Sg} : ∀ {l : List (Int × Sg)}, l.Pairwise (fun x y => x.1 < y.1) → (putS id s l).Pairwise (fun x y => x.1 < y.1)
  | [], _ => by simp [putS]
  | y :: l, h => by
    obtain ⟨h1, h2⟩ := List.pairwise_cons.1 h
    unfold putS
    split
    · rename_i hlt
      refine List.pairwise_cons.2 ⟨fun z hz => ?_, h⟩
      rcases List.mem_cons.1 hz with rfl | hz
      · exact hlt
      · have := h1 z hz; show id < z.1; omega
    · split
      · rename_i heq
        refine List.pairwise_cons.2 ⟨fun z hz => ?_, h2⟩
        have := h1 z hz; show id < z.1; omega
      · refine List.pairwise_cons.2 ⟨fun z hz => ?_, putS_sorted h2⟩
        rcases putS_mem hz with rfl | hz
        · show y.1 < id; omega
        · exact h1 z hz
theorem putS_get {id : Int} {s : Sg} (k : Int) : ∀ {l : List (Int × Sg)}, l.Pairwise (fun x y => x.1 < y.1) → (putS id s l).find? (fun x => x.1 == k) = if k = id then some (id, s) else l.find? (fun x => x.1 == k)
  | [], _ => by
    unfold putS
    by_cases h : k = id
    · subst h; simp
    · simp [h]; omega
  | y :: l, h => by
    obtain ⟨h1, h2⟩ := List.pairwise_cons.1 h
    unfold putS
    split
    · by_cases hk : k = id
      · subst hk; simp
      · rw [if_neg hk, List.find?_cons_of_neg (by simp; omega)]
    · split
      · rename_i heq
        by_cases hk : k = id
        · subst hk; simp
        · rw [if_neg hk, List.find?_cons_of_neg (by simp; omega), List.find?_cons_of_neg (by simp; omega)]
      · by_cases hk : k = y.1
        · rw [List.find?_cons_of_pos (by simp [hk]), if_neg (by omega), List.find?_cons_of_pos (by simp [hk])]
        · rw [List.find?_cons_of_neg (by simp; omega), putS_get k h2, List.find?_cons_of_neg (by simp; omega)]
theorem putS_len {id : Int} {s : Sg} : ∀ {l : List (Int × Sg)}, (putS id s l).length ≤ l.length + 1
  | [] => by simp [putS]
  | y :: l => by
    unfold putS
    split
    · simp
    · split
      · simp
      · have := @putS_len id s l
        simp only [List.length_cons]; omega
theorem putS_len_in {id : Int} {s : Sg} : ∀ {l : List (Int × Sg)}, l.Pairwise (fun x y => x.1 < y.1) → (∃ x ∈ l, x.1 = id) → (putS id s l).length = l.length
  | [], _, h => by obtain ⟨x, hx, _⟩ := h; cases hx
  | y :: l, h, hin => by
    obtain ⟨h1, h2⟩ := List.pairwise_cons.1 h
    unfold putS
    split
    · exfalso
      obtain ⟨x, hx, hxe⟩ := hin
      rcases List.mem_cons.1 hx with rfl | hx
      · omega
      · have := h1 x hx; omega
    · split
      · simp
      · rename_i hne
        have : ∃ x ∈ l, x.1 = id := by
          obtain ⟨x, hx, hxe⟩ := hin
          rcases List.mem_cons.1 hx with rfl | hx
          · exact absurd hxe.symm hne
          · exact ⟨x, hx, hxe⟩
        simp only [List.length_cons, putS_len_in h2 this]
end Go.X.OM

namespace Go.X.OM
open Go Go.X
def isOpen (m : Mv) : Bool := decide (m.st ≠ 3)
theorem openF_length : ∀ (l : List Mv) (i : Int), (openF i l).length = l.countP isOpen
  | [], _ => rfl
  | m :: l, i => by
    unfold openF
    rw [List.countP_cons]
    split
    · rename_i h
      rw [openF_length l (i + 1), if_neg (by simp [isOpen, h])]; rfl
    · rename_i h
      rw [List.length_cons, openF_length l (i + 1), if_pos (by simp [isOpen, h])]
theorem openF_mem : ∀ {l : List Mv} {i n : Int} {m : Mv}, (n, m) ∈ openF i l ↔ ∃ j : Nat, l[j]? = some m ∧ n = i + j ∧ m.st ≠ 3
  | [], i, n, m => by simp [openF]
  | x :: l, i, n, m => by
    unfold openF
    have ih := @openF_mem l (i + 1) n m
    split
    · rename_i h
      rw [ih]
      constructor
      · rintro ⟨j, h1, h2, h3⟩; exact ⟨j + 1, by simpa using h1, by omega, h3⟩
      · rintro ⟨j, h1, h2, h3⟩
        cases j with
        | zero => simp at h1; subst h1; exact absurd h h3
        | succ j => exact ⟨j, by simpa using h1, by omega, h3⟩
    · rename_i h
      rw [List.mem_cons, ih, Prod.mk.injEq]
      constructor
      · rintro (⟨rfl, rfl⟩ | ⟨j, h1, h2, h3⟩)
        · exact ⟨0, by simp, by omega, h⟩
        · exact ⟨j + 1, by simpa using h1, by omega, h3⟩
      · rintro ⟨j, h1, h2, h3⟩
        cases j with
        | zero => simp at h1; subst h1; exact .inl ⟨by omega, rfl⟩
        | succ j => exact .inr ⟨j, by simpa using h1, by omega, h3⟩
theorem countP_modify {f : Mv → Mv} : ∀ {l : List Mv} {i : Nat} {m : Mv}, l[i]? = some m → ((l.modify i f).countP isOpen : Int) = l.countP isOpen - (if isOpen m then 1 else 0) + (if isOpen (f m) then 1 else 0)
  | [], i, m, h => by simp at h
  | x :: l, 0, m, h => by
    have : x = m := by simpa using h
    subst this
    simp only [List.modify_zero_cons, List.countP_cons]
    split <;> split <;> omega
  | x :: l, i + 1, m, h => by
    have ih := @countP_modify f l i m (by simpa using h)
    simp only [List.modify_succ_cons, List.countP_cons]
    split <;> split at ih <;> split at ih <;> simp_all <;> omega
structure Inv (o : St) : Prop where
  gr : 2 ≤ o.groups ∧ o.groups ≤ 8
  dn : 0 ≤ o.done ∧ o.done ≤ 1099511627776
  srt : o.sagas.Pairwise (fun x y => x.1 < y.1)
  sok : ∀ x ∈ o.sagas, 1 ≤ x.1 ∧ x.1 ≤ 9999 ∧ SOk x.2
  slen : o.sagas.length ≤ 64
  mlen : o.moves.length ≤ 64
  mok : ∀ m ∈ o.moves, ROk m.r ∧ 1 ≤ m.fr ∧ m.fr < o.groups ∧ 1 ≤ m.to ∧ m.to < o.groups ∧ m.fr ≠ m.to ∧ 1 ≤ m.st ∧ m.st ≤ 3 ∧ m.data.size ≤ 65536
  cov : Cover o.parts
  prt : ∀ p ∈ o.parts, 1 ≤ p.group ∧ p.group < o.groups ∧ 1 ≤ p.epoch ∧ p.epoch ≤ 2147483648
  room : (o.parts.length : Int) + 2 * o.moves.countP isOpen ≤ 64
  apart : ∀ (i j : Nat) (m m' : Mv), o.moves[i]? = some m → o.moves[j]? = some m' → i ≠ j → m.st ≠ 3 → m'.st ≠ 3 → meets m.r m'.r = false
  own : ∀ m ∈ o.moves, m.st ≠ 3 → ∀ p ∈ o.parts, meets p.r m.r = true → p.group = m.fr
theorem Inv.init {g : Int} (h : 2 ≤ g ∧ g ≤ 8) : Inv (OM.init g) := by
  refine ⟨h, ⟨Int.le_refl 0, by show (0 : Int) ≤ 1099511627776; decide⟩, .nil, by simp [OM.init], by simp [OM.init], by simp [OM.init], by simp [OM.init], ⟨?_, by simp [OM.init]⟩, ?_, by show (1 : Int) + 2 * 0 ≤ 64; decide, by simp [OM.init], by simp [OM.init]⟩
  · exact .cons (p := ⟨⟨eps, eps⟩, 1, 1⟩) ⟨.inl rfl, .inl rfl, .inl rfl⟩ (fun _ => rfl) .nil
  · intro p hp
    simp only [OM.init, List.mem_singleton] at hp
    subst hp
    exact ⟨by decide, by show (1 : Int) < g; omega, by decide, by decide⟩
theorem get_spec {o : St} {id : Int} {s : Sg} (h : o.get id = some s) : (id, s) ∈ o.sagas := by
  unfold St.get at h
  rw [Option.map_eq_some_iff] at h
  obtain ⟨x, h1, rfl⟩ := h
  have h2 := List.find?_some h1
  have h3 := List.mem_of_find?_eq_some h1
  have : x.1 = id := by simpa using h2
  subst this; exact h3
theorem Inv.putSaga {o : St} (h : Inv o) {id : Int} {s : Sg} (hid : 1 ≤ id ∧ id ≤ 9999) (hs : SOk s) (hl : (putS id s o.sagas).length ≤ 64) : Inv { o with sagas := putS id s o.sagas } := by
  refine ⟨h.gr, h.dn, putS_sorted h.srt, fun x hx => ?_, hl, h.mlen, h.mok, h.cov, h.prt, h.room, h.apart, h.own⟩
  rcases putS_mem hx with rfl | hx
  · exact ⟨hid.1, hid.2, hs⟩
  · exact h.sok x hx
theorem Inv.setMove {o : St} (h : Inv o) {i : Nat} {m : Mv} (hm : o.moves[i]? = some m) (ho : m.st ≠ 3) {m' : Mv} (h1 : m'.r = m.r) (h2 : m'.fr = m.fr) (h3 : m'.to = m.to) (h4 : m'.st = 2) (h5 : m'.data.size ≤ 65536) : Inv { o with moves := o.moves.modify i fun _ => m' } := by
  have hmm := h.mok m (List.mem_of_getElem? hm)
  have hcnt := countP_modify (f := fun _ => m') hm
  rw [if_pos (by simp [isOpen, ho]), if_pos (by simp [isOpen, h4])] at hcnt
  have hat : ∀ {j : Nat} {x : Mv}, (o.moves.modify i fun _ => m')[j]? = some x → (j = i ∧ x = m') ∨ (j ≠ i ∧ o.moves[j]? = some x) := by
    intro j x hx
    rw [List.getElem?_modify] at hx
    by_cases hji : i = j
    · subst hji
      rw [hm] at hx
      simp at hx
      exact .inl ⟨rfl, hx.symm⟩
    · right
      refine ⟨fun e => hji e.symm, ?_⟩
      simpa [hji] using hx
  refine ⟨h.gr, h.dn, h.srt, h.sok, h.slen, by show (o.moves.modify i _).length ≤ 64; rw [List.length_modify]; exact h.mlen, ?_, h.cov, h.prt, ?_, ?_, ?_⟩
  · intro x hx
    obtain ⟨j, hj⟩ := List.mem_iff_getElem?.1 hx
    rcases hat hj with ⟨_, rfl⟩ | ⟨_, hj⟩
    · rw [h1, h2, h3]
      exact ⟨hmm.1, hmm.2.1, hmm.2.2.1, hmm.2.2.2.1, hmm.2.2.2.2.1, hmm.2.2.2.2.2.1, by omega, by omega, h5⟩
    · exact h.mok x (List.mem_of_getElem? hj)
  · have := h.room
    show (o.parts.length : Int) + 2 * ((o.moves.modify i fun _ => m').countP isOpen : Nat) ≤ 64
    omega
  · intro a b x y hx hy hab hxo hyo
    rcases hat hx with ⟨ea, ex⟩ | ⟨ha, hx1⟩
    · rcases hat hy with ⟨eb, ey⟩ | ⟨hb, hy1⟩
      · exact absurd (ea.trans eb.symm) hab
      · rw [ex, h1]; exact h.apart i b m y hm hy1 (by omega) ho hyo
    · rcases hat hy with ⟨eb, ey⟩ | ⟨hb, hy1⟩
      · rw [ey, h1]; exact h.apart a i x m hx1 hm (by omega) hxo ho
      · exact h.apart a b x y hx1 hy1 hab hxo hyo
  · intro x hx hxo p hp hmt
    obtain ⟨j, hj⟩ := List.mem_iff_getElem?.1 hx
    rcases hat hj with ⟨_, rfl⟩ | ⟨_, hj⟩
    · rw [h1] at hmt; rw [h2]; exact h.own m (List.mem_of_getElem? hm) ho p hp hmt
    · exact h.own x (List.mem_of_getElem? hj) hxo p hp hmt
theorem Inv.taken {o : St} (h : Inv o) {i : Nat} {m : Mv} (hm : o.moves[i]? = some m) (ho : m.st ≠ 3) {m' : Mv} (h1 : m'.r = m.r) (h2 : m'.fr = m.fr) (h3 : m'.to = m.to) (h4 : m'.st = 3) (h5 : m'.data.size ≤ 65536) :
    Inv { o with moves := o.moves.modify i fun _ => m', parts := moveP o.parts m.r m.to } := by
  have hmm := h.mok m (List.mem_of_getElem? hm)
  have hcnt := countP_modify (f := fun _ => m') hm
  rw [if_pos (by simp [isOpen, ho]), if_neg (by simp [isOpen, h4])] at hcnt
  obtain ⟨c1, c2, c3, c4, c5⟩ := h.cov.move hmm.1 m.to
  have hat : ∀ {j : Nat} {x : Mv}, (o.moves.modify i fun _ => m')[j]? = some x → (j = i ∧ x = m') ∨ (j ≠ i ∧ o.moves[j]? = some x) := by
    intro j x hx
    rw [List.getElem?_modify] at hx
    by_cases hji : i = j
    · subst hji
      rw [hm] at hx
      simp at hx
      exact .inl ⟨rfl, hx.symm⟩
    · right
      refine ⟨fun e => hji e.symm, ?_⟩
      simpa [hji] using hx
  refine ⟨h.gr, h.dn, h.srt, h.sok, h.slen, by show (o.moves.modify i _).length ≤ 64; rw [List.length_modify]; exact h.mlen, ?_, c1, ?_, ?_, ?_, ?_⟩
  · intro x hx
    obtain ⟨j, hj⟩ := List.mem_iff_getElem?.1 hx
    rcases hat hj with ⟨_, rfl⟩ | ⟨_, hj⟩
    · rw [h1, h2, h3]
      exact ⟨hmm.1, hmm.2.1, hmm.2.2.1, hmm.2.2.2.1, hmm.2.2.2.2.1, hmm.2.2.2.2.2.1, by omega, by omega, h5⟩
    · exact h.mok x (List.mem_of_getElem? hj)
  · intro p hp
    rcases c4 p hp with ⟨_, e1, e2, e3⟩ | ⟨q, hq, e1, e2, _⟩
    · exact ⟨by omega, by show p.group < o.groups; omega, e2, e3⟩
    · have := h.prt q hq
      rw [e1, e2]; exact this
  · have := h.room
    show ((moveP o.parts m.r m.to).length : Int) + 2 * ((o.moves.modify i fun _ => m').countP isOpen : Nat) ≤ 64
    omega
  · intro a b x y hx hy hab hxo hyo
    rcases hat hx with ⟨ea, ex⟩ | ⟨ha, hx1⟩
    · rw [ex] at hxo; exact absurd h4 hxo
    · rcases hat hy with ⟨eb, ey⟩ | ⟨hb, hy1⟩
      · rw [ey] at hyo; exact absurd h4 hyo
      · exact h.apart a b x y hx1 hy1 hab hxo hyo
  · intro x hx hxo p hp hmt
    obtain ⟨j, hj⟩ := List.mem_iff_getElem?.1 hx
    rcases hat hj with ⟨_, rfl⟩ | ⟨hji, hj⟩
    · exact absurd h4 hxo
    · have hx' := List.mem_of_getElem? hj
      have hxok := (h.mok x hx').1
      have hpo := c1.ok p hp
      rcases c4 p hp with ⟨e0, _⟩ | ⟨q, hq, e1, _, e3⟩
      · rw [e0, h.apart i j m x hm hj (fun e => hji e.symm) ho hxo] at hmt; cases hmt
      · rw [e1]
        refine h.own x hx' hxo q hq ?_
        obtain ⟨k, hk1, hk2⟩ := (meets_iff hpo hxok).1 hmt
        exact (meets_iff (h.cov.ok q hq) hxok).2 ⟨k, e3 k hk1, hk2⟩
end Go.X.OM

namespace Go.X.OM
open Go Go.X
theorem ownerF_spec {r : Rg} : ∀ {l : List Pt} {own g : Int}, (∀ p ∈ l, 1 ≤ p.group) → ownerF r own l = some g → (own ≠ 0 → g = own) ∧ ∀ p ∈ l, meets p.r r = true → p.group = g
  | [], own, g, _, h => by
    simp [ownerF] at h
    exact ⟨fun _ => h.symm, by simp⟩
  | p :: l, own, g, hg, h => by
    have hp := hg p (by simp)
    have hg' : ∀ q ∈ l, 1 ≤ q.group := fun q hq => hg q (by simp [hq])
    unfold ownerF at h
    split at h
    · split at h
      · cases h
      · rename_i hm hn
        obtain ⟨h1, h2⟩ := ownerF_spec hg' h
        have h3 := h1 (by omega)
        refine ⟨fun ho => ?_, fun q hq hqm => ?_⟩
        · have : p.group = own := Decidable.byContradiction fun hne => hn ⟨ho, hne⟩
          omega
        · rcases List.mem_cons.1 hq with rfl | hq
          · exact h3.symm
          · exact h2 q hq hqm
    · rename_i hm
      obtain ⟨h1, h2⟩ := ownerF_spec hg' h
      refine ⟨h1, fun q hq hqm => ?_⟩
      rcases List.mem_cons.1 hq with rfl | hq
      · exact absurd hqm hm
      · exact h2 q hq hqm
theorem get_of_mem {o : St} (h : o.sagas.Pairwise (fun x y => x.1 < y.1)) {id : Int} {s : Sg} (hm : (id, s) ∈ o.sagas) : o.get id = some s := by
  unfold St.get
  have : ∀ {l : List (Int × Sg)}, l.Pairwise (fun x y => x.1 < y.1) → (id, s) ∈ l → l.find? (fun x => x.1 == id) = some (id, s) := by
    intro l
    induction l with
    | nil => intro _ h; cases h
    | cons y l ih =>
      intro hl hin
      obtain ⟨h1, h2⟩ := List.pairwise_cons.1 hl
      rcases List.mem_cons.1 hin with e | hin
      · subst e; simp
      · have := h1 _ hin
        rw [List.find?_cons_of_neg (by simp; omega)]
        exact ih h2 hin
  rw [this h hm]; rfl
theorem wanted_spec {o : St} {x : Item} {c : Cmd} (h : (x, c) ∈ o.wanted) :
    (∃ id s, (id, s) ∈ o.sagas ∧ s.st < 4 ∧ x.eff = ⟨id, s.at_, phaseOf s.st⟩ ∧ x.move = 0 ∧ x.in_ = false) ∨ ∃ (j : Nat) (m : Mv), o.moves[j]? = some m ∧ m.st ≠ 3 ∧ (x, c) = mvItem (1 + j) m := by
  unfold St.wanted at h
  rcases List.mem_append.1 h with h | h
  · left
    unfold St.effs at h
    rw [List.mem_filterMap] at h
    obtain ⟨⟨id, s⟩, hy, hx⟩ := h
    unfold St.effOf Sg.next at hx
    dsimp only at hx
    split at hx
    · cases hx
    · rename_i e he
      split at he
      · rename_i hop
        simp only [Option.some.injEq] at he
        subst he
        split at hx
        · cases hx
        · simp only [Option.some.injEq, Prod.mk.injEq] at hx
          obtain ⟨rfl, _⟩ := hx
          exact ⟨id, s, hy, by simpa [Sg.open_] using hop, rfl, rfl, rfl⟩
      · cases he
  · right
    rw [List.mem_map] at h
    obtain ⟨⟨n, m⟩, hy, hx⟩ := h
    obtain ⟨j, h1, h2, h3⟩ := openF_mem.1 hy
    subst h2
    exact ⟨j, m, h1, h3, hx.symm⟩
theorem command_spec {o : St} {x : Item} {c : Cmd} (h : o.command x = some c) : (x, c) ∈ o.wanted := by
  unfold St.command at h
  rw [Option.map_eq_some_iff] at h
  obtain ⟨y, h1, rfl⟩ := h
  have h2 := List.find?_some h1
  have h3 := List.mem_of_find?_eq_some h1
  have : x = y.1 := by simpa using h2
  subst this; exact h3
theorem mvItem_fst {n : Int} {m : Mv} : (mvItem n m).1 = if m.st = 2 then ⟨zEff, n, true, m.to⟩ else ⟨zEff, n, false, m.fr⟩ := by
  unfold mvItem; split <;> rfl
theorem Inv.doStart {o : St} (h : Inv o) {c : Cmd} (hs : 1 ≤ c.saga ∧ c.saga ≤ 9999) (hd : c.d.ok = true) : Inv (o.doStart c).1 := by
  unfold St.doStart
  split
  · exact h
  · split
    · exact h
    · rename_i hl
      have hdn := h.dn
      have := Dfn.steps_pos hd
      refine h.putSaga hs (SOk.mk (s := ⟨c.d, 1, 0, false, 0, o.now, 0⟩) hd ⟨Int.le_refl 0, (by decide : (0 : Int) ≤ 21)⟩ ?_ ⟨Int.le_refl 1, (by decide : (1 : Int) ≤ 5)⟩ (Int.le_refl 0) (fun _ => rfl) (fun _ => ?_) (fun h => by cases h) (fun h => ?_) (fun _ _ => rfl)) ?_
      · show 0 ≤ o.now ∧ o.now ≤ 2147483648
        unfold St.now; omega
      · show (0 : Int) < c.d.steps.length
        omega
      · exfalso
        have h : (1 : Int) = 3 ∨ (1 : Int) = 5 := h
        omega
      · have := @putS_len c.saga ⟨c.d, 1, 0, false, 0, o.now, 0⟩ o.sagas
        omega
theorem Inv.doCancel {o : St} (h : Inv o) {c : Cmd} : Inv (o.doCancel c).1 := by
  unfold St.doCancel
  split
  · exact h
  · rename_i s hs
    have hm := get_spec hs
    obtain ⟨h1, h2, h3⟩ := h.sok _ hm
    split
    · rename_i hst
      refine h.putSaga ⟨h1, h2⟩ ⟨h3.d, h3.tried, h3.began, h3.st, h3.at0, h3.atE, h3.at1, fun _ => ⟨?_, ?_⟩, h3.err, h3.err0⟩ ?_
      · show s.st ≠ 2; omega
      · show s.st ≠ 4; omega
      · rw [putS_len_in h.srt ⟨_, hm, rfl⟩]; exact h.slen
    · exact h
theorem Inv.doMove {o : St} (h : Inv o) {c : Cmd} (hr : c.r.ok = true) (hg : 1 ≤ c.group) : Inv (o.doMove c).1 := by
  have hr' := ok_iff.1 hr
  unfold St.doMove
  split
  · exact h
  · rename_i hgr
    split
    · exact h
    · rename_i fr hfr
      split
      · exact h
      · rename_i hne
        split
        · exact h
        · rename_i hb
          split
          · exact h
          · rename_i hroom
            split
            · exact h
            · rename_i hml
              have hown := (ownerF_spec (fun p hp => (h.prt p hp).1) hfr).2
              obtain ⟨p, hp, hpr⟩ := h.cov.at c.r.lo
              have hpm : meets p.r c.r = true := (meets_iff (h.cov.ok p hp) hr').2 ⟨_, hpr, inR_lo hr'⟩
              have hpg := hown p hp hpm
              have hpp := h.prt p hp
              have hopen : ∀ (i : Nat) (m : Mv), o.moves[i]? = some m → m.st ≠ 3 → meets m.r c.r = false := by
                intro i m hm hmo
                have hin : ((1 + i : Int), m) ∈ o.openM := openF_mem.2 ⟨i, hm, rfl, hmo⟩
                cases hx : meets m.r c.r with
                | false => rfl
                | true => exact absurd (List.any_eq_true.2 ⟨_, hin, hx⟩) hb
              have hroom' : (o.parts.length : Int) + 2 * o.moves.countP isOpen + 2 ≤ 64 := by
                unfold St.room St.openM at hroom
                rw [openF_length] at hroom
                omega
              have hat : ∀ {j : Nat} {x : Mv}, (o.moves ++ [(⟨c.r, fr, c.group, 1, eps⟩ : Mv)])[j]? = some x → (j = o.moves.length ∧ x = ⟨c.r, fr, c.group, 1, eps⟩) ∨ (j < o.moves.length ∧ o.moves[j]? = some x) := by
                intro j x hx
                rw [List.getElem?_append] at hx
                split at hx
                · exact .inr ⟨‹_›, hx⟩
                · rename_i hj
                  left
                  have : j - o.moves.length = 0 := by
                    cases hz : j - o.moves.length with
                    | zero => rfl
                    | succ q => rw [hz] at hx; simp at hx
                  rw [this] at hx
                  simp at hx
                  exact ⟨by omega, hx.symm⟩
              refine ⟨h.gr, h.dn, h.srt, h.sok, h.slen, ?_, ?_, h.cov, h.prt, ?_, ?_, ?_⟩
              · show (o.moves ++ [_]).length ≤ 64
                simp; omega
              · intro x hx
                obtain ⟨j, hj⟩ := List.mem_iff_getElem?.1 hx
                rcases hat hj with ⟨_, rfl⟩ | ⟨_, hj⟩
                · refine ⟨hr', ?_, ?_, hg, ?_, ?_, Int.le_refl 1, (by decide : (1 : Int) ≤ 3), (by decide : eps.size ≤ 65536)⟩
                  · show 1 ≤ fr; omega
                  · show fr < o.groups; omega
                  · show c.group < o.groups; omega
                  · show fr ≠ c.group; omega
                · exact h.mok x (List.mem_of_getElem? hj)
              · show (o.parts.length : Int) + 2 * ((o.moves ++ [(⟨c.r, fr, c.group, 1, eps⟩ : Mv)]).countP isOpen : Nat) ≤ 64
                rw [List.countP_append]
                have : [(⟨c.r, fr, c.group, 1, eps⟩ : Mv)].countP isOpen = 1 := by simp [isOpen]
                omega
              · intro i j x y hx hy hij hxo hyo
                rcases hat hx with ⟨hi, rfl⟩ | ⟨hi, hx⟩
                · rcases hat hy with ⟨hj, rfl⟩ | ⟨hj, hy⟩
                  · exact absurd (hi.trans hj.symm) hij
                  · rw [meets_comm hr' (h.mok y (List.mem_of_getElem? hy)).1]
                    exact hopen j y hy hyo
                · rcases hat hy with ⟨hj, rfl⟩ | ⟨hj, hy⟩
                  · exact hopen i x hx hxo
                  · exact h.apart i j x y hx hy hij hxo hyo
              · intro x hx hxo q hq hqm
                obtain ⟨j, hj⟩ := List.mem_iff_getElem?.1 hx
                rcases hat hj with ⟨_, rfl⟩ | ⟨_, hj⟩
                · exact hown q hq hqm
                · exact h.own x (List.mem_of_getElem? hj) hxo q hq hqm
theorem Inv.doResult {o : St} (h : Inv o) {c : Cmd} (hr : 0 ≤ c.res ∧ c.res ≤ 18) (hd : c.data.size ≤ 65536) : Inv (o.doResult c).1 := by
  unfold St.doResult
  split
  · exact h
  · rename_i hc
    obtain ⟨cc, hcc⟩ : ∃ cc, o.command c.item = some cc := by
      cases hx : o.command c.item with
      | none => exact absurd (.inl (by rw [hx]; rfl)) hc
      | some cc => exact ⟨cc, rfl⟩
    rcases wanted_spec (command_spec hcc) with ⟨id, s, h1, h2, h3, h4, h5⟩ | ⟨j, m, h1, h2, h3⟩
    · rw [if_pos h4]
      have hid : c.item.eff.saga = id := by rw [h3]
      rw [hid, get_of_mem h.srt h1]
      obtain ⟨k1, k2, k3⟩ := h.sok _ h1
      refine h.putSaga ⟨k1, k2⟩ (k3.follow h2 hr) ?_
      rw [putS_len_in h.srt ⟨_, h1, rfl⟩]; exact h.slen
    · have hfst : c.item = (mvItem (1 + j) m).1 := by rw [← h3]
      rw [mvItem_fst] at hfst
      by_cases h2m : m.st = 2
      · rw [if_pos h2m] at hfst
        have e1 : c.item.move = 1 + j := by rw [hfst]
        have e2 : c.item.in_ = true := by rw [hfst]
        have e3 : (c.item.move - 1).toNat = j := by omega
        rw [if_neg (by omega), if_neg (by rw [e2]; simp), e3, h1]
        have := h.taken h1 h2 (m' := { m with st := 3, data := eps }) rfl rfl rfl rfl (by decide : eps.size ≤ 65536)
        unfold setM
        rw [e3]
        have hmod : (o.moves.modify j fun m => { m with st := 3, data := eps }) = o.moves.modify j fun _ => { m with st := 3, data := eps } := by
          refine List.ext_getElem? fun i => ?_
          rw [List.getElem?_modify, List.getElem?_modify]
          by_cases hij : j = i
          · subst hij; rw [h1]; simp
          · simp [hij]
        show Inv { o with moves := o.moves.modify j fun m => { m with st := 3, data := eps }, parts := moveP o.parts m.r m.to }
        rw [hmod]; exact this
      · rw [if_neg h2m] at hfst
        have e1 : c.item.move = 1 + j := by rw [hfst]
        have e2 : c.item.in_ = false := by rw [hfst]
        have e3 : (c.item.move - 1).toNat = j := by omega
        rw [if_neg (by omega), if_pos e2]
        have := h.setMove h1 h2 (m' := { m with st := 2, data := c.data }) rfl rfl rfl rfl hd
        unfold setM
        rw [e3]
        have hmod : (o.moves.modify j fun m => { m with st := 2, data := c.data }) = o.moves.modify j fun _ => { m with st := 2, data := c.data } := by
          refine List.ext_getElem? fun i => ?_
          rw [List.getElem?_modify, List.getElem?_modify]
          by_cases hij : j = i
          · subst hij; rw [h1]; simp
          · simp [hij]
        show Inv { o with moves := o.moves.modify j fun m => { m with st := 2, data := c.data } }
        rw [hmod]; exact this
theorem Inv.dox {o : St} (h : Inv o) (c : Cmd) : Inv (o.dox c).1 := by
  unfold St.dox
  split
  · exact h
  · rename_i hok
    have hok : c.ok = true := by simpa using hok
    unfold Cmd.ok at hok
    split
    · exact h
    · rename_i h0
      rw [if_neg h0] at hok
      split
      · rename_i h11
        rw [if_pos h11] at hok
        simp only [Bool.and_eq_true, decide_eq_true_eq] at hok
        exact h.doStart ⟨hok.1.1.1.2, hok.1.1.2⟩ hok.1.2
      · rename_i h11
        rw [if_neg h11] at hok
        split
        · exact h
        · rename_i h12
          split
          · exact h.doCancel
          · rename_i h13
            rw [if_neg (by omega)] at hok
            split
            · rename_i h14
              rw [if_pos h14] at hok
              simp only [Bool.and_eq_true, decide_eq_true_eq] at hok
              exact h.doMove hok.1.1.1.2 hok.1.1.2
            · rename_i h14
              rw [if_neg h14] at hok
              split at hok
              · simp only [Bool.and_eq_true, decide_eq_true_eq] at hok
                exact h.doResult ⟨hok.1.1.1.2, hok.1.1.2⟩ hok.1.2
              · cases hok
theorem Inv.apply {o : St} (h : Inv o) (c : Cmd) : Inv (o.apply c).1 := by
  have h1 := h.dox c
  have hd := h.dn
  exact ⟨h1.gr, by show 0 ≤ min (o.done + 1) 1099511627776 ∧ min (o.done + 1) 1099511627776 ≤ 1099511627776; omega, h1.srt, h1.sok, h1.slen, h1.mlen, h1.mok, h1.cov, h1.prt, h1.room, h1.apart, h1.own⟩
end Go.X.OM

namespace Go.X.OM
open Go Go.X
theorem ahead_refl (a : Int) : ahead a a := .inl rfl
theorem ahead_trans {a b c : Int} (h : ahead a b) (h' : ahead b c) : ahead a c := by unfold ahead at *; omega
theorem get_put {o : St} (h : o.sagas.Pairwise (fun x y => x.1 < y.1)) {id k : Int} {s : Sg} : ({ o with sagas := putS id s o.sagas } : St).get k = if k = id then some s else o.get k := by
  unfold St.get
  show ((putS id s o.sagas).find? fun x => x.1 == k).map (·.2) = _
  rw [putS_get k h]
  split <;> rfl
theorem dox_ahead {o : St} (h : Inv o) (c : Cmd) {id : Int} {s : Sg} (hs : o.get id = some s) : ∃ s', (o.dox c).1.get id = some s' ∧ ahead s.st s'.st := by
  have keep : ∃ s', o.get id = some s' ∧ ahead s.st s'.st := ⟨s, hs, ahead_refl _⟩
  unfold St.dox
  split
  · exact keep
  · split
    · exact keep
    · split
      · unfold St.doStart
        split
        · exact keep
        · rename_i hn
          split
          · exact keep
          · dsimp only
            rw [get_put h.srt]
            split
            · rename_i e; subst e; rw [hs] at hn; exact absurd rfl hn
            · exact keep
      · split
        · exact keep
        · split
          · unfold St.doCancel
            split
            · exact keep
            · rename_i s1 hs1
              split
              · rename_i hst
                dsimp only
                rw [get_put h.srt]
                split
                · rename_i e
                  subst e
                  rw [hs] at hs1
                  cases hs1
                  exact ⟨_, rfl, ahead_refl _⟩
                · exact keep
              · exact keep
          · split
            · unfold St.doMove
              split
              · exact keep
              · split
                · exact keep
                · split
                  · exact keep
                  · split
                    · exact keep
                    · split
                      · exact keep
                      · split <;> exact keep
            · unfold St.doResult
              split
              · exact keep
              · rename_i hc
                split
                · rename_i hmv
                  split
                  · exact keep
                  · rename_i s1 hs1
                    dsimp only
                    rw [get_put h.srt]
                    split
                    · rename_i e
                      subst e
                      rw [hs] at hs1
                      cases hs1
                      obtain ⟨cc, hcc⟩ : ∃ cc, o.command c.item = some cc := by
                        cases hx : o.command c.item with
                        | none => exact absurd (.inl (by rw [hx]; rfl)) hc
                        | some cc => exact ⟨cc, rfl⟩
                      rcases wanted_spec (command_spec hcc) with ⟨id, s2, h1, h2, h3, h4, h5⟩ | ⟨j, m, h1, h2, h3⟩
                      · have hid : c.item.eff.saga = id := by rw [h3]
                        rw [hid, get_of_mem h.srt h1] at hs
                        cases hs
                        exact ⟨_, rfl, follow_ahead (h.sok _ h1).2.2 h2⟩
                      · exfalso
                        have hfst : c.item = (mvItem (1 + j) m).1 := by rw [← h3]
                        rw [mvItem_fst] at hfst
                        split at hfst <;> (rw [hfst] at hmv; dsimp only at hmv; omega)
                    · exact keep
                · split
                  · exact keep
                  · split <;> exact keep
theorem apply_ahead {o : St} (h : Inv o) (c : Cmd) {id : Int} {s : Sg} (hs : o.get id = some s) : ∃ s', (o.apply c).1.get id = some s' ∧ ahead s.st s'.st := dox_ahead h c hs
inductive Reach : St → St → Prop
  | refl (o : St) : Reach o o
  | step {o o' : St} (c : Cmd) (h : Reach o o') : Reach o (o'.apply c).1
theorem Reach.inv {o o' : St} (h : Reach o o') (hi : Inv o) : Inv o' := by
  induction h with
  | refl => exact hi
  | step c _ ih => exact ih.apply c
theorem Reach.trans {o o' o2 : St} (h : Reach o o') (h' : Reach o' o2) : Reach o o2 := by
  induction h' with
  | refl => exact h
  | step c _ ih => exact .step c ih
theorem Reach.ahead {o o' : St} (h : Reach o o') (hi : Inv o) {id : Int} {s : Sg} (hs : o.get id = some s) : ∃ s', o'.get id = some s' ∧ OM.ahead s.st s'.st := by
  induction h with
  | refl => exact ⟨s, hs, ahead_refl _⟩
  | step c h ih =>
    obtain ⟨s1, h1, h2⟩ := ih
    obtain ⟨s2, h3, h4⟩ := apply_ahead (h.inv hi) c h1
    exact ⟨s2, h3, ahead_trans h2 h4⟩
def St.told (o : St) (id : Int) : Rep := match o.get id with | none => ⟨5, 0⟩ | some s => ⟨0, s.st⟩
end Go.X.OM

namespace Go.X.OM
open Go Go.X
def Sg.rank (s : Sg) : Int := if s.st = 1 then s.at_ else if s.st = 2 then 100 + s.at_ else if s.st = 3 then 208 - s.at_ else 300
theorem follow_rank {s : Sg} (h : SOk s) (ho : s.st < 4) {res now : Int} : s.rank ≤ (s.follow res now).rank ∧ (res = 0 → s.rank < (s.follow res now).rank) := by
  have hd := Dfn.steps_pos h.d
  have ha := h.at1 ho
  have h0 := h.at0
  have hst := h.st
  have hto : ∀ st a why : Int, (s.to st a why).rank = if st = 1 then a else if st = 2 then 100 + a else if st = 3 then 208 - a else 300 := fun _ _ _ => rfl
  unfold Sg.follow
  by_cases h1 : s.st = 1
  · rw [if_pos h1]
    have hr : s.rank = s.at_ := by unfold Sg.rank; rw [if_pos h1]
    unfold Sg.forward
    split
    · rename_i hc
      have hre : res ≠ 0 := by intro e; subst e; simp at hc
      split
      · rw [hto, hr]; simp; omega
      · rw [hto, hr]; simp; omega
    · split
      · rw [hto, hr]; simp; omega
      · split
        · rw [hto, hr]; simp; omega
        · split
          · rename_i hsh
            have hre : res ≠ 0 := by intro e; subst e; simp [isShort] at hsh
            split
            · refine ⟨Int.le_refl _, fun e => absurd e hre⟩
            · rw [hto, hr]; simp; omega
          · split
            · rw [hto, hr]; simp; omega
            · rw [hto, hr]; simp; omega
  · rw [if_neg h1]
    by_cases h2 : s.st = 2
    · rw [if_pos h2]
      have hr : s.rank = 100 + s.at_ := by unfold Sg.rank; rw [if_neg h1, if_pos h2]
      unfold Sg.free
      split
      · rename_i hc
        have hre : res ≠ 0 := by intro e; subst e; simp at hc
        exact ⟨Int.le_refl _, fun e => absurd e hre⟩
      · split
        · rw [hto, hr]; simp; omega
        · rw [hto, hr]; simp; omega
    · rw [if_neg h2]
      have h3 : s.st = 3 := by omega
      have hr : s.rank = 208 - s.at_ := by unfold Sg.rank; rw [if_neg h1, if_neg h2, if_pos h3]
      unfold Sg.undo
      split
      · rename_i hc
        have hre : res ≠ 0 := by intro e; subst e; simp at hc
        exact ⟨Int.le_refl _, fun e => absurd e hre⟩
      · split
        · rw [hto, hr]; simp; omega
        · rw [hto, hr]; simp; omega
structure Later (o o' : St) : Prop where
  sagas : ∀ id s, o.get id = some s → ∃ s', o'.get id = some s' ∧ s.rank ≤ s'.rank
  moves : ∀ (j : Nat) m, o.moves[j]? = some m → ∃ m', o'.moves[j]? = some m' ∧ m.st ≤ m'.st
theorem Later.refl (o : St) : Later o o := ⟨fun _ s h => ⟨s, h, Int.le_refl _⟩, fun _ m h => ⟨m, h, Int.le_refl _⟩⟩
theorem Later.trans {a b c : St} (h : Later a b) (h' : Later b c) : Later a c :=
  ⟨fun id s hs => by
    obtain ⟨s1, h1, h2⟩ := h.sagas id s hs
    obtain ⟨s2, h3, h4⟩ := h'.sagas id s1 h1
    exact ⟨s2, h3, Int.le_trans h2 h4⟩, fun j m hm => by
    obtain ⟨m1, h1, h2⟩ := h.moves j m hm
    obtain ⟨m2, h3, h4⟩ := h'.moves j m1 h1
    exact ⟨m2, h3, Int.le_trans h2 h4⟩⟩
theorem Later.put {o : St} (h : Inv o) {id : Int} {s : Sg} (hs : ∀ s0, o.get id = some s0 → s0.rank ≤ s.rank) : Later o { o with sagas := putS id s o.sagas } := by
  refine ⟨fun k s1 h1 => ?_, fun _ m h => ⟨m, h, Int.le_refl _⟩⟩
  rw [get_put h.srt]
  split
  · rename_i e; subst e; exact ⟨s, rfl, hs s1 h1⟩
  · exact ⟨s1, h1, Int.le_refl _⟩
theorem modify_later {l : List Mv} {i : Nat} {f : Mv → Mv} (hf : ∀ m, l[i]? = some m → m.st ≤ (f m).st) : ∀ (j : Nat) m, l[j]? = some m → ∃ m', (l.modify i f)[j]? = some m' ∧ m.st ≤ m'.st := by
  intro j m hm
  rw [List.getElem?_modify, hm]
  by_cases hij : i = j
  · subst hij; exact ⟨f m, by simp, hf m hm⟩
  · exact ⟨m, by simp [hij], Int.le_refl _⟩
theorem dox_later {o : St} (h : Inv o) (c : Cmd) : Later o (o.dox c).1 := by
  unfold St.dox
  split
  · exact .refl o
  · split
    · exact .refl o
    · split
      · unfold St.doStart
        split
        · exact .refl o
        · rename_i hn
          split
          · exact .refl o
          · exact Later.put h fun s0 hs0 => by rw [hs0] at hn; exact absurd rfl hn
      · split
        · exact .refl o
        · split
          · unfold St.doCancel
            split
            · exact .refl o
            · rename_i s1 hs1
              split
              · exact Later.put h fun s0 hs0 => by rw [hs1] at hs0; cases hs0; exact Int.le_refl _
              · exact .refl o
          · split
            · unfold St.doMove
              split
              · exact .refl o
              · split
                · exact .refl o
                · split
                  · exact .refl o
                  · split
                    · exact .refl o
                    · split
                      · exact .refl o
                      · split
                        · exact .refl o
                        · refine ⟨fun _ s h => ⟨s, h, Int.le_refl _⟩, fun j m hm => ⟨m, ?_, Int.le_refl _⟩⟩
                          show (o.moves ++ [_])[j]? = some m
                          rw [List.getElem?_append_left (List.getElem?_eq_some_iff.1 hm).1]; exact hm
            · unfold St.doResult
              split
              · exact .refl o
              · rename_i hc
                obtain ⟨cc, hcc⟩ : ∃ cc, o.command c.item = some cc := by
                  cases hx : o.command c.item with
                  | none => exact absurd (.inl (by rw [hx]; rfl)) hc
                  | some cc => exact ⟨cc, rfl⟩
                rcases wanted_spec (command_spec hcc) with ⟨id, s2, h1, h2, h3, h4, h5⟩ | ⟨j, m, h1, h2, h3⟩
                · rw [if_pos h4]
                  have hid : c.item.eff.saga = id := by rw [h3]
                  rw [hid, get_of_mem h.srt h1]
                  exact Later.put h fun s0 hs0 => by
                    rw [get_of_mem h.srt h1] at hs0; cases hs0
                    exact (follow_rank (h.sok _ h1).2.2 h2).1
                · have hfst : c.item = (mvItem (1 + j) m).1 := by rw [← h3]
                  have e1 : c.item.move = 1 + j := by rw [hfst, mvItem_fst]; split <;> rfl
                  have e3 : (c.item.move - 1).toNat = j := by omega
                  have hst := (h.mok m (List.mem_of_getElem? h1)).2.2.2.2.2.2
                  rw [if_neg (by omega)]
                  split
                  · rename_i hin
                    have : m.st ≠ 2 := by
                      intro e
                      rw [hfst, mvItem_fst, if_pos e] at hin; cases hin
                    refine ⟨fun _ s h => ⟨s, h, Int.le_refl _⟩, ?_⟩
                    unfold setM
                    rw [e3]
                    refine modify_later fun m0 hm0 => ?_
                    rw [h1] at hm0; cases hm0
                    show m.st ≤ 2
                    omega
                  · rw [e3, h1]
                    refine ⟨fun _ s h => ⟨s, h, Int.le_refl _⟩, ?_⟩
                    unfold setM
                    rw [e3]
                    refine modify_later fun m0 hm0 => ?_
                    rw [h1] at hm0; cases hm0
                    show m.st ≤ 3
                    omega
theorem apply_later {o : St} (h : Inv o) (c : Cmd) : Later o (o.apply c).1 := ⟨(dox_later h c).sagas, (dox_later h c).moves⟩
theorem Reach.later {o o' : St} (h : Reach o o') (hi : Inv o) : Later o o' := by
  induction h with
  | refl => exact .refl _
  | step c h ih => exact ih.trans (apply_later (h.inv hi) c)
end Go.X.OM

namespace Go.X.OM
open Go Go.X
theorem steps_name : ∀ {l b : List Stp}, stepsOk b l = true → ∀ s ∈ l, nmOk s.key = true ∧ s.delta ≠ 0 ∧ -1152921504606846976 ≤ s.delta ∧ s.delta ≤ 1152921504606846976
  | [], _, _, s, h => by cases h
  | x :: l, b, h, s, hs => by
    unfold stepsOk at h
    simp only [Bool.and_eq_true, Bool.not_eq_true', decide_eq_true_eq, beq_eq_false_iff_ne] at h
    obtain ⟨⟨⟨⟨⟨h1, h2⟩, h3⟩, h4⟩, h5⟩, h6⟩ := h
    rcases List.mem_cons.1 hs with rfl | hs
    · exact ⟨h2, h3, h4, h5⟩
    · exact steps_name h6 s hs
theorem stepAt_in {s : Sg} (h : SOk s) (ho : s.st < 4) : s.stepAt ∈ s.d.steps := by
  have h1 := h.at1 ho
  have h0 := h.at0
  unfold Sg.stepAt
  have hlt : s.at_.toNat < s.d.steps.length := by omega
  rw [List.getElem?_eq_getElem hlt]
  exact List.getElem_mem hlt
theorem stepAt_name {s : Sg} (h : SOk s) (ho : s.st < 4) : nmOk s.stepAt.key = true :=
  (steps_name (Dfn.steps_pos h.d).2.2.2.2.2.2.2 _ (stepAt_in h ho)).1
theorem part_spec {o : St} (h : Cover o.parts) {k : Str} (hk : nmOk k = true) : ∃ p, o.part k = some p ∧ p ∈ o.parts ∧ inR p.r k := by
  obtain ⟨p, hp, hin⟩ := h.at k
  unfold St.part
  cases hf : o.parts.find? fun p => p.r.has k with
  | none =>
    rw [List.find?_eq_none] at hf
    exact absurd ((has_iff (h.ok p hp) hk).2 hin) (hf p hp)
  | some q =>
    have h1 := List.find?_some hf
    have h2 := List.mem_of_find?_eq_some hf
    exact ⟨q, rfl, h2, (has_iff (h.ok q h2) hk).1 h1⟩
theorem route_ok {o : St} (h : Inv o) {k : Str} (hk : nmOk k = true) : 1 ≤ o.route k ∧ o.route k < o.groups := by
  obtain ⟨p, h1, h2, _⟩ := part_spec h.cov hk
  unfold St.route
  rw [h1]
  have := h.prt p h2
  exact ⟨this.1, this.2.1⟩
theorem phase_bd (st : Int) : 1 ≤ phaseOf st ∧ phaseOf st ≤ 3 := by unfold phaseOf; split <;> (try split) <;> omega
theorem effs_spec {o : St} {x : Item} {c : Cmd} (h : (x, c) ∈ o.effs) : ∃ id s, (id, s) ∈ o.sagas ∧ s.st < 4 ∧ o.busy s.stepAt.key = false ∧ x = ⟨⟨id, s.at_, phaseOf s.st⟩, 0, false, o.route s.stepAt.key⟩ ∧ c = { zCmd with kind := 1, eff := ⟨id, s.at_, phaseOf s.st⟩, key := s.stepAt.key, delta := s.stepAt.delta } := by
  unfold St.effs at h
  rw [List.mem_filterMap] at h
  obtain ⟨⟨id, s⟩, hy, hx⟩ := h
  unfold St.effOf Sg.next at hx
  dsimp only at hx
  split at hx
  · cases hx
  · rename_i e he
    split at he
    · rename_i hop
      simp only [Option.some.injEq] at he
      subst he
      split at hx
      · cases hx
      · rename_i hb
        simp only [Option.some.injEq, Prod.mk.injEq] at hx
        obtain ⟨rfl, rfl⟩ := hx
        exact ⟨id, s, hy, by simpa [Sg.open_] using hop, by simpa using hb, rfl, rfl⟩
    · cases he
theorem item_ok {o : St} (h : Inv o) {x : Item} {c : Cmd} (hx : (x, c) ∈ o.wanted) : x.ok = true := by
  have hgr := h.gr
  rcases List.mem_append.1 (show (x, c) ∈ o.effs ++ o.openM.map fun x => mvItem x.1 x.2 from hx) with he | hm
  · obtain ⟨id, s, h1, h2, _, rfl, _⟩ := effs_spec he
    obtain ⟨k1, k2, k3⟩ := h.sok _ h1
    have k3 : SOk s := k3
    have hd := Dfn.steps_pos k3.d
    have h3 := k3.at1 h2
    have h4 := k3.at0
    have h5 := phase_bd s.st
    have h6 := route_ok h (stepAt_name k3 h2)
    dsimp only at k1 k2
    unfold Item.ok
    dsimp only
    rw [if_pos ⟨rfl, rfl⟩]
    simp only [Bool.and_eq_true, decide_eq_true_eq]
    refine ⟨⟨by omega, by omega⟩, ⟨⟨⟨⟨k1, k2⟩, h4⟩, by omega⟩, h5.1⟩, h5.2⟩
  · rw [List.mem_map] at hm
    obtain ⟨⟨n, m⟩, hy, hxe⟩ := hm
    obtain ⟨j, h1, h2, h3⟩ := openF_mem.1 hy
    dsimp only at hxe
    have hfst : x = (mvItem n m).1 := by rw [hxe]
    have hlt := (List.getElem?_eq_some_iff.1 h1).1
    have hml := h.mlen
    have hmm := h.mok m (List.mem_of_getElem? h1)
    rw [mvItem_fst] at hfst
    split at hfst
    · subst hfst
      unfold Item.ok
      dsimp only
      rw [if_neg (by rintro ⟨_, h⟩; cases h)]
      simp only [Bool.and_eq_true, decide_eq_true_eq, beq_self_eq_true, and_true]
      exact ⟨⟨by omega, by omega⟩, by omega, by omega⟩
    · subst hfst
      unfold Item.ok
      dsimp only
      rw [if_neg (by rintro ⟨h, _⟩; omega)]
      simp only [Bool.and_eq_true, decide_eq_true_eq, beq_self_eq_true, and_true]
      exact ⟨⟨by omega, by omega⟩, by omega, by omega⟩
def resC (x : Item) (res : Int) (d : Str) : Cmd := { zCmd with kind := 15, item := x, res := res, data := d }
theorem resC_ok {x : Item} {res : Int} {d : Str} (hx : x.ok = true) (hr : 0 ≤ res ∧ res ≤ 18) (hd : d.size ≤ 65536) : (resC x res d).ok = true := by
  unfold Cmd.ok
  show (if (15 : Int) = 0 then _ else if (15 : Int) = 11 then _ else if (15 : Int) = 12 ∨ (15 : Int) = 13 then _ else if (15 : Int) = 14 then _ else if (15 : Int) = 15 then (x.ok && decide (0 ≤ res) && decide (res ≤ 18) && decide (d.size ≤ 65536) && (resC x res d == resC x res d)) else false) = true
  rw [if_neg (by decide), if_neg (by decide), if_neg (by decide), if_neg (by decide), if_pos rfl]
  simp only [Bool.and_eq_true, decide_eq_true_eq, beq_self_eq_true, and_true]
  exact ⟨⟨⟨hx, hr.1⟩, hr.2⟩, hd⟩
end Go.X.OM

namespace Go.X.OM
open Go Go.X
def Sg.steps (s : Sg) : Int := if s.st = 1 then 2 * s.d.steps.length - s.at_ else if s.st = 2 then s.d.steps.length - s.at_ else if s.st = 3 then s.at_ + 1 else 0
theorem follow_d (s : Sg) (res now : Int) : (s.follow res now).d = s.d := by
  unfold Sg.follow Sg.forward Sg.free Sg.undo
  repeat' split
  all_goals rfl
def sumS (l : List (Int × Sg)) : Int := l.foldr (fun x a => x.2.steps + a) 0
def Mv.left (m : Mv) : Int := if 3 - m.st < 0 then 0 else 3 - m.st
def sumM (l : List Mv) : Int := l.foldr (fun m a => m.left + a) 0
def St.most (o : St) : Int := sumS o.sagas + sumM o.moves
def St.quiet (o : St) : Bool := o.sagas.all (fun x => !x.2.open_) && o.openM.isEmpty
end Go.X.OM
