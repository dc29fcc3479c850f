/- Lemmas for the claim (part 6); no condition of its own. -/
import Derived.Test.YtcafebjoanjgoaaGreatDoorVLC04
set_option linter.all false
set_option linter.unusedVariables false
set_option linter.unusedSimpArgs false
set_option linter.unnecessarySimpa false
noncomputable section
namespace Go.Y
open Go Go.X
/-! a run, cut into pieces -/
def csa : Code → Code | .seq a _ => a | c => c
def csb : Code → Code | .seq _ b => b | c => c
def cbk : Code → Code | .block _ b => b | c => c
def cid : Code → Nat | .block i _ => i | _ => 0
def clp : Code → Code | .loop b => b | c => c
def cth : Code → Code | .cond _ a _ => a | c => c
def cel : Code → Code | .cond _ _ b => b | c => c
def bodyOf (f : Func) : Code := match f.body with | some b => b | none => .skip
section
variable {pg : Pg} {D : List Nat} {n : Nat} {fc : FC} {c : Code} {e : Tr} {ds : List CD} {s : Sn} {R : Rs CR}
theorem seq_ok (hc : c = .seq (csa c) (csb c)) {e1 : Tr} {ds1 : List CD} {rw1 : CH} {nx1 : Nat} {md1 : List Nat} (h1 : evC pg D n fc (csa c) e ds s = .ok ⟨.nrm, e1, ds1, rw1, nx1, md1⟩) (h2 : evC pg D n fc (csb c) e1 ds1 ⟨rw1, s.ro, nx1, md1⟩ = R) :
    evC pg D (n + 1) fc c e ds s = R := by
  rw [hc]
  show codeC pg D (evC pg D n) fc (.seq (csa c) (csb c)) e ds s = R
  simp only [codeC, h1]
  exact h2
theorem seq_end (hc : c = .seq (csa c) (csb c)) {ex : Ex} (hex : isNrm ex = false) {e1 : Tr} {ds1 : List CD} {rw1 : CH} {nx1 : Nat} {md1 : List Nat} (h1 : evC pg D n fc (csa c) e ds s = .ok ⟨ex, e1, ds1, rw1, nx1, md1⟩) :
    evC pg D (n + 1) fc c e ds s = .ok ⟨ex, e1, ds1, rw1, nx1, md1⟩ := by
  rw [hc]
  show codeC pg D (evC pg D n) fc (.seq (csa c) (csb c)) e ds s = _
  simp only [codeC, h1]
  cases ex <;> first | (cases hex; done) | rfl
/-- a block that ends as it does -/
theorem block_ok (hc : c = .block (cid c) (cbk c)) {ex : Ex} (hex : (match ex with | .exit _ => false | _ => true) = true) {e1 : Tr} {ds1 : List CD} {rw1 : CH} {nx1 : Nat} {md1 : List Nat} (h1 : evC pg D n fc (cbk c) e ds s = .ok ⟨ex, e1, ds1, rw1, nx1, md1⟩) :
    evC pg D (n + 1) fc c e ds s = .ok ⟨ex, e1, ds1, rw1, nx1, md1⟩ := by
  rw [hc]
  show codeC pg D (evC pg D n) fc (.block (cid c) (cbk c)) e ds s = _
  simp only [codeC, h1]
  cases ex <;> first | (cases hex; done) | rfl
theorem block_out (hc : c = .block (cid c) (cbk c)) {j : Nat} (hj : Nat.beq j (cid c) = true) {e1 : Tr} {ds1 : List CD} {rw1 : CH} {nx1 : Nat} {md1 : List Nat} (h1 : evC pg D n fc (cbk c) e ds s = .ok ⟨.exit j, e1, ds1, rw1, nx1, md1⟩) :
    evC pg D (n + 1) fc c e ds s = .ok ⟨.nrm, e1, ds1, rw1, nx1, md1⟩ := by
  rw [hc]
  show codeC pg D (evC pg D n) fc (.block (cid c) (cbk c)) e ds s = _
  simp only [codeC, h1, hj]
theorem loop_ok (hc : c = .loop (clp c)) (h : loopC (evC pg D n) fc (clp c) 1000000 e ds s = R) : evC pg D (n + 1) fc c e ds s = R := by
  rw [hc]
  exact h
theorem loop_step {rec : Rec} {b : Code} {f : Nat} {e1 : Tr} {ds1 : List CD} {rw1 : CH} {nx1 : Nat} {md1 : List Nat} (h1 : rec fc b e ds s = .ok ⟨.nrm, e1, ds1, rw1, nx1, md1⟩) (h2 : loopC rec fc b f e1 ds1 ⟨rw1, s.ro, nx1, md1⟩ = R) : loopC rec fc b (f + 1) e ds s = R := by
  have : loopC rec fc b (f + 1) e ds s = (match rec fc b e ds s with
    | .no er => .no er
    | .ok ⟨ex, e, ds, rw, nx, md⟩ => match ex with
      | .nrm => loopC rec fc b f e ds ⟨rw, s.ro, nx, md⟩
      | ex => .ok ⟨ex, e, ds, rw, nx, md⟩) := rfl
  rw [this, h1]
  exact h2
theorem loop_end {rec : Rec} {b : Code} {f : Nat} {ex : Ex} (hex : isNrm ex = false) {e1 : Tr} {ds1 : List CD} {rw1 : CH} {nx1 : Nat} {md1 : List Nat} (h1 : rec fc b e ds s = .ok ⟨ex, e1, ds1, rw1, nx1, md1⟩) : loopC rec fc b (f + 1) e ds s = .ok ⟨ex, e1, ds1, rw1, nx1, md1⟩ := by
  have : loopC rec fc b (f + 1) e ds s = (match rec fc b e ds s with
    | .no er => .no er
    | .ok ⟨ex, e, ds, rw, nx, md⟩ => match ex with
      | .nrm => loopC rec fc b f e ds ⟨rw, s.ro, nx, md⟩
      | ex => .ok ⟨ex, e, ds, rw, nx, md⟩) := rfl
  rw [this, h1]
  cases ex <;> first | (cases hex; done) | rfl
/-- what a call does behind its body -/
def callEnd (pg : Pg) (D : List Nat) (f : Nat) (s : Sn) (fi : FI) : CR → Rs O2
  | ⟨ex, e', ds, rw, nx, md⟩ => match isExit ex, dsC D ds rw with
        | true, _ => .no [301, f]
        | _, none => .no [302, f]
        | false, some rw => match resC e' ⟨rw, s.ro, nx, []⟩ pg.T fi.rs with
          | none => .no [303, f]
          | some l => match s with
            | ⟨_, _, nx0, md0⟩ => frcV (oneV l) (fun x =>
              match oldOnes nx0 md with
              | [] => frcH (gcH nx0 x [] rw) (fun rw => .ok ⟨x, rw, nx, md0⟩)
              | old => frcH (gcH nx0 x old rw) (fun rw => .ok ⟨x, rw, nx, undM old md0⟩))
theorem call_ok {rec : Rec} {f : Nat} {args : List CV} {fi : FI} (hM : memoF f args pg.M = none) (hF : pg.F.get f = some fi) (hle : Nat.ble (lenN args) fi.n = true) {r : CR} {R : Rs O2} (h : rec ⟨f, fi, none⟩ fi.body (argsT 0 args .nil) [] ⟨s.rw, s.ro, s.nx, []⟩ = .ok r) (h2 : callEnd pg D f s fi r = R) : callC pg D rec f args s = R := by
  rw [← h2]
  obtain ⟨ex, e', ds, rw, nx, md⟩ := r
  simp only [callC, hM, hF, hle, h]
  rfl
end
end Go.Y
end
