/- Contracts and lemmas for the claim (part XIN7); no condition of its own. -/
import Derived.Test.YtbgnoibellfojaaGreatDoorXT
set_option linter.all false
set_option linter.unusedVariables false
set_option linter.unusedSimpArgs false
set_option linter.unnecessarySimpa false
namespace Go.Proofs.YtbgnoibellfojaaGreatDoor
open Go Go.X
set_option maxRecDepth 100000
theorem in26 {n n' : Nat} {x : Code} {rs : List ResultVar} {W : World} {S : Nat → Prop} {r : Option Nat} {args : List SV} {H : List Blk} {nx : K1} (hn : Tryz.f26.ntmps = n') (hlen : Nat.ble (lenL args) n' = true) (hb : Tryz.f26.body = some x) (hrs : Tryz.f26.results.toList = rs)
    (h : ∀ A : Ass, snocF H (.ext 0 A) (fun H' => envF 0 args (fun E => Run ⟨Tryz.prog, TB, n', W, S, none, TBok⟩ x E H' (inK ⟨Tryz.prog, TB, n', W, S, none, TBok⟩ A rs nx)))) :
    CallK ⟨Tryz.prog, TB, n, W, S, r, TBok⟩ 26 args H nx := CallK.inline Tryz.func26 hb rfl hn hlen hrs h
theorem in27 {n n' : Nat} {x : Code} {rs : List ResultVar} {W : World} {S : Nat → Prop} {r : Option Nat} {args : List SV} {H : List Blk} {nx : K1} (hn : Tryz.f27.ntmps = n') (hlen : Nat.ble (lenL args) n' = true) (hb : Tryz.f27.body = some x) (hrs : Tryz.f27.results.toList = rs)
    (h : ∀ A : Ass, snocF H (.ext 0 A) (fun H' => envF 0 args (fun E => Run ⟨Tryz.prog, TB, n', W, S, none, TBok⟩ x E H' (inK ⟨Tryz.prog, TB, n', W, S, none, TBok⟩ A rs nx)))) :
    CallK ⟨Tryz.prog, TB, n, W, S, r, TBok⟩ 27 args H nx := CallK.inline Tryz.func27 hb rfl hn hlen hrs h
theorem in32 {n n' : Nat} {x : Code} {rs : List ResultVar} {W : World} {S : Nat → Prop} {r : Option Nat} {args : List SV} {H : List Blk} {nx : K1} (hn : Tryz.f32.ntmps = n') (hlen : Nat.ble (lenL args) n' = true) (hb : Tryz.f32.body = some x) (hrs : Tryz.f32.results.toList = rs)
    (h : ∀ A : Ass, snocF H (.ext 0 A) (fun H' => envF 0 args (fun E => Run ⟨Tryz.prog, TB, n', W, S, none, TBok⟩ x E H' (inK ⟨Tryz.prog, TB, n', W, S, none, TBok⟩ A rs nx)))) :
    CallK ⟨Tryz.prog, TB, n, W, S, r, TBok⟩ 32 args H nx := CallK.inline Tryz.func32 hb rfl hn hlen hrs h
theorem in33 {n n' : Nat} {x : Code} {rs : List ResultVar} {W : World} {S : Nat → Prop} {r : Option Nat} {args : List SV} {H : List Blk} {nx : K1} (hn : Tryz.f33.ntmps = n') (hlen : Nat.ble (lenL args) n' = true) (hb : Tryz.f33.body = some x) (hrs : Tryz.f33.results.toList = rs)
    (h : ∀ A : Ass, snocF H (.ext 0 A) (fun H' => envF 0 args (fun E => Run ⟨Tryz.prog, TB, n', W, S, none, TBok⟩ x E H' (inK ⟨Tryz.prog, TB, n', W, S, none, TBok⟩ A rs nx)))) :
    CallK ⟨Tryz.prog, TB, n, W, S, r, TBok⟩ 33 args H nx := CallK.inline Tryz.func33 hb rfl hn hlen hrs h
theorem in34 {n n' : Nat} {x : Code} {rs : List ResultVar} {W : World} {S : Nat → Prop} {r : Option Nat} {args : List SV} {H : List Blk} {nx : K1} (hn : Tryz.f34.ntmps = n') (hlen : Nat.ble (lenL args) n' = true) (hb : Tryz.f34.body = some x) (hrs : Tryz.f34.results.toList = rs)
    (h : ∀ A : Ass, snocF H (.ext 0 A) (fun H' => envF 0 args (fun E => Run ⟨Tryz.prog, TB, n', W, S, none, TBok⟩ x E H' (inK ⟨Tryz.prog, TB, n', W, S, none, TBok⟩ A rs nx)))) :
    CallK ⟨Tryz.prog, TB, n, W, S, r, TBok⟩ 34 args H nx := CallK.inline Tryz.func34 hb rfl hn hlen hrs h
theorem in22 {n n' : Nat} {x : Code} {rs : List ResultVar} {W : World} {S : Nat → Prop} {r : Option Nat} {args : List SV} {H : List Blk} {nx : K1} (hn : Tryz.f22.ntmps = n') (hlen : Nat.ble (lenL args) n' = true) (hb : Tryz.f22.body = some x) (hrs : Tryz.f22.results.toList = rs)
    (h : ∀ A : Ass, snocF H (.ext 0 A) (fun H' => envF 0 args (fun E => Run ⟨Tryz.prog, TB, n', W, S, none, TBok⟩ x E H' (inK ⟨Tryz.prog, TB, n', W, S, none, TBok⟩ A rs nx)))) :
    CallK ⟨Tryz.prog, TB, n, W, S, r, TBok⟩ 22 args H nx := CallK.inline Tryz.func22 hb rfl hn hlen hrs h
theorem in23 {n n' : Nat} {x : Code} {rs : List ResultVar} {W : World} {S : Nat → Prop} {r : Option Nat} {args : List SV} {H : List Blk} {nx : K1} (hn : Tryz.f23.ntmps = n') (hlen : Nat.ble (lenL args) n' = true) (hb : Tryz.f23.body = some x) (hrs : Tryz.f23.results.toList = rs)
    (h : ∀ A : Ass, snocF H (.ext 0 A) (fun H' => envF 0 args (fun E => Run ⟨Tryz.prog, TB, n', W, S, none, TBok⟩ x E H' (inK ⟨Tryz.prog, TB, n', W, S, none, TBok⟩ A rs nx)))) :
    CallK ⟨Tryz.prog, TB, n, W, S, r, TBok⟩ 23 args H nx := CallK.inline Tryz.func23 hb rfl hn hlen hrs h
theorem in21 {n n' : Nat} {x : Code} {rs : List ResultVar} {W : World} {S : Nat → Prop} {r : Option Nat} {args : List SV} {H : List Blk} {nx : K1} (hn : Tryz.f21.ntmps = n') (hlen : Nat.ble (lenL args) n' = true) (hb : Tryz.f21.body = some x) (hrs : Tryz.f21.results.toList = rs)
    (h : ∀ A : Ass, snocF H (.ext 0 A) (fun H' => envF 0 args (fun E => Run ⟨Tryz.prog, TB, n', W, S, none, TBok⟩ x E H' (inK ⟨Tryz.prog, TB, n', W, S, none, TBok⟩ A rs nx)))) :
    CallK ⟨Tryz.prog, TB, n, W, S, r, TBok⟩ 21 args H nx := CallK.inline Tryz.func21 hb rfl hn hlen hrs h
theorem in28 {n n' : Nat} {x : Code} {rs : List ResultVar} {W : World} {S : Nat → Prop} {r : Option Nat} {args : List SV} {H : List Blk} {nx : K1} (hn : Tryz.f28.ntmps = n') (hlen : Nat.ble (lenL args) n' = true) (hb : Tryz.f28.body = some x) (hrs : Tryz.f28.results.toList = rs)
    (h : ∀ A : Ass, snocF H (.ext 0 A) (fun H' => envF 0 args (fun E => Run ⟨Tryz.prog, TB, n', W, S, none, TBok⟩ x E H' (inK ⟨Tryz.prog, TB, n', W, S, none, TBok⟩ A rs nx)))) :
    CallK ⟨Tryz.prog, TB, n, W, S, r, TBok⟩ 28 args H nx := CallK.inline Tryz.func28 hb rfl hn hlen hrs h
theorem in30 {n n' : Nat} {x : Code} {rs : List ResultVar} {W : World} {S : Nat → Prop} {r : Option Nat} {args : List SV} {H : List Blk} {nx : K1} (hn : Tryz.f30.ntmps = n') (hlen : Nat.ble (lenL args) n' = true) (hb : Tryz.f30.body = some x) (hrs : Tryz.f30.results.toList = rs)
    (h : ∀ A : Ass, snocF H (.ext 0 A) (fun H' => envF 0 args (fun E => Run ⟨Tryz.prog, TB, n', W, S, none, TBok⟩ x E H' (inK ⟨Tryz.prog, TB, n', W, S, none, TBok⟩ A rs nx)))) :
    CallK ⟨Tryz.prog, TB, n, W, S, r, TBok⟩ 30 args H nx := CallK.inline Tryz.func30 hb rfl hn hlen hrs h
theorem in10 {n n' : Nat} {x : Code} {rs : List ResultVar} {W : World} {S : Nat → Prop} {r : Option Nat} {args : List SV} {H : List Blk} {nx : K1} (hn : Tryz.f10.ntmps = n') (hlen : Nat.ble (lenL args) n' = true) (hb : Tryz.f10.body = some x) (hrs : Tryz.f10.results.toList = rs)
    (h : ∀ A : Ass, snocF H (.ext 0 A) (fun H' => envF 0 args (fun E => Run ⟨Tryz.prog, TB, n', W, S, none, TBok⟩ x E H' (inK ⟨Tryz.prog, TB, n', W, S, none, TBok⟩ A rs nx)))) :
    CallK ⟨Tryz.prog, TB, n, W, S, r, TBok⟩ 10 args H nx := CallK.inline Tryz.func10 hb rfl hn hlen hrs h
theorem in67 {n n' : Nat} {x : Code} {rs : List ResultVar} {W : World} {S : Nat → Prop} {r : Option Nat} {args : List SV} {H : List Blk} {nx : K1} (hn : Tryz.f67.ntmps = n') (hlen : Nat.ble (lenL args) n' = true) (hb : Tryz.f67.body = some x) (hrs : Tryz.f67.results.toList = rs)
    (h : ∀ A : Ass, snocF H (.ext 0 A) (fun H' => envF 0 args (fun E => Run ⟨Tryz.prog, TB, n', W, S, none, TBok⟩ x E H' (inK ⟨Tryz.prog, TB, n', W, S, none, TBok⟩ A rs nx)))) :
    CallK ⟨Tryz.prog, TB, n, W, S, r, TBok⟩ 67 args H nx := CallK.inline Tryz.func67 hb rfl hn hlen hrs h
end Go.Proofs.YtbgnoibellfojaaGreatDoor
