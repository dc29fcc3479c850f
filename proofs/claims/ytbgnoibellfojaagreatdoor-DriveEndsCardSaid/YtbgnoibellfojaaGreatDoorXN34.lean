/- Contracts and lemmas for the claim (part XN34); no condition of its own. -/
import Derived.Test.YtbgnoibellfojaaGreatDoorXM7
import Derived.Shelf.Strings.Repeat
import Derived.Shelf.Lay
import Derived.Ground.NamesProg
import Derived.Lib.Agree
set_option linter.all false
set_option linter.unusedVariables false
set_option linter.unusedSimpArgs false
set_option linter.unnecessarySimpa false
namespace Go.Proofs.YtbgnoibellfojaaGreatDoor
open Go Go.Shelf Go.RowKit Go.X
set_option maxRecDepth 100000
set_option maxHeartbeats 0
shelf_lay Lays.n105 Nm 105 at Tryz as Tryz.laysRepeat
theorem Tryz.extraB : Builder.Extra Tryz.prog Tryz.laysRepeat_ren where
  sizeBuilder := by kernel_rfl
  liesBuilder := by kernel_rfl
  t5 := Tryz.laysRepeat.t5
  a5 := Tryz.laysRepeat.a5
  z5 := Tryz.laysRepeat.z5
  v5 := Tryz.laysRepeat.v5
  infoByte := by kernel_rfl
  cellsByte := by kernel_rfl
  sizeByte := by kernel_rfl
  neB5 := by decide
theorem Tryz.fRepeat : Tryz.laysRepeat_ren.f 105 = 21 := by kernel_rfl
theorem repeat21 {c : Nat} (hc : c ≤ 1000000) (w : World) : Pu Tryz.prog 21 #[.string ⟨#[120]⟩, .int .i64 (c : Nat)] w (.string ⟨(List.replicate c (120 : UInt8)).toArray⟩) := by
  have h := Any.strings_Repeat Tryz.laysRepeat Tryz.extraB ⟨#[120]⟩ c w (by omega) (by show 1 * c ≤ _; omega)
  rw [Tryz.fRepeat] at h
  have e : Lib.repeatL (ByteArray.mk #[120]).data.toList c = List.replicate c 120 := by
    have := Lib.repeatL_replicate 120 1 c
    rw [Nat.mul_one] at this
    simpa using this
  rw [e] at h
  unfold Pu CT
  exact ⟨⟨Tryz.f21, Tryz.func21, rfl, by kernel_rfl⟩, h⟩
end Go.Proofs.YtbgnoibellfojaaGreatDoor
