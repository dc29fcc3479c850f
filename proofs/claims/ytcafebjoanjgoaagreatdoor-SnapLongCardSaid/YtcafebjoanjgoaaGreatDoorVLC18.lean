/- Lemmas for the claim (part 18); no condition of its own. -/
import Derived.Test.YtcafebjoanjgoaaGreatDoorVLC10
import Derived.Test.YtcafebjoanjgoaaGreatDoorVLC11
import Derived.Test.YtcafebjoanjgoaaGreatDoorVLC12
import Derived.Test.YtcafebjoanjgoaaGreatDoorVLC13
import Derived.Test.YtcafebjoanjgoaaGreatDoorVLC14
import Derived.Test.YtcafebjoanjgoaaGreatDoorVLC15
import Derived.Test.YtcafebjoanjgoaaGreatDoorVLC16
import Derived.Test.YtcafebjoanjgoaaGreatDoorVLC17
set_option linter.all false
set_option linter.unusedVariables false
set_option linter.unusedSimpArgs false
set_option linter.unnecessarySimpa false
set_option linter.all false
set_option maxRecDepth 1000000
set_option maxHeartbeats 0
namespace Go.Proofs.YtcafebjoanjgoaaGreatDoor
open Go Go.X Go.Y
theorem run0 (m : Nat) (h : m % 8 = 0) : outV (runC PG DD 1000000 3 [.v (.int .u8 (.ofNat m))] S0) = some (.bool true) := by
  have hC := pC0 m
  cases hR : evC PG DD 999998 FCC (csb (csb bodyL)) (EB m 0 (.negSucc 3)) [] S0 with
  | no e => rw [hR] at hC; cases hC
  | ok cr =>
    rw [hR] at hC
    have hB : evC PG DD 1000000 FCC bodyL (E0 m) [] S0 = .ok cr := seq_ok (n := 999999) (by kernel_rfl) (pA m) (seq_ok (n := 999998) (s := S0) (c := csb bodyL) (by kernel_rfl) (pB0 m h) hR)
    have hc : runC PG DD 1000000 3 [.v (.int .u8 (.ofNat m))] S0 = callEnd PG DD 3 S0 FI3 cr := call_ok (s := S0) (fi := FI3) (by kernel_rfl) (by kernel_rfl) (by kernel_rfl) hB rfl
    rw [hc]
    unfold okR at hC
    simp only at hC
    split at hC
    · rename_i ov hov
      rw [hov]
      split at hC
      · rename_i b hb
        subst hC
        show val (fun _ => none) ov.v = _
        rw [hb]
        rfl
      · cases hC
    · cases hC
theorem run1 (m : Nat) (h : m % 8 = 1) : outV (runC PG DD 1000000 3 [.v (.int .u8 (.ofNat m))] S0) = some (.bool true) := by
  have hC := pC1 m
  cases hR : evC PG DD 999998 FCC (csb (csb bodyL)) (EB m 1 (.negSucc 2)) [] S0 with
  | no e => rw [hR] at hC; cases hC
  | ok cr =>
    rw [hR] at hC
    have hB : evC PG DD 1000000 FCC bodyL (E0 m) [] S0 = .ok cr := seq_ok (n := 999999) (by kernel_rfl) (pA m) (seq_ok (n := 999998) (s := S0) (c := csb bodyL) (by kernel_rfl) (pB1 m h) hR)
    have hc : runC PG DD 1000000 3 [.v (.int .u8 (.ofNat m))] S0 = callEnd PG DD 3 S0 FI3 cr := call_ok (s := S0) (fi := FI3) (by kernel_rfl) (by kernel_rfl) (by kernel_rfl) hB rfl
    rw [hc]
    unfold okR at hC
    simp only at hC
    split at hC
    · rename_i ov hov
      rw [hov]
      split at hC
      · rename_i b hb
        subst hC
        show val (fun _ => none) ov.v = _
        rw [hb]
        rfl
      · cases hC
    · cases hC
theorem run2 (m : Nat) (h : m % 8 = 2) : outV (runC PG DD 1000000 3 [.v (.int .u8 (.ofNat m))] S0) = some (.bool true) := by
  have hC := pC2 m
  cases hR : evC PG DD 999998 FCC (csb (csb bodyL)) (EB m 2 (.negSucc 1)) [] S0 with
  | no e => rw [hR] at hC; cases hC
  | ok cr =>
    rw [hR] at hC
    have hB : evC PG DD 1000000 FCC bodyL (E0 m) [] S0 = .ok cr := seq_ok (n := 999999) (by kernel_rfl) (pA m) (seq_ok (n := 999998) (s := S0) (c := csb bodyL) (by kernel_rfl) (pB2 m h) hR)
    have hc : runC PG DD 1000000 3 [.v (.int .u8 (.ofNat m))] S0 = callEnd PG DD 3 S0 FI3 cr := call_ok (s := S0) (fi := FI3) (by kernel_rfl) (by kernel_rfl) (by kernel_rfl) hB rfl
    rw [hc]
    unfold okR at hC
    simp only at hC
    split at hC
    · rename_i ov hov
      rw [hov]
      split at hC
      · rename_i b hb
        subst hC
        show val (fun _ => none) ov.v = _
        rw [hb]
        rfl
      · cases hC
    · cases hC
theorem run3 (m : Nat) (h : m % 8 = 3) : outV (runC PG DD 1000000 3 [.v (.int .u8 (.ofNat m))] S0) = some (.bool true) := by
  have hC := pC3 m
  cases hR : evC PG DD 999998 FCC (csb (csb bodyL)) (EB m 3 (.negSucc 0)) [] S0 with
  | no e => rw [hR] at hC; cases hC
  | ok cr =>
    rw [hR] at hC
    have hB : evC PG DD 1000000 FCC bodyL (E0 m) [] S0 = .ok cr := seq_ok (n := 999999) (by kernel_rfl) (pA m) (seq_ok (n := 999998) (s := S0) (c := csb bodyL) (by kernel_rfl) (pB3 m h) hR)
    have hc : runC PG DD 1000000 3 [.v (.int .u8 (.ofNat m))] S0 = callEnd PG DD 3 S0 FI3 cr := call_ok (s := S0) (fi := FI3) (by kernel_rfl) (by kernel_rfl) (by kernel_rfl) hB rfl
    rw [hc]
    unfold okR at hC
    simp only at hC
    split at hC
    · rename_i ov hov
      rw [hov]
      split at hC
      · rename_i b hb
        subst hC
        show val (fun _ => none) ov.v = _
        rw [hb]
        rfl
      · cases hC
    · cases hC
theorem run4 (m : Nat) (h : m % 8 = 4) : outV (runC PG DD 1000000 3 [.v (.int .u8 (.ofNat m))] S0) = some (.bool true) := by
  have hC := pC4 m
  cases hR : evC PG DD 999998 FCC (csb (csb bodyL)) (EB m 4 (.ofNat 0)) [] S0 with
  | no e => rw [hR] at hC; cases hC
  | ok cr =>
    rw [hR] at hC
    have hB : evC PG DD 1000000 FCC bodyL (E0 m) [] S0 = .ok cr := seq_ok (n := 999999) (by kernel_rfl) (pA m) (seq_ok (n := 999998) (s := S0) (c := csb bodyL) (by kernel_rfl) (pB4 m h) hR)
    have hc : runC PG DD 1000000 3 [.v (.int .u8 (.ofNat m))] S0 = callEnd PG DD 3 S0 FI3 cr := call_ok (s := S0) (fi := FI3) (by kernel_rfl) (by kernel_rfl) (by kernel_rfl) hB rfl
    rw [hc]
    unfold okR at hC
    simp only at hC
    split at hC
    · rename_i ov hov
      rw [hov]
      split at hC
      · rename_i b hb
        subst hC
        show val (fun _ => none) ov.v = _
        rw [hb]
        rfl
      · cases hC
    · cases hC
theorem run5 (m : Nat) (h : m % 8 = 5) : outV (runC PG DD 1000000 3 [.v (.int .u8 (.ofNat m))] S0) = some (.bool true) := by
  have hC := pC5 m
  cases hR : evC PG DD 999998 FCC (csb (csb bodyL)) (EB m 5 (.ofNat 1)) [] S0 with
  | no e => rw [hR] at hC; cases hC
  | ok cr =>
    rw [hR] at hC
    have hB : evC PG DD 1000000 FCC bodyL (E0 m) [] S0 = .ok cr := seq_ok (n := 999999) (by kernel_rfl) (pA m) (seq_ok (n := 999998) (s := S0) (c := csb bodyL) (by kernel_rfl) (pB5 m h) hR)
    have hc : runC PG DD 1000000 3 [.v (.int .u8 (.ofNat m))] S0 = callEnd PG DD 3 S0 FI3 cr := call_ok (s := S0) (fi := FI3) (by kernel_rfl) (by kernel_rfl) (by kernel_rfl) hB rfl
    rw [hc]
    unfold okR at hC
    simp only at hC
    split at hC
    · rename_i ov hov
      rw [hov]
      split at hC
      · rename_i b hb
        subst hC
        show val (fun _ => none) ov.v = _
        rw [hb]
        rfl
      · cases hC
    · cases hC
theorem run6 (m : Nat) (h : m % 8 = 6) : outV (runC PG DD 1000000 3 [.v (.int .u8 (.ofNat m))] S0) = some (.bool true) := by
  have hC := pC6 m
  cases hR : evC PG DD 999998 FCC (csb (csb bodyL)) (EB m 6 (.ofNat 2)) [] S0 with
  | no e => rw [hR] at hC; cases hC
  | ok cr =>
    rw [hR] at hC
    have hB : evC PG DD 1000000 FCC bodyL (E0 m) [] S0 = .ok cr := seq_ok (n := 999999) (by kernel_rfl) (pA m) (seq_ok (n := 999998) (s := S0) (c := csb bodyL) (by kernel_rfl) (pB6 m h) hR)
    have hc : runC PG DD 1000000 3 [.v (.int .u8 (.ofNat m))] S0 = callEnd PG DD 3 S0 FI3 cr := call_ok (s := S0) (fi := FI3) (by kernel_rfl) (by kernel_rfl) (by kernel_rfl) hB rfl
    rw [hc]
    unfold okR at hC
    simp only at hC
    split at hC
    · rename_i ov hov
      rw [hov]
      split at hC
      · rename_i b hb
        subst hC
        show val (fun _ => none) ov.v = _
        rw [hb]
        rfl
      · cases hC
    · cases hC
theorem run7 (m : Nat) (h : m % 8 = 7) : outV (runC PG DD 1000000 3 [.v (.int .u8 (.ofNat m))] S0) = some (.bool true) := by
  have hC := pC7 m
  cases hR : evC PG DD 999998 FCC (csb (csb bodyL)) (EB m 7 (.ofNat 3)) [] S0 with
  | no e => rw [hR] at hC; cases hC
  | ok cr =>
    rw [hR] at hC
    have hB : evC PG DD 1000000 FCC bodyL (E0 m) [] S0 = .ok cr := seq_ok (n := 999999) (by kernel_rfl) (pA m) (seq_ok (n := 999998) (s := S0) (c := csb bodyL) (by kernel_rfl) (pB7 m h) hR)
    have hc : runC PG DD 1000000 3 [.v (.int .u8 (.ofNat m))] S0 = callEnd PG DD 3 S0 FI3 cr := call_ok (s := S0) (fi := FI3) (by kernel_rfl) (by kernel_rfl) (by kernel_rfl) hB rfl
    rw [hc]
    unfold okR at hC
    simp only at hC
    split at hC
    · rename_i ov hov
      rw [hov]
      split at hC
      · rename_i b hb
        subst hC
        show val (fun _ => none) ov.v = _
        rw [hb]
        rfl
      · cases hC
    · cases hC
theorem runs (m : Nat) : outV (runC PG DD 1000000 3 [.v (.int .u8 (.ofNat m))] S0) = some (.bool true) := by
  have h : m % 8 = 0 ∨ m % 8 = 1 ∨ m % 8 = 2 ∨ m % 8 = 3 ∨ m % 8 = 4 ∨ m % 8 = 5 ∨ m % 8 = 6 ∨ m % 8 = 7 := by omega
  rcases h with h | h | h | h | h | h | h | h
  · exact run0 m h
  · exact run1 m h
  · exact run2 m h
  · exact run3 m h
  · exact run4 m h
  · exact run5 m h
  · exact run6 m h
  · exact run7 m h
end Go.Proofs.YtcafebjoanjgoaaGreatDoor
