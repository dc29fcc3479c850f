/- Contracts and lemmas for the claim (part 12); no condition of its own. -/
import Derived.Test.YthmjkaljkgjicaaGreatDoorYDC1111
import Derived.Test.YthmjkaljkgjicaaGreatDoorYDC1110
import Derived.Test.YthmjkaljkgjicaaGreatDoorYDC1104
set_option linter.all false
set_option linter.unusedVariables false
set_option linter.unusedSimpArgs false
set_option linter.unnecessarySimpa false
set_option linter.all false
namespace Go.Proofs.YthmjkaljkgjicaaGreatDoor
open Go Go.X
set_option maxRecDepth 100000
set_option maxHeartbeats 0
theorem tickCallK {nn : Nat} {W : World} {S : Nat → Prop} {r : Option Nat} {H R : List Blk} {nx : K1} {X : List OI} (hX : Asc X) (hXl : X.length ≤ 1000) {g : WG} {ks : List Int} (hks : KeysOf (wf g) ks) {n me tk T : Nat} (hT : tk + 1 = T) {gs : Int} {d mp cap i9 i4 i3 : Nat} {c3 : List SV} {a : Option Addr} (hn : 1 ≤ n ∧ n ≤ 7) (hgs : 2 < gs) (hme : me < n) (htk : tk ≤ 999999) (hgt : ∀ x ∈ X, ∀ a l, g x.num = some (a, l) → l ≤ tk ∧ a ≤ 999999)
    (hs : Sel H [.ext i9 (SlA 47 6 a X.length cap (X.flatMap OI.cells)), .ext i4 (MpK mp (wf g)), .blk i3 d c3 80] R) (e3 : denL c3 = denL (DC n gs tk mp))
    (hx : ∀ z : Option Addr × Nat, nx (.v (.slice z.1 (X.filter (dueB (keepG X g) T)).length z.2)) (.ext 370 (SlA 38 9 z.1 (X.filter (dueB (keepG X g) T)).length z.2 (((X.filter (dueB (keepG X g) T)).map (mV (keepG X g) me n)).flatMap MV.cells)) :: .ext i9 (SlA 47 6 a X.length cap (X.flatMap OI.cells)) :: .ext i4 (MpK mp (wf (askG (X.filter (dueB (keepG X g) T)) (keepG X g) T (X.filter (dueB (keepG X g) T)).length))) :: .blk i3 d (DC n gs T mp) 80 :: R)) :
    CallK ⟨Tryz.prog, TB, nn, W, S, r, TBok⟩ 7 [.v (pv d), .v (.int .i64 me), .v (.slice a X.length cap), .fn 8 []] H nx := by
  subst hT
  refine CallK.frL (v := fun z : Option Addr × Nat => .slice z.1 (X.filter (dueB (keepG X g) (tk + 1))).length z.2) (L0 := [.ext 9 (SlA 47 6 a X.length cap (X.flatMap OI.cells)), .ext 4 (MpK mp (wf g)), .blk 3 d (DC n gs tk mp) 80]) hs (HSub.ext (fun _ _ h => h) (HSub.ext (fun _ _ h => h) (HSub.keep e3 HSub.nil))) (fun _ w _ => tick1007 hX hXl hks hn hgs hme htk hgt w)
    (M' := fun z => [.ext 370 (SlA 38 9 z.1 (X.filter (dueB (keepG X g) (tk + 1))).length z.2 (((X.filter (dueB (keepG X g) (tk + 1))).map (mV (keepG X g) me n)).flatMap MV.cells)), .ext i9 (SlA 47 6 a X.length cap (X.flatMap OI.cells)), .ext i4 (MpK mp (wf (askG (X.filter (dueB (keepG X g) (tk + 1))) (keepG X g) (tk + 1) (X.filter (dueB (keepG X g) (tk + 1))).length))), .blk i3 d (DC n gs (tk + 1 : Nat) mp) 80]) (fun z => HSub.ext (fun _ _ h => by rw [← mC_flat]; exact h) (HSub.ext (fun _ _ h => h) (HSub.ext (fun _ _ h => h) (HSub.keep rfl HSub.nil)))) hx
theorem waitingCallK {nn : Nat} {W : World} {S : Nat → Prop} {r : Option Nat} {H R : List Blk} {nx : K1} {f : Int → Option Value} {ks : List Int} (hks : KeysOf f ks) {m : Nat} (hm : ks.length = m) {n gs tk : Int} {d mp i4 i3 : Nat} {c3 : List SV}
    (hs : Sel H [.ext i4 (MpK mp f), .blk i3 d c3 80] R) (e3 : denL c3 = denL (DC n gs tk mp))
    (hx : ∀ z : Option Addr × Nat, nx (.v (.slice z.1 m z.2)) (.ext 360 (SlA 3 1 z.1 m z.2 (ks.map (Value.int .i64))) :: .ext i4 (MpK mp f) :: .blk i3 d (DC n gs tk mp) 80 :: R)) :
    CallK ⟨Tryz.prog, TB, nn, W, S, r, TBok⟩ 9 [.v (pv d)] H nx := by
  subst hm
  exact CallK.frL (v := fun z : Option Addr × Nat => .slice z.1 ks.length z.2) (L0 := [.ext 4 (MpK mp f), .blk 3 d (DC n gs tk mp) 80]) hs (HSub.ext (fun _ _ h => h) (HSub.keep e3 HSub.nil)) (fun _ w _ => waiting1009 hks w)
    (M' := fun z => [.ext 360 (SlA 3 1 z.1 ks.length z.2 (ks.map (Value.int .i64))), .ext i4 (MpK mp f), .blk i3 d (DC n gs tk mp) 80]) (fun z => HSub.ext (fun _ _ h => h) (HSub.ext (fun _ _ h => h) (HSub.keep rfl HSub.nil))) hx
theorem eqMsgsN {L : List MV} {n : Nat} (hn : L.length = n) {a a' : Option Addr} {cap cap' : Nat} {w : World} (hr : RdS w 38 9 a n cap (L.flatMap MV.cells)) (hr' : RdS w 38 9 a' n cap' (L.flatMap MV.cells)) (hl : n ≤ 1000) :
    Pu Tryz.prog 15 #[.slice a n cap, .slice a' n cap', .func (.func 16) #[] #[]] w (.bool true) := by subst hn; exact eqMsgs1015 hr hr' hl
theorem eqIntsN {L : List Int} {n : Nat} (hn : L.length = n) {a a' : Option Addr} {cap cap' : Nat} {w : World} (hr : RdS w 3 1 a n cap (L.map (Value.int .i64))) (hr' : RdS w 3 1 a' n cap' (L.map (Value.int .i64))) (hl : n ≤ 1000) :
    Pu Tryz.prog 13 #[.slice a n cap, .slice a' n cap'] w (.bool true) := by subst hn; exact eqInts1013 hr hr' hl
theorem setL20 {ks : List Nat} {a : Option Addr} {cap : Nat} {w : World} (hr : RdB w a ((ks.take (Nat.min ks.length 20)).map fun (k : Nat) => Value.int .u16 k)) (hk : ∀ k ∈ ks, k ≤ 65535) :
    FrZ Tryz.prog 5 #[.slice a ((Nat.min ks.length 20)) cap] w emp (fun z : Option Addr × Nat × Set5 => .slice z.1 z.2.2.1.length z.2.1) (fun z => SlA 47 6 z.1 z.2.2.1.length z.2.1 (z.2.2.1.flatMap OI.cells)) := by
  have hm : (ks.take (Nat.min ks.length 20)).length = Nat.min ks.length 20 := by rw [List.length_take]; exact Nat.min_eq_left (Nat.min_le_left _ _)
  have h := set1005 (ks := ks.take (Nat.min ks.length 20)) (a := a) (cap := cap) (w := w) hr
  rw [hm] at h
  exact h (fun k hk' => hk k (List.mem_of_mem_take hk')) (Nat.min_le_right _ _)
theorem newCallK {nn : Nat} {W : World} {S : Nat → Prop} {r : Option Nat} {H : List Blk} {nx : K1} {n gs : Int} (hn : 1 ≤ n ∧ n ≤ 7) (hg : 2 ≤ gs ∧ gs ≤ 8) (hx : ∀ z : Nat × Nat, nx (.v (.tuple #[pv z.1, .int .i64 0])) (.blk 103 z.1 (DC n gs 0 z.2) 80 :: .ext 104 (MpK z.2 fun _ => none) :: H)) : CallK ⟨Tryz.prog, TB, nn, W, S, r, TBok⟩ 6 [.v (.int .i64 n), .v (.int .i64 gs)] H nx :=
  CallK.frL (v := fun z : Nat × Nat => .tuple #[pv z.1, .int .i64 0]) (L0 := []) (L := []) (R := H) Sel.nil HSub.nil (fun _ w _ => FrZ.pre (new11 (n := n) (gs := gs) hn hg w) (fun S h => by cases h; exact fun _ h => h))
    (M' := fun z => [.blk 103 z.1 (DC n gs 0 z.2) 80, .ext 104 (MpK z.2 fun _ => none)]) (fun z => HSub.keep rfl (HSub.ext (fun _ _ h => MpA.toK (es := []) MRep.nil h) HSub.nil)) hx
theorem driveRetries1004 {ks : List Nat} {a : Option Addr} {cap nodes long gone which : Nat} {w : World} (hka : KAt w) (hr : RdB w a (ks.map fun (k : Nat) => Value.int .u16 k)) (hcap : ks.length ≤ cap) (hk : ∀ k ∈ ks, k ≤ 65535) (hksl : ks.length ≤ 9223372036854775807) (hnodes : nodes ≤ 255) (hlong : long ≤ 255) (hgone : gone ≤ 255) (hwhich : which ≤ 255) :
    Pu Tryz.prog 4 #[.slice a ks.length cap, .int .u8 nodes, .int .u8 long, .int .u8 gone, .int .u8 which] w (.bool true) := by
  have sa := fun n' r H => SeesB.old (c := ⟨Tryz.prog, TB, n', w, noS, r, TBok⟩) (H := H) (hr.take (Nat.min ks.length 20)) (fun _ => id)
  obtain ⟨me, hme, hme6⟩ : ∃ me : Nat, (nodes : Int).tmod 7 = me ∧ me ≤ 6 := ⟨nodes % 7, by rw [IntWalk.rem_in _ _ (by omega)]; omega, by omega⟩
  refine enter_sound TBok Tryz.func4 rfl rfl Tryz.ntmps4 [.v (.slice a ks.length cap), .v (.int .u8 nodes), .v (.int .u8 long), .v (.int .u8 gone), .v (.int .u8 which)] (Kn.start w noS) rfl rfl ?_
  conv => whnf
  have hm20 : (ks.take (Nat.min ks.length 20)).length = Nat.min ks.length 20 := by rw [List.length_take]; exact Nat.min_eq_left (Nat.min_le_left _ _)
  repeat' (first
 | (with_reducible refine r_stop 8 ?_)
 | with_reducible (first | refine r_seq (fun KS hS => ?_) | (refine hS _ _ ?_; clear hS KS) | (refine hA _ ?_; clear hA KA) | (refine hB _ ?_; clear hB KB) | refine r_block ?_)
 | ((with_reducible (first | refine r_region ?_ | refine r_cond (fun KA hA KB hB => ?_) | refine r_ret ?_ | refine r_skip ?_ | refine r_exit ?_ | refine And.intro rfl ?_ | intro b)); conv => whnf)
 | ((with_reducible refine WrapK.i64 ?_ ?_); (focus omega); conv => whnf)
 | ((with_reducible refine OpK.id ?_); (first | refine OpK.minN (b := 20) rfl rfl rfl ?_ | refine OpK.slB rfl rfl rfl rfl rfl rfl (Nat.le_trans (Nat.min_le_left _ _) hcap) ?_); conv => whnf)
 | ((with_reducible refine CallK.id ?_); refine CallK.fresh (fun ms w' hk' => setL20 (ks := ks) (by have := sa 0 none _ ms w' hk'; rwa [← List.map_take] at this) hk) ?_; conv => whnf)
 | (refine newCallK (by omega) (by omega) (fun z => ?_); conv => whnf)
 | ((with_reducible refine WrapK.id ?_); refine WrapK.eq (z' := ((me + 1 : Nat) : Int)) (by rw [wrap_i64 (by omega) (by omega)]; omega) ?_; conv => whnf)
 | ((with_reducible refine RemK.id ?_); refine RemK.eq (by decide) hme ?_; conv => whnf)
 | ((with_reducible refine OpK.id ?_); refine OpK.mkMK rfl ?_; conv => whnf)
 | ((with_reducible apply OpK.more); (focus refine sok); (conv => whnf); fail_if_success guard_target =ₛ False)
 | ((with_reducible (first | refine InAt.mk (fun K' hK => ?_) | refine AnyAt.mk (fun K' hK => ?_) | (refine hK _ ?_; clear hK K') | (refine hK _ _ ?_; clear hK K'))); conv => whnf)
 | ((refine And.intro ?_ ?_); all_goals (conv => whnf))
 | (apply r_quiet; refine mixed; kernel_rfl; kernel_rfl; kernel_rfl; conv => whnf)
 | ((first | refine if_t (by decide) ?_ | refine if_f (by decide) ?_ | refine if_decT (by omega) ?_ | refine if_decF (by omega) ?_ | refine if_ndecT (by omega) ?_ | refine if_ndecF (by omega) ?_); conv => whnf)
 | ((first | refine if_dec (fun h => ?_) (fun h => ?_) | refine if_ndec (fun h => ?_) (fun h => ?_) | refine if_cond (fun h => ?_) (fun h => ?_)); all_goals (conv => whnf))
 | with_reducible apply_assumption -symm -exfalso)
  refine ⟨?_⟩
  rename_i st _ _ m1
  rename Nat => m2
  obtain ⟨ia, icap, ⟨X, hX, hX20⟩⟩ := st
  obtain ⟨d, mp⟩ := z
  dsimp only
  rw [show (1 + (me : Int)) = ((me + 1 : Nat) : Int) by omega]
  repeat' (first
 | with_reducible (first | refine r_seq (fun KS hS => ?_) | (refine hS _ _ ?_; clear hS KS) | (refine hA _ ?_; clear hA KA) | (refine hB _ ?_; clear hB KB) | refine r_block ?_)
 | ((with_reducible (first | refine r_region ?_ | refine r_cond (fun KA hA KB hB => ?_) | refine r_ret ?_ | refine r_skip ?_ | refine r_exit ?_ | refine And.intro rfl ?_ | intro b)); conv => whnf)
 | ((with_reducible refine WrapK.i64 ?_ ?_); (focus omega); conv => whnf)
 | ((with_reducible apply OpK.more); (focus refine sok); (conv => whnf); fail_if_success guard_target =ₛ False)
 | ((with_reducible (first | refine InAt.mk (fun K' hK => ?_) | refine AnyAt.mk (fun K' hK => ?_) | (refine hK _ ?_; clear hK K') | (refine hK _ _ ?_; clear hK K'))); conv => whnf)
 | ((refine And.intro ?_ ?_); all_goals (conv => whnf))
 | (apply r_quiet; refine mixed; kernel_rfl; kernel_rfl; kernel_rfl; conv => whnf)
 | ((first | refine if_t (by decide) ?_ | refine if_f (by decide) ?_ | refine if_decT (by omega) ?_ | refine if_decF (by omega) ?_ | refine if_ndecT (by omega) ?_ | refine if_ndecF (by omega) ?_); conv => whnf)
 | ((first | refine if_dec (fun h => ?_) (fun h => ?_) | refine if_ndec (fun h => ?_) (fun h => ?_) | refine if_cond (fun h => ?_) (fun h => ?_)); all_goals (conv => whnf))
 | with_reducible apply_assumption -symm -exfalso)
  refine r_loop (α := Nat × WG × (Int → Option Nat)) (fun z => [(17, .v (.int .i64 (z.1 : Nat))), (16, .v (.map (some m2))), (15, .v (.map (some m1))), (13, .v (pv d)), (12, .v (.int .i64 (me + 1 : Nat))), (11, .v (.slice ia X.length icap)), (2, .v (.int .u8 long)), (3, .v (.int .u8 gone)), (4, .v (.int .u8 which))]) (fun z => [.ext 205 (MpK m2 (nf z.2.2)), .ext 204 (MpK m1 (af z.2.1)), .blk 103 d (DC (me + 1 : Nat) 3 (z.1 - 1 : Nat) mp) 80, .ext 104 (MpK mp (wf z.2.1)), .ext 200 (SlA 47 6 ia X.length icap (X.flatMap OI.cells))]) (fun z => 1 ≤ z.1 ∧ z.1 ≤ 61 ∧ RInv X z.1 z.2.1 z.2.2) (fun z => 62 - z.1) (1, (fun _ => none), (fun _ => none)) ⟨Nat.le_refl _, by decide, RInv.init X⟩ (by repeat' (first | exact Sub.nil | (refine Sub.cons rfl rfl ?_))) (by show HSub [.ext 205 (MpK m2 fun _ => Option.none), .ext 204 (MpK m1 fun _ => Option.none), .blk 103 d (DC (me + 1 : Nat) 3 0 mp) 80, .ext 104 (MpK mp fun _ => Option.none), .ext 200 (SlA 47 6 ia X.length icap (X.flatMap OI.cells))] _; exact (by (try dsimp only [List.cons_append, List.nil_append, den, denL]); refine SelI.spec ?_; (repeat (first | refine SelI.blk (by repeat (first | with_reducible apply Rm.head | apply Rm.tail)) ?_ | refine SelI.ext (by repeat (first | with_reducible apply Rm.head | apply Rm.tail)) ?_ | (refine SelI.blk' (by repeat (first | with_reducible apply Rm.head | apply Rm.tail)) ?_ ?_; focus rfl) | (refine SelI.ext' (by repeat (first | with_reducible apply Rm.head | apply Rm.tail)) ?_ ?_; focus rfl))); exact SelI.nil)) ?_
  rintro ⟨T, g, fh⟩ ⟨hT1, hT61, hI⟩ KL hL
  dsimp only at hT1 hT61 hI ⊢
  repeat' (first
 | (with_reducible refine r_stop 12 ?_)
 | with_reducible (first | refine r_seq (fun KS hS => ?_) | (refine hS _ _ ?_; clear hS KS) | (refine hA _ ?_; clear hA KA) | (refine hB _ ?_; clear hB KB) | refine r_block ?_)
 | ((with_reducible (first | refine r_region ?_ | refine r_cond (fun KA hA KB hB => ?_) | refine r_ret ?_ | refine r_skip ?_ | refine r_exit ?_ | refine And.intro rfl ?_ | intro b)); conv => whnf)
 | ((with_reducible refine WrapK.i64 ?_ ?_); (focus omega); conv => whnf)
 | ((with_reducible refine RemK.id ?_); refine RemK.eq (by decide) (IntWalk.rem_in _ _ (by omega)) ?_; conv => whnf)
 | ((with_reducible refine CallK.id ?_); refine CallK.fresh (fun ms w' hk' => clone1019 ((Sees.ext (by repeat (first | with_reducible apply At.head | apply At.tail))).rd hk') (by omega)) ?_; conv => whnf)
 | ((with_reducible refine CallK.at 18 ?_); refine CallK.puW (fun ms w hk => works10 (hka.now id hk)) ?_; conv => whnf)
 | ((with_reducible apply OpK.more); (focus refine sok); (conv => whnf); fail_if_success guard_target =ₛ False)
 | ((with_reducible (first | refine InAt.mk (fun K' hK => ?_) | refine AnyAt.mk (fun K' hK => ?_) | (refine hK _ ?_; clear hK K') | (refine hK _ _ ?_; clear hK K'))); conv => whnf)
 | ((refine And.intro ?_ ?_); all_goals (conv => whnf))
 | (apply r_quiet; refine mixed; kernel_rfl; kernel_rfl; kernel_rfl; conv => whnf)
 | ((first | refine if_t (by decide) ?_ | refine if_f (by decide) ?_ | refine if_decT (by omega) ?_ | refine if_decF (by omega) ?_ | refine if_ndecT (by omega) ?_ | refine if_ndecF (by omega) ?_); conv => whnf)
 | ((first | refine if_dec (fun h => ?_) (fun h => ?_) | refine if_ndec (fun h => ?_) (fun h => ?_) | refine if_cond (fun h => ?_) (fun h => ?_)); all_goals (conv => whnf))
 | with_reducible apply_assumption -symm -exfalso)
  · refine ⟨?_⟩
    obtain ⟨na, nc⟩ := b
    dsimp only
    refine r_meet (α := List OI × Option Addr × Nat × (Int → Option Nat)) (fun q => [(17, .v (.int .i64 (T : Nat))), (16, .v (.map (some m2))), (15, .v (.map (some m1))), (13, .v (pv d)), (12, .v (.int .i64 (me + 1 : Nat))), (11, .v (.slice ia X.length icap)), (18, .v (.slice q.2.1 q.1.length q.2.2.1)), (2, .v (.int .u8 long)), (3, .v (.int .u8 gone)), (4, .v (.int .u8 which))]) (fun q => [.ext 206 (SlA 47 6 q.2.1 q.1.length q.2.2.1 (q.1.flatMap OI.cells)), .ext 205 (MpK m2 (nf q.2.2.2)), .ext 204 (MpK m1 (af (keepG q.1 g))), .blk 103 d (DC (me + 1 : Nat) 3 (T - 1 : Nat) mp) 80, .ext 104 (MpK mp (wf g)), .ext 200 (SlA 47 6 ia X.length icap (X.flatMap OI.cells))]) (fun q => NowOk X q.1 fh q.2.2.2) ?_ ?_
    · intro KL2 hL2
      by_cases hX0 : 0 < X.length
      · obtain ⟨k, hk1, hk2⟩ : ∃ k : Nat, (which : Int).tmod (X.length : Int) = (k : Int) ∧ k < X.length := ⟨which % X.length, by rw [Int.tmod_eq_emod_of_nonneg (by omega)]; exact (Int.natCast_emod _ _).symm, Nat.mod_lt _ hX0⟩
        obtain ⟨x, hx⟩ : ∃ x, X[k]? = some x := ⟨_, List.getElem?_eq_getElem hk2⟩
        repeat' (first
 | with_reducible (first | refine r_seq (fun KS hS => ?_) | (refine hS _ _ ?_; clear hS KS) | (refine hA _ ?_; clear hA KA) | (refine hB _ ?_; clear hB KB) | refine r_block ?_)
 | ((with_reducible (first | refine r_region ?_ | refine r_cond (fun KA hA KB hB => ?_) | refine r_ret ?_ | refine r_skip ?_ | refine r_exit ?_ | refine And.intro rfl ?_ | intro b)); conv => whnf)
 | ((with_reducible refine WrapK.i64 ?_ ?_); (focus omega); conv => whnf)
 | ((with_reducible refine RemK.id ?_); (first | refine RemK.eq (by omega) hk1 ?_ | refine RemK.eq (by decide) (IntWalk.rem_in _ _ (by omega)) ?_); conv => whnf)
 | ((with_reducible refine OpK.id ?_); (first | refine OpK.idx (k := 6) rfl rfl rfl rfl rfl rfl rfl (Sees.ext (by repeat (first | with_reducible apply At.head | apply At.tail))) (by omega) (by omega) (at_item hx) (fun b off hp => ?_) | refine OpK.ldp rfl rfl hp (List.cons_ne_nil _ _) ?_); conv => whnf)
 | ((with_reducible refine CallK.at 20 ?_); refine CallK.pu (fun w => number1020 (x := x) w) ?_; conv => whnf)
 | ((with_reducible refine OpK.id ?_); refine OpK.dlK rfl rfl rfl rfl rfl rfl rfl (by repeat (first | with_reducible apply At.head | apply At.tail)) ?_; conv => whnf)
 | ((with_reducible refine CallK.id ?_); refine CallK.frZE (by repeat (first | with_reducible apply At.head | apply At.tail)) (fun w => delete1021 hk2 (by omega)) (fun z => ?_); conv => whnf)
 | (refine hL2 (X.eraseIdx k, na, nc, fun z => if z = (x.num : Int) then Option.none else fh z) _ _ (.inr ⟨k, x, hx, rfl, rfl⟩) (by repeat' (first | exact SubD.nil | (refine SubD.cons rfl rfl ?_))) (by rw [del_nf, del_af, keep_erase hX hI.dom hx]; exact (by (try dsimp only [List.cons_append, List.nil_append, den, denL]); refine SelI.spec ?_; (repeat (first | refine SelI.blk (by repeat (first | with_reducible apply Rm.head | apply Rm.tail)) ?_ | refine SelI.ext (by repeat (first | with_reducible apply Rm.head | apply Rm.tail)) ?_ | (refine SelI.blk' (by repeat (first | with_reducible apply Rm.head | apply Rm.tail)) ?_ ?_; focus rfl) | (refine SelI.ext' (by repeat (first | with_reducible apply Rm.head | apply Rm.tail)) ?_ ?_; focus rfl))); exact SelI.nil)))
 | (refine hL2 (X, na, nc, fh) _ _ (.inl ⟨rfl, rfl⟩) (by repeat' (first | exact SubD.nil | (refine SubD.cons rfl rfl ?_))) (by rw [keep_self hI.dom]; exact (by (try dsimp only [List.cons_append, List.nil_append, den, denL]); refine SelI.spec ?_; (repeat (first | refine SelI.blk (by repeat (first | with_reducible apply Rm.head | apply Rm.tail)) ?_ | refine SelI.ext (by repeat (first | with_reducible apply Rm.head | apply Rm.tail)) ?_ | (refine SelI.blk' (by repeat (first | with_reducible apply Rm.head | apply Rm.tail)) ?_ ?_; focus rfl) | (refine SelI.ext' (by repeat (first | with_reducible apply Rm.head | apply Rm.tail)) ?_ ?_; focus rfl))); exact SelI.nil)))
 | ((with_reducible apply OpK.more); (focus refine sok); (conv => whnf); fail_if_success guard_target =ₛ False)
 | ((with_reducible (first | refine InAt.mk (fun K' hK => ?_) | refine AnyAt.mk (fun K' hK => ?_) | (refine hK _ ?_; clear hK K') | (refine hK _ _ ?_; clear hK K'))); conv => whnf)
 | ((refine And.intro ?_ ?_); all_goals (conv => whnf))
 | (apply r_quiet; refine mixed; kernel_rfl; kernel_rfl; kernel_rfl; conv => whnf)
 | ((first | refine if_t (by decide) ?_ | refine if_f (by decide) ?_ | refine if_decT (by omega) ?_ | refine if_decF (by omega) ?_ | refine if_ndecT (by omega) ?_ | refine if_ndecF (by omega) ?_); conv => whnf)
 | ((first | refine if_dec (fun h => ?_) (fun h => ?_) | refine if_ndec (fun h => ?_) (fun h => ?_) | refine if_cond (fun h => ?_) (fun h => ?_)); all_goals (conv => whnf))
 | with_reducible apply_assumption -symm -exfalso)
      · repeat' (first
 | with_reducible (first | refine r_seq (fun KS hS => ?_) | (refine hS _ _ ?_; clear hS KS) | (refine hA _ ?_; clear hA KA) | (refine hB _ ?_; clear hB KB) | refine r_block ?_)
 | ((with_reducible (first | refine r_region ?_ | refine r_cond (fun KA hA KB hB => ?_) | refine r_ret ?_ | refine r_skip ?_ | refine r_exit ?_ | refine And.intro rfl ?_ | intro b)); conv => whnf)
 | ((with_reducible refine WrapK.i64 ?_ ?_); (focus omega); conv => whnf)
 | (refine hL2 (X, na, nc, fh) _ _ (.inl ⟨rfl, rfl⟩) (by repeat' (first | exact SubD.nil | (refine SubD.cons rfl rfl ?_))) (by rw [keep_self hI.dom]; exact (by (try dsimp only [List.cons_append, List.nil_append, den, denL]); refine SelI.spec ?_; (repeat (first | refine SelI.blk (by repeat (first | with_reducible apply Rm.head | apply Rm.tail)) ?_ | refine SelI.ext (by repeat (first | with_reducible apply Rm.head | apply Rm.tail)) ?_ | (refine SelI.blk' (by repeat (first | with_reducible apply Rm.head | apply Rm.tail)) ?_ ?_; focus rfl) | (refine SelI.ext' (by repeat (first | with_reducible apply Rm.head | apply Rm.tail)) ?_ ?_; focus rfl))); exact SelI.nil)))
 | ((with_reducible apply OpK.more); (focus refine sok); (conv => whnf); fail_if_success guard_target =ₛ False)
 | ((with_reducible (first | refine InAt.mk (fun K' hK => ?_) | refine AnyAt.mk (fun K' hK => ?_) | (refine hK _ ?_; clear hK K') | (refine hK _ _ ?_; clear hK K'))); conv => whnf)
 | ((refine And.intro ?_ ?_); all_goals (conv => whnf))
 | (apply r_quiet; refine mixed; kernel_rfl; kernel_rfl; kernel_rfl; conv => whnf)
 | ((first | refine if_t (by decide) ?_ | refine if_f (by decide) ?_ | refine if_decT (by omega) ?_ | refine if_decF (by omega) ?_ | refine if_ndecT (by omega) ?_ | refine if_ndecF (by omega) ?_); conv => whnf)
 | ((first | refine if_dec (fun h => ?_) (fun h => ?_) | refine if_ndec (fun h => ?_) (fun h => ?_) | refine if_cond (fun h => ?_) (fun h => ?_)); all_goals (conv => whnf))
 | with_reducible apply_assumption -symm -exfalso)
    · rintro ⟨Y, na, nc, h1⟩ hN E' H' hE' hH'
      dsimp only at hN
      refine hS _ _ (Run.weakenD ?_ hE' hH')
      dsimp only
      clear hS KS hE' hH'
      have hY := hN.asc hX
      have hYl := hN.len
      repeat' (first
 | with_reducible (first | refine r_seq (fun KS hS => ?_) | (refine hS _ _ ?_; clear hS KS) | (refine hA _ ?_; clear hA KA) | (refine hB _ ?_; clear hB KB) | refine r_block ?_)
 | ((with_reducible (first | refine r_region ?_ | refine r_cond (fun KA hA KB hB => ?_) | refine r_ret ?_ | refine r_skip ?_ | refine r_exit ?_ | refine And.intro rfl ?_ | intro b)); conv => whnf)
 | ((with_reducible refine WrapK.i64 ?_ ?_); (focus omega); conv => whnf)
 | ((with_reducible apply OpK.more); (focus refine sok); (conv => whnf); fail_if_success guard_target =ₛ False)
 | ((with_reducible (first | refine InAt.mk (fun K' hK => ?_) | refine AnyAt.mk (fun K' hK => ?_) | (refine hK _ ?_; clear hK K') | (refine hK _ _ ?_; clear hK K'))); conv => whnf)
 | ((refine And.intro ?_ ?_); all_goals (conv => whnf))
 | (apply r_quiet; refine mixed; kernel_rfl; kernel_rfl; kernel_rfl; conv => whnf)
 | ((first | refine if_t (by decide) ?_ | refine if_f (by decide) ?_ | refine if_decT (by omega) ?_ | refine if_decF (by omega) ?_ | refine if_ndecT (by omega) ?_ | refine if_ndecF (by omega) ?_); conv => whnf)
 | ((first | refine if_dec (fun h => ?_) (fun h => ?_) | refine if_ndec (fun h => ?_) (fun h => ?_) | refine if_cond (fun h => ?_) (fun h => ?_)); all_goals (conv => whnf))
 | with_reducible apply_assumption -symm -exfalso)
      refine r_loop (α := Nat × (Option Addr × Nat) × (Option Addr × Nat)) (fun z => [(97, .v (.int .i64 (z.1 : Nat))), (96, .v (.int .i64 Y.length)), (95, .v (.slice na Y.length nc)), (22, .v (.slice z.2.1.1 ((Y.take z.1).filter (dueB (keepG Y g) T)).length z.2.1.2)), (23, .v (.slice z.2.2.1 z.1 z.2.2.2)), (17, .v (.int .i64 (T : Nat))), (16, .v (.map (some m2))), (15, .v (.map (some m1))), (13, .v (pv d)), (12, .v (.int .i64 (me + 1 : Nat))), (11, .v (.slice ia X.length icap)), (18, .v (.slice na Y.length nc)), (2, .v (.int .u8 long)), (3, .v (.int .u8 gone)), (4, .v (.int .u8 which))]) (fun z => [.ext 308 (SlA 38 9 z.2.1.1 ((Y.take z.1).filter (dueB (keepG Y g) T)).length z.2.1.2 ((((Y.take z.1).filter (dueB (keepG Y g) T)).map (mV (keepG Y g) me (me + 1))).flatMap MV.cells)), .ext 307 (SlA 3 1 z.2.2.1 z.1 z.2.2.2 ((keys (Y.take z.1)).map (Value.int .i64))), .ext 206 (SlA 47 6 na Y.length nc (Y.flatMap OI.cells)), .ext 205 (MpK m2 (nf (firstJ h1 T (Y.take z.1)))), .ext 204 (MpK m1 (af (askG (Y.filter (dueB (keepG Y g) T)) (keepG Y g) T ((Y.take z.1).filter (dueB (keepG Y g) T)).length))), .blk 103 d (DC (me + 1 : Nat) 3 (T - 1 : Nat) mp) 80, .ext 104 (MpK mp (wf g)), .ext 200 (SlA 47 6 ia X.length icap (X.flatMap OI.cells))]) (fun z => z.1 ≤ Y.length) (fun z => Y.length - z.1) (0, (none, 0), (none, 0)) (Nat.zero_le _) (by repeat' (first | exact Sub.nil | (refine Sub.cons rfl rfl ?_))) (by show HSub [.ext 308 (SlA 38 9 none 0 0 []), .ext 307 (SlA 3 1 none 0 0 []), .ext 206 (SlA 47 6 na Y.length nc (Y.flatMap OI.cells)), .ext 205 (MpK m2 (nf h1)), .ext 204 (MpK m1 (af (keepG Y g))), .blk 103 d (DC (me + 1 : Nat) 3 (T - 1 : Nat) mp) 80, .ext 104 (MpK mp (wf g)), .ext 200 (SlA 47 6 ia X.length icap (X.flatMap OI.cells))] _; exact HSub.addSl (HSub.addSl (by (try dsimp only [List.cons_append, List.nil_append, den, denL]); refine SelI.spec ?_; (repeat (first | refine SelI.blk (by repeat (first | with_reducible apply Rm.head | apply Rm.tail)) ?_ | refine SelI.ext (by repeat (first | with_reducible apply Rm.head | apply Rm.tail)) ?_ | (refine SelI.blk' (by repeat (first | with_reducible apply Rm.head | apply Rm.tail)) ?_ ?_; focus rfl) | (refine SelI.ext' (by repeat (first | with_reducible apply Rm.head | apply Rm.tail)) ?_ ?_; focus rfl))); exact SelI.nil))) ?_
      rintro ⟨j, ⟨wa, wc⟩, ⟨va, vc⟩⟩ hj KL3 hL3
      dsimp only at hj ⊢
      by_cases hlt : j < Y.length
      · obtain ⟨y, hy⟩ : ∃ y, Y[j]? = some y := ⟨_, List.getElem?_eq_getElem hlt⟩
        have hyY := List.mem_of_getElem? hy
        obtain ⟨kd, key, dl, fr, data, hC⟩ := cmdOf y
        have hg12 := OI.g2 y
        have hnum : y.num < 2000000 := It.num_lt y.2
--B
        have hst := filter_step (D := dueB (keepG Y g) T) hy
        have htk : Y.take (j + 1) = Y.take j ++ [y] := by rw [List.take_succ, hy]; rfl
        have hky : (keys (Y.take (j + 1))).map (Value.int .i64) = (keys (Y.take j)).map (Value.int .i64) ++ [.int .i64 y.num] := by rw [htk]; simp [keys]
        have hfj : firstJ h1 T (Y.take j) y.num = h1 y.num := firstJ_out (take_ne_num hY hy)
        have hDl := List.length_filter_le (dueB (keepG Y g) T) (Y.take j)
        have hDl2 : (Y.take j).length ≤ j := List.length_take_le _ _
        have hrm : ((askedN (keepG Y g) y : Nat) : Int).tmod ((me + 1 : Nat) : Int) = (askedN (keepG Y g) y : Int) % ((me + 1 : Nat) : Int) := IntWalk.rem_in _ _ (by omega)
        have hmb : 0 ≤ (askedN (keepG Y g) y : Int) % ((me + 1 : Nat) : Int) ∧ (askedN (keepG Y g) y : Int) % ((me + 1 : Nat) : Int) < ((me + 1 : Nat) : Int) := ⟨Int.emod_nonneg _ (by omega), Int.emod_lt_of_pos _ (by omega)⟩
        have hgn : 0 ≤ (y.1.g : Int) * ((me + 1 : Nat) : Int) ∧ (y.1.g : Int) * ((me + 1 : Nat) : Int) ≤ 14 := by
          have h1 : y.1.g = 1 ∨ y.1.g = 2 := by omega
          rcases h1 with h1 | h1 <;> rw [h1] <;> omega
        have hask : askedN (keepG Y g) y ≤ T := by
          rcases hI.due hX hN hyY with ⟨_, _, h⟩ | ⟨_, _, _, _, _, h⟩ <;> omega
        have haf : ((af (askG (Y.filter (dueB (keepG Y g) T)) (keepG Y g) T ((Y.take j).filter (dueB (keepG Y g) T)).length)) y.num).getD (.int .i64 0) = .int .i64 (askedN (keepG Y g) y) := by
          unfold af; rw [askG_at hY hy]; exact af_at
        have hdue : dueB (keepG Y g) T y = true → putK (af (askG (Y.filter (dueB (keepG Y g) T)) (keepG Y g) T ((Y.take j).filter (dueB (keepG Y g) T)).length)) y.num (den (.v (.int .i64 ((askedN (keepG Y g) y : Int) + 1)))) = af (askG (Y.filter (dueB (keepG Y g) T)) (keepG Y g) T (((Y.take j).filter (dueB (keepG Y g) T)).length + 1)) := fun hD => af_put (hY.sublist List.filter_sublist) (filter_at hy hD)
        have hfl : dueB (keepG Y g) T y = true → ((((Y.take (j + 1)).filter (dueB (keepG Y g) T)).map (mV (keepG Y g) me (me + 1))).flatMap MV.cells) = ((((Y.take j).filter (dueB (keepG Y g) T)).map (mV (keepG Y g) me (me + 1))).flatMap MV.cells) ++ [.int .i64 10, .int .i64 (((me + 1 : Nat) : Int) - 1), .int .i64 ((y.1.g : Int) * ((me + 1 : Nat) : Int) + (askedN (keepG Y g) y : Int) % ((me + 1 : Nat) : Int)), .int .i64 0, .int .i64 0, .int .i64 0, .int .i64 y.num, .string ⟨(encOf y).toArray⟩, .slice none 0 0] := by
          intro hD
          rw [htk, List.filter_append, List.map_append, List.flatMap_append, List.filter_cons_of_pos hD, show (((me + 1 : Nat) : Int) - 1) = (me : Int) by omega]
          rfl
        have hfl0 : ¬ dueB (keepG Y g) T y = true → (Y.take (j + 1)).filter (dueB (keepG Y g) T) = (Y.take j).filter (dueB (keepG Y g) T) := by
          intro hD
          rw [htk, List.filter_append, List.filter_cons_of_neg hD]; exact List.append_nil _
        rcases hI.due hX hN hyY with ⟨h0, hD, h2⟩ | ⟨f, h0, hf1, hf2, hdd, _⟩
        · have hpa := hdue hD
          have hfn : nf (firstJ h1 T (Y.take j)) y.num = none := by unfold nf; rw [hfj, h0]; rfl
          have hfs : nf (firstJ h1 T (Y.take (j + 1))) y.num = some (.int .i64 (T : Nat)) := by unfold nf; rw [htk, firstJ_in (by simp), h0]; rfl
          have hpf : putK (nf (firstJ h1 T (Y.take j))) y.num (den (.v (.int .i64 (T : Nat)))) = nf (firstJ h1 T (Y.take (j + 1))) := firstJ_put hY hy h0
          have hr4 : (((T : Nat) : Int) - ((T : Nat) : Int)).tmod 4 = 0 := by rw [Int.sub_self]; rfl
          rw [if_pos hD] at hst
          repeat' (first
 | with_reducible (first | refine r_seq (fun KS hS => ?_) | (refine hS _ _ ?_; clear hS KS) | (refine hA _ ?_; clear hA KA) | (refine hB _ ?_; clear hB KB) | refine r_block ?_)
 | ((with_reducible (first | refine r_region ?_ | refine r_cond (fun KA hA KB hB => ?_) | refine r_ret ?_ | refine r_skip ?_ | refine r_exit ?_ | refine And.intro rfl ?_ | intro b)); conv => whnf)
 | ((with_reducible refine WrapK.i64 ?_ ?_); (focus omega); conv => whnf)
 | ((with_reducible refine OpK.id ?_); (first | refine OpK.lkMn rfl rfl rfl rfl rfl rfl rfl rfl (SeesM.ext (by repeat (first | with_reducible apply At.head | apply At.tail))) hfn ?_ | refine OpK.lkMs rfl rfl rfl rfl rfl rfl rfl rfl (SeesM.ext (by repeat (first | with_reducible apply At.head | apply At.tail))) hfs ?_ | (refine OpK.upK rfl rfl rfl rfl rfl rfl rfl rfl (by repeat (first | with_reducible apply At.head | apply At.tail)) (OI.zok y) ?_; rw [hpf]) | refine OpK.idx (k := 6) rfl rfl rfl rfl rfl rfl rfl (Sees.ext (by repeat (first | with_reducible apply At.head | apply At.tail))) (by omega) (by omega) (at_item hy) (fun b off hp => ?_) | refine OpK.ldp rfl rfl hp (List.cons_ne_nil _ _) ?_); conv => whnf)
 | ((with_reducible refine CallK.at 20 ?_); refine CallK.pu (fun w => number1020 (x := y) w) ?_; conv => whnf)
 | ((with_reducible refine OpK.id ?_); refine OpK.app (k := 1) rfl rfl rfl rfl rfl rfl rfl rfl (by repeat (first | with_reducible apply At.head | apply At.tail)) (SrcK.slc rfl rfl (by repeat (first | constructor | apply List.Mem.tail)) (Nat.le_refl _) rfl) (big_ok (by omega) (by decide)) (fun va2 vc2 => ?_); conv => whnf)
 | ((with_reducible refine RemK.id ?_); refine RemK.eq (by decide) hr4 ?_; conv => whnf)
 | ((with_reducible refine CallK.id ?_); (first | refine CallK.pu (fun w => hC.every w) ?_ | refine CallK.fresh (fun ms w hk => hC.encode w) ?_); conv => whnf)
 | (apply r_split1 16 (id := 32); refine mixed; rfl; kernel_rfl; kernel_rfl; kernel_rfl; intro K' hK; conv => whnf)
 | ((with_reducible refine QK.id ?_); (first | refine QK.bld rfl ?_ | refine QK.lkM rfl rfl rfl rfl rfl rfl rfl rfl (SeesM.ext (by repeat (first | with_reducible apply At.head | apply At.tail))) haf rfl ?_ | refine QK.cvBS' rfl rfl rfl rfl rfl rfl rfl rfl (Sees.ext (by repeat (first | with_reducible apply At.head | apply At.tail))) rfl ?_); conv => whnf)
 | ((with_reducible refine RemK.id ?_); refine RemK.eq (by omega) hrm ?_; conv => whnf)
 | ((with_reducible refine OpK.id ?_); (first | refine OpK.app (k := 9) rfl rfl rfl rfl rfl rfl rfl rfl (by repeat (first | with_reducible apply At.head | apply At.tail)) (SrcK.slc rfl rfl (by repeat (first | constructor | apply List.Mem.tail)) (Nat.le_refl _) rfl) (big_ok (by omega) (by decide)) (fun wa2 wc2 => ?_) | refine OpK.lkM rfl rfl rfl rfl rfl rfl rfl rfl (SeesM.ext (by repeat (first | with_reducible apply At.head | apply At.tail))) haf rfl ?_ | (refine OpK.upK rfl rfl rfl rfl rfl rfl rfl rfl (by repeat (first | with_reducible apply At.head | apply At.tail)) (OI.zok y) ?_; rw [hpa])); conv => whnf)
 | (refine hL3 (j + 1, (wa2, wc2), (va2, vc2)) _ _ (by show j + 1 ≤ _; omega) (by show Y.length - (j + 1) < Y.length - j; omega) (by dsimp only; rw [hst]; exact (by repeat' (first | exact Sub.nil | (refine Sub.cons rfl rfl ?_)))) (by dsimp only; rw [hst, hky, hfl hD]; exact (by (try dsimp only [List.cons_append, List.nil_append, den, denL]); refine SelI.spec ?_; (repeat (first | refine SelI.blk (by repeat (first | with_reducible apply Rm.head | apply Rm.tail)) ?_ | refine SelI.ext (by repeat (first | with_reducible apply Rm.head | apply Rm.tail)) ?_ | (refine SelI.blk' (by repeat (first | with_reducible apply Rm.head | apply Rm.tail)) ?_ ?_; focus rfl) | (refine SelI.ext' (by repeat (first | with_reducible apply Rm.head | apply Rm.tail)) ?_ ?_; focus rfl))); exact SelI.nil)))
 | ((with_reducible apply OpK.more); (focus refine sok); (conv => whnf); fail_if_success guard_target =ₛ False)
 | ((with_reducible (first | refine InAt.mk (fun K' hK => ?_) | refine AnyAt.mk (fun K' hK => ?_) | (refine hK _ ?_; clear hK K') | (refine hK _ _ ?_; clear hK K'))); conv => whnf)
 | ((refine And.intro ?_ ?_); all_goals (conv => whnf))
 | (apply r_quiet; refine mixed; kernel_rfl; kernel_rfl; kernel_rfl; conv => whnf)
 | ((first | refine if_t (by decide) ?_ | refine if_f (by decide) ?_ | refine if_decT (by omega) ?_ | refine if_decF (by omega) ?_ | refine if_ndecT (by omega) ?_ | refine if_ndecF (by omega) ?_); conv => whnf)
 | ((first | refine if_dec (fun h => ?_) (fun h => ?_) | refine if_ndec (fun h => ?_) (fun h => ?_) | refine if_cond (fun h => ?_) (fun h => ?_)); all_goals (conv => whnf))
 | with_reducible apply_assumption -symm -exfalso)
        · have hfs : nf (firstJ h1 T (Y.take j)) y.num = some (.int .i64 (f : Nat)) := by unfold nf; rw [hfj, h0]; rfl
          have hpf := firstJ_stay (T := T) hY hy h0
          by_cases hD : dueB (keepG Y g) T y = true
          · have hpa := hdue hD
            have hr4 : (((T : Nat) : Int) - ((f : Nat) : Int)).tmod 4 = 0 := by rw [IntWalk.rem_in _ _ (by omega)]; have := hdd.2 hD; omega
            rw [if_pos hD] at hst
            repeat' (first
 | with_reducible (first | refine r_seq (fun KS hS => ?_) | (refine hS _ _ ?_; clear hS KS) | (refine hA _ ?_; clear hA KA) | (refine hB _ ?_; clear hB KB) | refine r_block ?_)
 | ((with_reducible (first | refine r_region ?_ | refine r_cond (fun KA hA KB hB => ?_) | refine r_ret ?_ | refine r_skip ?_ | refine r_exit ?_ | refine And.intro rfl ?_ | intro b)); conv => whnf)
 | ((with_reducible refine WrapK.i64 ?_ ?_); (focus omega); conv => whnf)
 | ((with_reducible refine OpK.id ?_); (first | refine OpK.lkMs rfl rfl rfl rfl rfl rfl rfl rfl (SeesM.ext (by repeat (first | with_reducible apply At.head | apply At.tail))) hfs ?_ | refine OpK.idx (k := 6) rfl rfl rfl rfl rfl rfl rfl (Sees.ext (by repeat (first | with_reducible apply At.head | apply At.tail))) (by omega) (by omega) (at_item hy) (fun b off hp => ?_) | refine OpK.ldp rfl rfl hp (List.cons_ne_nil _ _) ?_); conv => whnf)
 | ((with_reducible refine CallK.at 20 ?_); refine CallK.pu (fun w => number1020 (x := y) w) ?_; conv => whnf)
 | ((with_reducible refine OpK.id ?_); refine OpK.app (k := 1) rfl rfl rfl rfl rfl rfl rfl rfl (by repeat (first | with_reducible apply At.head | apply At.tail)) (SrcK.slc rfl rfl (by repeat (first | constructor | apply List.Mem.tail)) (Nat.le_refl _) rfl) (big_ok (by omega) (by decide)) (fun va2 vc2 => ?_); conv => whnf)
 | ((with_reducible refine RemK.id ?_); refine RemK.eq (by decide) hr4 ?_; conv => whnf)
 | ((with_reducible refine CallK.id ?_); (first | refine CallK.pu (fun w => hC.every w) ?_ | refine CallK.fresh (fun ms w hk => hC.encode w) ?_); conv => whnf)
 | (apply r_split1 16 (id := 32); refine mixed; rfl; kernel_rfl; kernel_rfl; kernel_rfl; intro K' hK; conv => whnf)
 | ((with_reducible refine QK.id ?_); (first | refine QK.bld rfl ?_ | refine QK.lkM rfl rfl rfl rfl rfl rfl rfl rfl (SeesM.ext (by repeat (first | with_reducible apply At.head | apply At.tail))) haf rfl ?_ | refine QK.cvBS' rfl rfl rfl rfl rfl rfl rfl rfl (Sees.ext (by repeat (first | with_reducible apply At.head | apply At.tail))) rfl ?_); conv => whnf)
 | ((with_reducible refine RemK.id ?_); refine RemK.eq (by omega) hrm ?_; conv => whnf)
 | ((with_reducible refine OpK.id ?_); (first | refine OpK.app (k := 9) rfl rfl rfl rfl rfl rfl rfl rfl (by repeat (first | with_reducible apply At.head | apply At.tail)) (SrcK.slc rfl rfl (by repeat (first | constructor | apply List.Mem.tail)) (Nat.le_refl _) rfl) (big_ok (by omega) (by decide)) (fun wa2 wc2 => ?_) | refine OpK.lkM rfl rfl rfl rfl rfl rfl rfl rfl (SeesM.ext (by repeat (first | with_reducible apply At.head | apply At.tail))) haf rfl ?_ | (refine OpK.upK rfl rfl rfl rfl rfl rfl rfl rfl (by repeat (first | with_reducible apply At.head | apply At.tail)) (OI.zok y) ?_; rw [hpa])); conv => whnf)
 | (refine hL3 (j + 1, (wa2, wc2), (va2, vc2)) _ _ (by show j + 1 ≤ _; omega) (by show Y.length - (j + 1) < Y.length - j; omega) (by dsimp only; rw [hst]; exact (by repeat' (first | exact Sub.nil | (refine Sub.cons rfl rfl ?_)))) (by dsimp only; rw [hst, hky, hfl hD, ← hpf]; exact (by (try dsimp only [List.cons_append, List.nil_append, den, denL]); refine SelI.spec ?_; (repeat (first | refine SelI.blk (by repeat (first | with_reducible apply Rm.head | apply Rm.tail)) ?_ | refine SelI.ext (by repeat (first | with_reducible apply Rm.head | apply Rm.tail)) ?_ | (refine SelI.blk' (by repeat (first | with_reducible apply Rm.head | apply Rm.tail)) ?_ ?_; focus rfl) | (refine SelI.ext' (by repeat (first | with_reducible apply Rm.head | apply Rm.tail)) ?_ ?_; focus rfl))); exact SelI.nil)))
 | ((with_reducible apply OpK.more); (focus refine sok); (conv => whnf); fail_if_success guard_target =ₛ False)
 | ((with_reducible (first | refine InAt.mk (fun K' hK => ?_) | refine AnyAt.mk (fun K' hK => ?_) | (refine hK _ ?_; clear hK K') | (refine hK _ _ ?_; clear hK K'))); conv => whnf)
 | ((refine And.intro ?_ ?_); all_goals (conv => whnf))
 | (apply r_quiet; refine mixed; kernel_rfl; kernel_rfl; kernel_rfl; conv => whnf)
 | ((first | refine if_t (by decide) ?_ | refine if_f (by decide) ?_ | refine if_decT (by omega) ?_ | refine if_decF (by omega) ?_ | refine if_ndecT (by omega) ?_ | refine if_ndecF (by omega) ?_); conv => whnf)
 | ((first | refine if_dec (fun h => ?_) (fun h => ?_) | refine if_ndec (fun h => ?_) (fun h => ?_) | refine if_cond (fun h => ?_) (fun h => ?_)); all_goals (conv => whnf))
 | with_reducible apply_assumption -symm -exfalso)
          · have hr4 : (((T : Nat) : Int) - ((f : Nat) : Int)).tmod 4 = (((T - f) % 4 : Nat) : Int) := by rw [IntWalk.rem_in _ _ (by omega)]; omega
            have hne : (T - f) % 4 ≠ 0 := fun h => hD (hdd.1 h)
            repeat' (first
 | with_reducible (first | refine r_seq (fun KS hS => ?_) | (refine hS _ _ ?_; clear hS KS) | (refine hA _ ?_; clear hA KA) | (refine hB _ ?_; clear hB KB) | refine r_block ?_)
 | ((with_reducible (first | refine r_region ?_ | refine r_cond (fun KA hA KB hB => ?_) | refine r_ret ?_ | refine r_skip ?_ | refine r_exit ?_ | refine And.intro rfl ?_ | intro b)); conv => whnf)
 | ((with_reducible refine WrapK.i64 ?_ ?_); (focus omega); conv => whnf)
 | ((with_reducible refine OpK.id ?_); (first | refine OpK.lkMs rfl rfl rfl rfl rfl rfl rfl rfl (SeesM.ext (by repeat (first | with_reducible apply At.head | apply At.tail))) hfs ?_ | refine OpK.idx (k := 6) rfl rfl rfl rfl rfl rfl rfl (Sees.ext (by repeat (first | with_reducible apply At.head | apply At.tail))) (by omega) (by omega) (at_item hy) (fun b off hp => ?_) | refine OpK.ldp rfl rfl hp (List.cons_ne_nil _ _) ?_); conv => whnf)
 | ((with_reducible refine CallK.at 20 ?_); refine CallK.pu (fun w => number1020 (x := y) w) ?_; conv => whnf)
 | ((with_reducible refine OpK.id ?_); refine OpK.app (k := 1) rfl rfl rfl rfl rfl rfl rfl rfl (by repeat (first | with_reducible apply At.head | apply At.tail)) (SrcK.slc rfl rfl (by repeat (first | constructor | apply List.Mem.tail)) (Nat.le_refl _) rfl) (big_ok (by omega) (by decide)) (fun va2 vc2 => ?_); conv => whnf)
 | ((with_reducible refine RemK.id ?_); refine RemK.eq (by decide) hr4 ?_; conv => whnf)
 | (refine hL3 (j + 1, (wa, wc), (va2, vc2)) _ _ (by show j + 1 ≤ _; omega) (by show Y.length - (j + 1) < Y.length - j; omega) (by dsimp only; rw [hfl0 hD]; exact (by repeat' (first | exact Sub.nil | (refine Sub.cons rfl rfl ?_)))) (by dsimp only; rw [hfl0 hD, hky, ← hpf]; exact (by (try dsimp only [List.cons_append, List.nil_append, den, denL]); refine SelI.spec ?_; (repeat (first | refine SelI.blk (by repeat (first | with_reducible apply Rm.head | apply Rm.tail)) ?_ | refine SelI.ext (by repeat (first | with_reducible apply Rm.head | apply Rm.tail)) ?_ | (refine SelI.blk' (by repeat (first | with_reducible apply Rm.head | apply Rm.tail)) ?_ ?_; focus rfl) | (refine SelI.ext' (by repeat (first | with_reducible apply Rm.head | apply Rm.tail)) ?_ ?_; focus rfl))); exact SelI.nil)))
 | ((with_reducible apply OpK.more); (focus refine sok); (conv => whnf); fail_if_success guard_target =ₛ False)
 | ((with_reducible (first | refine InAt.mk (fun K' hK => ?_) | refine AnyAt.mk (fun K' hK => ?_) | (refine hK _ ?_; clear hK K') | (refine hK _ _ ?_; clear hK K'))); conv => whnf)
 | ((refine And.intro ?_ ?_); all_goals (conv => whnf))
 | (apply r_quiet; refine mixed; kernel_rfl; kernel_rfl; kernel_rfl; conv => whnf)
 | ((first | refine if_t (by decide) ?_ | refine if_f (by decide) ?_ | refine if_decT (by omega) ?_ | refine if_decF (by omega) ?_ | refine if_ndecT (by omega) ?_ | refine if_ndecF (by omega) ?_); conv => whnf)
 | ((first | refine if_dec (fun h => ?_) (fun h => ?_) | refine if_ndec (fun h => ?_) (fun h => ?_) | refine if_cond (fun h => ?_) (fun h => ?_)); all_goals (conv => whnf))
 | with_reducible apply_assumption -symm -exfalso)
--E
      · obtain rfl : j = Y.length := by omega
        rw [List.take_length]
        have hgt : ∀ x ∈ Y, ∀ a l, g x.num = some (a, l) → l ≤ T - 1 ∧ a ≤ 999999 := by
          intro x hx a l hg
          rcases hI.rel x (hN.sub x hx) with ⟨h2, _⟩ | ⟨a', l', f, h2, _, _, _, _, _, _⟩
          · rw [hg] at h2; cases h2
          · rw [hg] at h2; cases h2; omega
        have hDl := List.length_filter_le (dueB (keepG Y g) T) Y
        repeat' (first
 | with_reducible (first | refine r_seq (fun KS hS => ?_) | (refine hS _ _ ?_; clear hS KS) | (refine hA _ ?_; clear hA KA) | (refine hB _ ?_; clear hB KB) | refine r_block ?_)
 | ((with_reducible (first | refine r_region ?_ | refine r_cond (fun KA hA KB hB => ?_) | refine r_ret ?_ | refine r_skip ?_ | refine r_exit ?_ | refine And.intro rfl ?_ | intro b)); conv => whnf)
 | ((with_reducible refine WrapK.i64 ?_ ?_); (focus omega); conv => whnf)
 | (rw [show (((me + 1 : Nat) : Int) - 1) = (me : Int) by omega]; refine tickCallK (n := me + 1) (me := me) (tk := T - 1) (T := T) (gs := 3) hY (by omega) (RInv.keys hX (by omega) hI.dom) (by omega) (by omega) (by decide) (by omega) (by omega) hgt (Sel.cons (by repeat (first | with_reducible apply Rm.head | apply Rm.tail)) (Sel.cons (by repeat (first | with_reducible apply Rm.head | apply Rm.tail)) (Sel.cons (by repeat (first | with_reducible apply Rm.head | apply Rm.tail)) Sel.nil))) rfl (fun z => ?_); conv => whnf)
 | ((with_reducible refine CallK.id ?_); refine CallK.puW (fun ms w hk => eqMsgsN (L := (Y.filter (dueB (keepG Y g) T)).map (mV (keepG Y g) me (me + 1))) (by rw [List.length_map]) ((Sees.ext (by repeat (first | with_reducible apply At.head | apply At.tail))).rd hk) ((Sees.ext (by repeat (first | with_reducible apply At.head | apply At.tail))).rd hk) (by omega)) ?_; conv => whnf)
 | (refine waitingCallK (ask_keys hY (by omega)) (keys_length Y) (Sel.cons (by repeat (first | with_reducible apply Rm.head | apply Rm.tail)) (Sel.cons (by repeat (first | with_reducible apply Rm.head | apply Rm.tail)) Sel.nil)) rfl (fun z => ?_); conv => whnf)
 | ((with_reducible refine CallK.id ?_); refine CallK.puW (fun ms w hk => eqIntsN (L := keys Y) (keys_length Y) ((Sees.ext (by repeat (first | with_reducible apply At.head | apply At.tail))).rd hk) ((Sees.ext (by repeat (first | with_reducible apply At.head | apply At.tail))).rd hk) (by omega)) ?_; conv => whnf)
 | (refine hL (T + 1, askG (Y.filter (dueB (keepG Y g) T)) (keepG Y g) T (Y.filter (dueB (keepG Y g) T)).length, firstJ h1 T Y) _ _ ⟨by show 1 ≤ T + 1; omega, by show T + 1 ≤ 61; omega, hI.step hX hT1 hN⟩ (by show 62 - (T + 1) < 62 - T; omega) (by repeat' (first | exact Sub.nil | (refine Sub.cons rfl rfl ?_))) (by (try dsimp only [List.cons_append, List.nil_append, den, denL]); refine SelI.spec ?_; (repeat (first | refine SelI.blk (by repeat (first | with_reducible apply Rm.head | apply Rm.tail)) ?_ | refine SelI.ext (by repeat (first | with_reducible apply Rm.head | apply Rm.tail)) ?_ | (refine SelI.blk' (by repeat (first | with_reducible apply Rm.head | apply Rm.tail)) ?_ ?_; focus rfl) | (refine SelI.ext' (by repeat (first | with_reducible apply Rm.head | apply Rm.tail)) ?_ ?_; focus rfl))); exact SelI.nil))
 | ((with_reducible apply OpK.more); (focus refine sok); (conv => whnf); fail_if_success guard_target =ₛ False)
 | ((with_reducible (first | refine InAt.mk (fun K' hK => ?_) | refine AnyAt.mk (fun K' hK => ?_) | (refine hK _ ?_; clear hK K') | (refine hK _ _ ?_; clear hK K'))); conv => whnf)
 | ((refine And.intro ?_ ?_); all_goals (conv => whnf))
 | (apply r_quiet; refine mixed; kernel_rfl; kernel_rfl; kernel_rfl; conv => whnf)
 | ((first | refine if_t (by decide) ?_ | refine if_f (by decide) ?_ | refine if_decT (by omega) ?_ | refine if_decF (by omega) ?_ | refine if_ndecT (by omega) ?_ | refine if_ndecF (by omega) ?_); conv => whnf)
 | ((first | refine if_dec (fun h => ?_) (fun h => ?_) | refine if_ndec (fun h => ?_) (fun h => ?_) | refine if_cond (fun h => ?_) (fun h => ?_)); all_goals (conv => whnf))
 | with_reducible apply_assumption -symm -exfalso)
  · exact FinK.pu rfl
end Go.Proofs.YthmjkaljkgjicaaGreatDoor
