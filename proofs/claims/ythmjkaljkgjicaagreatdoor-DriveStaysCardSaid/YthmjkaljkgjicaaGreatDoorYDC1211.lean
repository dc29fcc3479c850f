/- Contracts and lemmas for the claim (part 11); no condition of its own. -/
import Derived.Test.YthmjkaljkgjicaaGreatDoorYDC1210
import Derived.Test.YthmjkaljkgjicaaGreatDoorYDC1203
set_option linter.all false
set_option linter.unusedVariables false
set_option linter.unusedSimpArgs false
set_option linter.unnecessarySimpa false
set_option linter.all false
namespace Go.X
theorem OldC.of_got {w : World} {b off : Nat} {cs : List SV} {t : TypeId} {f : Nat × Nat} {c : SV} (h : w.heap[b]? = some (.cells (denL cs).toArray t f)) (hc : cs[off]? = some c) : OldC w b off [c] := by
  refine ⟨_, _, _, h, fun j v hj => ?_⟩
  match j, hj with
  | 0, hj =>
    have : den c = v := by simpa [denL] using hj
    subst this
    rw [denL_eq, List.getElem?_toArray, List.getElem?_map, Nat.add_zero, hc]; rfl
  | j + 1, hj => simp [denL] at hj
end Go.X
namespace Go.Proofs.YthmjkaljkgjicaaGreatDoor
open Go Go.X
set_option maxRecDepth 100000
set_option maxHeartbeats 0
theorem answer1012 {X : List OI} (hX : Asc X) (hl : X.length ≤ 1000) {a : Option Addr} {cap j : Nat} {y : OI} (hy : X[j]? = some y) {d mp to f e : Nat} {n gs tk rn : Int} {rx : ByteArray} {w : World} (hd : DAt w d n gs tk mp) (hka : KAt w) (hr : RdS w 47 6 a X.length cap (X.flatMap OI.cells)) (hn : 1 ≤ n ∧ n ≤ 7) (hto : (to : Int) / n = y.1.g) (hto2 : to ≤ 55) (hf : f ≤ 55) (hft : f < to ∨ to < f) (he : 0 ≤ (e : Int) ∧ (e : Int) ≤ 18) (hrn : NumOk rn) (hrx : rx.size ≤ 65536) (hrl : (uvar e ++ uvar (zigN rn) ++ uvar rx.size ++ rx.data.toList).length ≤ 65536) :
    PuE Tryz.prog 12 #[pv d, .agg #[.int .i64 11, .int .i64 (to : Nat), .int .i64 (f : Nat), .int .i64 0, .int .i64 0, .int .i64 0, .int .i64 y.num, .string ⟨(uvar e ++ uvar (zigN rn) ++ uvar rx.size ++ rx.data.toList).toArray⟩, .slice none 0 0], .slice a X.length cap] w (fun _ => True) := by
  have sa := fun n' r H => Sees.old (c := ⟨Tryz.prog, TB, n', w, noS, r, TBok⟩) (H := H) hr.old
  have hjl : j < X.length := (List.getElem?_eq_some_iff.1 hy).1
  obtain ⟨kd, key, dl, fr, data, hC⟩ := cmdOf y
  have hnb := num_le (OI.itemOk y) hC.numEq
  have hq : IntKind.i64.wrap ((to : Int).tdiv n) = y.1.g := by rw [IntWalk.i64_quo _ _ (by omega), hto]
  have hv' : (ByteArray.mk (uvar e ++ uvar (zigN rn) ++ uvar rx.size ++ rx.data.toList).toArray).data.toList = uvar e ++ (uvar (zigN rn) ++ (uvar rx.size ++ rx.data.toList ++ [])) := by simp
  refine enter_sound TBok Tryz.func12 rfl rfl Tryz.ntmps12 [.v (pv d), .agg [.v (.int .i64 11), .v (.int .i64 (to : Nat)), .v (.int .i64 (f : Nat)), .v (.int .i64 0), .v (.int .i64 0), .v (.int .i64 0), .v (.int .i64 (y.num : Nat)), .v (.string ⟨(uvar e ++ uvar (zigN rn) ++ uvar rx.size ++ rx.data.toList).toArray⟩), .v (.slice none 0 0)], .v (.slice a X.length cap)] (Kn.start w noS) rfl rfl ?_
  conv => whnf
  repeat' (first
 | with_reducible (first | refine r_seq (fun KS hS => ?_) | (refine hS _ _ ?_; clear hS KS) | (refine hA _ ?_; clear hA KA) | (refine hB _ ?_; clear hB KB) | refine r_block ?_)
 | ((with_reducible (first | refine r_region ?_ | refine r_cond (fun KA hA KB hB => ?_) | refine r_ret ?_ | refine r_skip ?_ | refine r_exit ?_ | refine And.intro rfl ?_ | intro b)); conv => whnf)
 | ((with_reducible refine WrapK.i64 ?_ ?_); (focus omega); conv => whnf)
 | ((with_reducible refine CallK.at 39 ?_); refine CallK.puW (fun ms w hk => check_ans28 (hka.now id hk) (by omega) (by omega) (by omega) (by omega) (by show List.length _ ≤ _; exact hrl)) ?_; conv => whnf)
 | ((with_reducible refine CallK.at 27 ?_); refine CallK.puW (fun ms w hk => made45 (hk.oldO hd id)) ?_; conv => whnf)
 | ((with_reducible refine CallK.at 40 ?_); refine CallK.puW (fun ms w hk => indexAns1040 hX hl hy ((sa _ _ _).rd hk) (OldC.of_got (hk.got (by repeat (first | constructor | apply List.Mem.tail))) rfl) (OldC.of_got (hk.got (by repeat (first | constructor | apply List.Mem.tail))) rfl) (OldC.of_got (hk.got (by repeat (first | constructor | apply List.Mem.tail))) rfl) (OldC.of_got (hk.oldO hd id) rfl) hn hq) ?_; conv => whnf)
 | ((with_reducible refine OpK.id ?_); (first | refine OpK.idx (k := 6) rfl rfl rfl rfl rfl rfl rfl (sa _ _ _) (by omega) (by omega) (at_item hy) (fun b off hp => ?_) | refine OpK.ldp rfl rfl hp (List.cons_ne_nil _ _) ?_ | (refine OpK.cvSB rfl rfl rfl rfl rfl rfl rfl rfl ?_; rw [hv'])); conv => whnf)
 | (intro a' cap'; conv => whnf)
 | ((with_reducible refine CallK.at 42 ?_); refine CallK.puW (fun ms w hkn => parse71 (Sees.rd (Sees.ext (by repeat (first | with_reducible apply At.head | apply At.tail))) hkn) he hrn hrx (by exact hrl)) ?_; conv => whnf)
 | ((with_reducible apply OpK.more); (focus refine sok); (conv => whnf); fail_if_success guard_target =ₛ False)
 | ((with_reducible (first | refine InAt.mk (fun K' hK => ?_) | refine AnyAt.mk (fun K' hK => ?_) | (refine hK _ ?_; clear hK K') | (refine hK _ _ ?_; clear hK K'))); conv => whnf)
 | ((refine And.intro ?_ ?_); all_goals (conv => whnf))
 | (apply r_quiet; refine mixed; kernel_rfl; kernel_rfl; kernel_rfl; conv => whnf)
 | ((first | refine if_t (by decide) ?_ | refine if_f (by decide) ?_ | refine if_decT (by omega) ?_ | refine if_decF (by omega) ?_ | refine if_ndecT (by omega) ?_ | refine if_ndecF (by omega) ?_); conv => whnf)
 | ((first | refine if_dec (fun h => ?_) (fun h => ?_) | refine if_ndec (fun h => ?_) (fun h => ?_) | refine if_cond (fun h => ?_) (fun h => ?_)); all_goals (conv => whnf))
 | with_reducible apply_assumption -symm -exfalso)
  all_goals exact FinK.puE trivial
end Go.Proofs.YthmjkaljkgjicaaGreatDoor

set_option linter.all false
namespace Go.Proofs.YthmjkaljkgjicaaGreatDoor
open Go Go.X
set_option maxRecDepth 100000
set_option maxHeartbeats 0
theorem tickOff1007 {d mp : Nat} {n gs tk me : Int} {w : World} (hd : DAt w d n gs tk mp) (hme : me < 0 ∨ (0 ≤ me ∧ n ≤ me)) :
    Pu Tryz.prog 7 #[pv d, .int .i64 me, .slice none 0 0, .func (.func 8) #[] #[]] w (.slice none 0 0) := by
  refine Pu.ofFrZ (enter_ro TBok (cs := DC n gs tk mp) hd Tryz.func7 rfl rfl Tryz.ntmps7 [.loc d 10 0, .v (.int .i64 me), .v (.slice none 0 0), .fn 8 []] rfl rfl ?_)
  unfold DC
  conv => whnf
  rcases hme with h1 | ⟨h1, h2⟩
  all_goals (
  repeat' (first
 | with_reducible (first | refine r_seq (fun KS hS => ?_) | (refine hS _ _ ?_; clear hS KS) | (refine hA _ ?_; clear hA KA) | (refine hB _ ?_; clear hB KB) | refine r_block ?_)
 | ((with_reducible (first | refine r_region ?_ | refine r_cond (fun KA hA KB hB => ?_) | refine r_ret ?_ | refine r_skip ?_ | refine r_exit ?_ | refine And.intro rfl ?_ | intro b)); conv => whnf)
 | ((with_reducible refine WrapK.i64 ?_ ?_); (focus omega); conv => whnf)
 | ((with_reducible refine CallQ.at 27 ?_); refine CallQ.puW (fun ms w hk => made45 (hk.got (by repeat (first | constructor | apply List.Mem.tail)))) ?_; conv => whnf)
 | ((with_reducible refine CallK.at 27 ?_); refine CallK.puW (fun ms w hk => made45 (hk.got (by repeat (first | constructor | apply List.Mem.tail)))) ?_; conv => whnf)
 | ((with_reducible refine QK.id ?_); (refine QK.eqV sok rfl rfl rfl ?_); conv => whnf)
 | ((with_reducible refine IK.id ?_); (refine IK.eqV sok rfl rfl rfl ?_); conv => whnf)
 | ((with_reducible apply OpK.more); (focus refine sok); (conv => whnf); fail_if_success guard_target =ₛ False)
 | with_reducible (first | refine Rounds.step (fun KL hL => ?_) | (refine hL _ _ ?_; clear hL KL) | refine r_rounds 100 ?_)
 | ((with_reducible (first | refine InAt.mk (fun K' hK => ?_) | refine AnyAt.mk (fun K' hK => ?_) | (refine hK _ ?_; clear hK K') | (refine hK _ _ ?_; clear hK K'))); conv => whnf)
 | ((refine And.intro ?_ ?_); all_goals (conv => whnf))
 | (apply r_quiet; refine mixed; kernel_rfl; kernel_rfl; kernel_rfl; conv => whnf)
 | ((first | refine if_t (by decide) ?_ | refine if_f (by decide) ?_ | refine if_decT (by omega) ?_ | refine if_decF (by omega) ?_ | refine if_ndecT (by omega) ?_ | refine if_ndecF (by omega) ?_); conv => whnf)
 | ((first | refine if_dec (fun h => ?_) (fun h => ?_) | refine if_ndec (fun h => ?_) (fun h => ?_) | refine if_cond (fun h => ?_) (fun h => ?_)); all_goals (conv => whnf))
 | with_reducible apply_assumption -symm -exfalso)
  )
  all_goals exact FinK.ro0 rfl (HSub.pick (by repeat (first | with_reducible apply At.head | apply At.tail)))
theorem tickNil1007 {d mp : Nat} {n gs tk : Int} {w : World} (hd : DAt w d n gs tk mp) (hn : 0 < n) :
    Pu Tryz.prog 7 #[pv d, .int .i64 0, .slice none 0 0, .nilFunc] w (.slice none 0 0) := by
  refine Pu.ofFrZ (enter_ro TBok (cs := DC n gs tk mp) hd Tryz.func7 rfl rfl Tryz.ntmps7 [.loc d 10 0, .v (.int .i64 0), .v (.slice none 0 0), .v .nilFunc] rfl rfl ?_)
  unfold DC
  conv => whnf
  repeat' (first
 | with_reducible (first | refine r_seq (fun KS hS => ?_) | (refine hS _ _ ?_; clear hS KS) | (refine hA _ ?_; clear hA KA) | (refine hB _ ?_; clear hB KB) | refine r_block ?_)
 | ((with_reducible (first | refine r_region ?_ | refine r_cond (fun KA hA KB hB => ?_) | refine r_ret ?_ | refine r_skip ?_ | refine r_exit ?_ | refine And.intro rfl ?_ | intro b)); conv => whnf)
 | ((with_reducible refine WrapK.i64 ?_ ?_); (focus omega); conv => whnf)
 | ((with_reducible refine CallQ.at 27 ?_); refine CallQ.puW (fun ms w hk => made45 (hk.got (by repeat (first | constructor | apply List.Mem.tail)))) ?_; conv => whnf)
 | ((with_reducible refine CallK.at 27 ?_); refine CallK.puW (fun ms w hk => made45 (hk.got (by repeat (first | constructor | apply List.Mem.tail)))) ?_; conv => whnf)
 | ((with_reducible refine QK.id ?_); (refine QK.eqV sok rfl rfl rfl ?_); conv => whnf)
 | ((with_reducible refine IK.id ?_); (refine IK.eqV sok rfl rfl rfl ?_); conv => whnf)
 | ((with_reducible apply OpK.more); (focus refine sok); (conv => whnf); fail_if_success guard_target =ₛ False)
 | with_reducible (first | refine Rounds.step (fun KL hL => ?_) | (refine hL _ _ ?_; clear hL KL) | refine r_rounds 100 ?_)
 | ((with_reducible (first | refine InAt.mk (fun K' hK => ?_) | refine AnyAt.mk (fun K' hK => ?_) | (refine hK _ ?_; clear hK K') | (refine hK _ _ ?_; clear hK K'))); conv => whnf)
 | ((refine And.intro ?_ ?_); all_goals (conv => whnf))
 | (apply r_quiet; refine mixed; kernel_rfl; kernel_rfl; kernel_rfl; conv => whnf)
 | ((first | refine if_t (by decide) ?_ | refine if_f (by decide) ?_ | refine if_decT (by omega) ?_ | refine if_decF (by omega) ?_ | refine if_ndecT (by omega) ?_ | refine if_ndecF (by omega) ?_); conv => whnf)
 | ((first | refine if_dec (fun h => ?_) (fun h => ?_) | refine if_ndec (fun h => ?_) (fun h => ?_) | refine if_cond (fun h => ?_) (fun h => ?_)); all_goals (conv => whnf))
 | with_reducible apply_assumption -symm -exfalso)
  all_goals exact FinK.ro0 rfl (HSub.pick (by repeat (first | with_reducible apply At.head | apply At.tail)))
theorem copy1014 {f : Int → Option Value} {n gs tk : Int} {d mp : Nat} (w : World) :
    FrZ Tryz.prog 14 #[pv d] w (AssL [.ext 4 (MpK mp f), .blk 3 d (DC n gs tk mp) 80]) (fun z : Nat × Nat => pv z.1) (fun z => AssL [.blk 63 z.1 (DC n gs tk z.2) 80, .ext 64 (MpK z.2 f), .ext 4 (MpK mp f), .blk 3 d (DC n gs tk mp) 80]) := by
  refine enter_frZ TBok (H := [.ext 4 (MpK mp f), .blk 3 d (DC n gs tk mp) 80]) all_foot Tryz.func14 rfl rfl Tryz.ntmps14 [.loc d 3 0] rfl rfl ?_
  intro S _ _
  unfold DC
  conv => whnf
  repeat' (first
 | with_reducible (first | refine r_seq (fun KS hS => ?_) | (refine hS _ _ ?_; clear hS KS) | (refine hA _ ?_; clear hA KA) | (refine hB _ ?_; clear hB KB) | refine r_block ?_)
 | ((with_reducible (first | refine r_region ?_ | refine r_cond (fun KA hA KB hB => ?_) | refine r_ret ?_ | refine r_skip ?_ | refine r_exit ?_ | refine And.intro rfl ?_ | intro b)); conv => whnf)
 | ((with_reducible refine WrapK.i64 ?_ ?_); (focus omega); conv => whnf)
 | ((with_reducible refine CallK.at 27 ?_); refine CallK.puW (fun ms w hk => made45 (hk.got (by repeat (first | constructor | apply List.Mem.tail)))) ?_; conv => whnf)
 | ((with_reducible refine CallK.id ?_); refine CallK.cloneM (i := 0) cloneOk43 (SeesM.ext (by repeat (first | with_reducible apply At.head | apply At.tail))) ?_; conv => whnf)
 | (intro m'; conv => whnf)
 | ((with_reducible apply OpK.more); (focus refine sok); (conv => whnf); fail_if_success guard_target =ₛ False)
 | with_reducible (first | refine Rounds.step (fun KL hL => ?_) | (refine hL _ _ ?_; clear hL KL) | refine r_rounds 100 ?_)
 | ((with_reducible (first | refine InAt.mk (fun K' hK => ?_) | refine AnyAt.mk (fun K' hK => ?_) | (refine hK _ ?_; clear hK K') | (refine hK _ _ ?_; clear hK K'))); conv => whnf)
 | ((refine And.intro ?_ ?_); all_goals (conv => whnf))
 | (apply r_quiet; refine mixed; kernel_rfl; kernel_rfl; kernel_rfl; conv => whnf)
 | ((first | refine if_t (by decide) ?_ | refine if_f (by decide) ?_ | refine if_decT (by omega) ?_ | refine if_decF (by omega) ?_ | refine if_ndecT (by omega) ?_ | refine if_ndecF (by omega) ?_); conv => whnf)
 | ((first | refine if_dec (fun h => ?_) (fun h => ?_) | refine if_ndec (fun h => ?_) (fun h => ?_) | refine if_cond (fun h => ?_) (fun h => ?_)); all_goals (conv => whnf))
 | with_reducible apply_assumption -symm -exfalso)
  rename Nat => q
  exact FinK.frZL (b, q) rfl (by (try dsimp only [List.cons_append, List.nil_append, den, denL]); refine SelI.spec ?_; (repeat (first | refine SelI.blk (by repeat (first | with_reducible apply Rm.head | apply Rm.tail)) ?_ | refine SelI.ext (by repeat (first | with_reducible apply Rm.head | apply Rm.tail)) ?_ | (refine SelI.blk' (by repeat (first | with_reducible apply Rm.head | apply Rm.tail)) ?_ ?_; focus rfl) | (refine SelI.ext' (by repeat (first | with_reducible apply Rm.head | apply Rm.tail)) ?_ ?_; focus rfl))); exact SelI.nil)
theorem reset1017 {f : Int → Option Value} {n gs tk : Int} {d mp : Nat} (w : World) :
    FrZ Tryz.prog 17 #[pv d] w (AssL [.ext 4 (MpK mp f), .blk 3 d (DC n gs tk mp) 80]) (fun _ : Unit => .tuple #[]) (fun _ => AssL [.ext 4 (MpK mp fun _ => none), .blk 3 d (DC n gs tk mp) 80]) := by
  refine enter_frZ TBok (H := [.ext 4 (MpK mp f), .blk 3 d (DC n gs tk mp) 80]) all_foot Tryz.func17 rfl rfl Tryz.ntmps17 [.loc d 3 0] rfl rfl ?_
  intro S _ _
  unfold DC
  conv => whnf
  repeat' (first
 | with_reducible (first | refine r_seq (fun KS hS => ?_) | (refine hS _ _ ?_; clear hS KS) | (refine hA _ ?_; clear hA KA) | (refine hB _ ?_; clear hB KB) | refine r_block ?_)
 | ((with_reducible (first | refine r_region ?_ | refine r_cond (fun KA hA KB hB => ?_) | refine r_ret ?_ | refine r_skip ?_ | refine r_exit ?_ | refine And.intro rfl ?_ | intro b)); conv => whnf)
 | ((with_reducible refine WrapK.i64 ?_ ?_); (focus omega); conv => whnf)
 | ((with_reducible refine CallK.at 27 ?_); refine CallK.puW (fun ms w hk => made45 (hk.got (by repeat (first | constructor | apply List.Mem.tail)))) ?_; conv => whnf)
 | ((with_reducible refine OpK.id ?_); refine OpK.clK rfl rfl rfl rfl (by repeat (first | with_reducible apply At.head | apply At.tail)) ?_; conv => whnf)
 | ((with_reducible apply OpK.more); (focus refine sok); (conv => whnf); fail_if_success guard_target =ₛ False)
 | with_reducible (first | refine Rounds.step (fun KL hL => ?_) | (refine hL _ _ ?_; clear hL KL) | refine r_rounds 100 ?_)
 | ((with_reducible (first | refine InAt.mk (fun K' hK => ?_) | refine AnyAt.mk (fun K' hK => ?_) | (refine hK _ ?_; clear hK K') | (refine hK _ _ ?_; clear hK K'))); conv => whnf)
 | ((refine And.intro ?_ ?_); all_goals (conv => whnf))
 | (apply r_quiet; refine mixed; kernel_rfl; kernel_rfl; kernel_rfl; conv => whnf)
 | ((first | refine if_t (by decide) ?_ | refine if_f (by decide) ?_ | refine if_decT (by omega) ?_ | refine if_decF (by omega) ?_ | refine if_ndecT (by omega) ?_ | refine if_ndecF (by omega) ?_); conv => whnf)
 | ((first | refine if_dec (fun h => ?_) (fun h => ?_) | refine if_ndec (fun h => ?_) (fun h => ?_) | refine if_cond (fun h => ?_) (fun h => ?_)); all_goals (conv => whnf))
 | with_reducible apply_assumption -symm -exfalso)
  exact FinK.frZL () rfl (by (try dsimp only [List.cons_append, List.nil_append, den, denL]); refine SelI.spec ?_; (repeat (first | refine SelI.blk (by repeat (first | with_reducible apply Rm.head | apply Rm.tail)) ?_ | refine SelI.ext (by repeat (first | with_reducible apply Rm.head | apply Rm.tail)) ?_ | (refine SelI.blk' (by repeat (first | with_reducible apply Rm.head | apply Rm.tail)) ?_ ?_; focus rfl) | (refine SelI.ext' (by repeat (first | with_reducible apply Rm.head | apply Rm.tail)) ?_ ?_; focus rfl))); exact SelI.nil)
end Go.Proofs.YthmjkaljkgjicaaGreatDoor

set_option linter.all false
namespace Go.Proofs.YthmjkaljkgjicaaGreatDoor
open Go Go.X
set_option maxRecDepth 100000
set_option maxHeartbeats 0
theorem tick0K {nn : Nat} {W : World} {S : Nat → Prop} {r : Option Nat} {H R : List Blk} {nx : K1} {X : List OI} (hX : Asc X) (hXl : X.length ≤ 1000) {g : WG} {ks : List Int} (hks : KeysOf (wf g) ks) {tk T : Nat} (hT : tk + 1 = T) {d mp i9 i4 i3 : Nat} {cap : Nat} {c3 : List SV} {a : Option Addr} (htk : tk ≤ 999999) (hgt : ∀ x ∈ X, ∀ a l, g x.num = some (a, l) → l ≤ tk ∧ a ≤ 999999) {D : List OI} (hD : X.filter (dueB (keepG X g) T) = D)
    (hs : Sel H [.ext i9 (SlA 47 6 a X.length cap (X.flatMap OI.cells)), .ext i4 (MpK mp (wf g)), .blk i3 d c3 80] R) (e3 : denL c3 = denL (DC 5 3 tk mp))
    (hx : ∀ z : Option Addr × Nat, nx (.v (.slice z.1 D.length z.2)) (.ext 370 (SlA 38 9 z.1 D.length z.2 ((D.map (mV (keepG X g) 0 5)).flatMap MV.cells)) :: .ext i9 (SlA 47 6 a X.length cap (X.flatMap OI.cells)) :: .ext i4 (MpK mp (wf (askG D (keepG X g) T D.length))) :: .blk i3 d (DC 5 3 T mp) 80 :: R)) :
    CallK ⟨Tryz.prog, TB, nn, W, S, r, TBok⟩ 7 [.v (pv d), .v (.int .i64 0), .v (.slice a X.length cap), .fn 8 []] H nx := by
  subst hD
  exact tickCallK (n := 5) (me := 0) (gs := 3) hX hXl hks hT (by omega) (by omega) (by omega) htk hgt hs e3 hx
theorem tickNoneK {nn : Nat} {W : World} {S : Nat → Prop} {r : Option Nat} {H R : List Blk} {nx : K1} {g : WG} {ks : List Int} (hks : KeysOf (wf g) ks) {tk T : Nat} (hT : tk + 1 = T) {d mp i4 i3 : Nat} {c3 : List SV} (htk : tk ≤ 999999)
    (hs : Sel H [.ext i4 (MpK mp (wf g)), .blk i3 d c3 80] R) (e3 : denL c3 = denL (DC 5 3 tk mp))
    (hx : ∀ z : Option Addr × Nat, nx (.v (.slice z.1 0 z.2)) (.ext i4 (MpK mp fun _ => none) :: .blk i3 d (DC 5 3 T mp) 80 :: R)) :
    CallK ⟨Tryz.prog, TB, nn, W, S, r, TBok⟩ 7 [.v (pv d), .v (.int .i64 0), .v (.slice none 0 0), .fn 8 []] H nx := by
  subst hT
  have hno : wf (askG (([] : List OI).filter (dueB (keepG [] g) (tk + 1))) (keepG [] g) (tk + 1) 0) = fun _ => none := by
    funext z
    show wf (keepG [] g) z = none
    rw [wf_none]
    exact keepG_out (fun x hx => by cases hx)
  refine CallK.frL (v := fun z : Option Addr × Nat => .slice z.1 0 z.2) (L0 := [.ext 9 (SlA 47 6 none 0 0 (([] : List OI).flatMap OI.cells)), .ext 4 (MpK mp (wf g)), .blk 3 d (DC 5 3 tk mp) 80]) hs (HSub.addSl (HSub.ext (fun _ _ h => h) (HSub.keep e3 HSub.nil))) (fun _ w _ => tick1007 (X := []) (n := 5) (me := 0) (gs := 3) (cap := 0) (a := none) (.nil) (Nat.zero_le _) hks (by omega) (by omega) (by omega) htk (fun x hx => by cases hx) w)
    (M' := fun z => [.ext i4 (MpK mp fun _ => none), .blk i3 d (DC 5 3 (tk + 1 : Nat) mp) 80]) (fun z => HSub.drop (HSub.drop (HSub.ext (fun _ _ h => by rw [← hno]; exact h) (HSub.keep rfl HSub.nil)))) hx
theorem copyCallK {nn : Nat} {W : World} {S : Nat → Prop} {r : Option Nat} {H R : List Blk} {nx : K1} {f : Int → Option Value} {n gs tk : Int} {d mp i4 i3 : Nat} {c3 : List SV}
    (hs : Sel H [.ext i4 (MpK mp f), .blk i3 d c3 80] R) (e3 : denL c3 = denL (DC n gs tk mp))
    (hx : ∀ z : Nat × Nat, nx (.v (pv z.1)) (.blk 363 z.1 (DC n gs tk z.2) 80 :: .ext 364 (MpK z.2 f) :: .ext i4 (MpK mp f) :: .blk i3 d (DC n gs tk mp) 80 :: R)) :
    CallK ⟨Tryz.prog, TB, nn, W, S, r, TBok⟩ 14 [.v (pv d)] H nx :=
  CallK.frL (v := fun z : Nat × Nat => pv z.1) (L0 := [.ext 4 (MpK mp f), .blk 3 d (DC n gs tk mp) 80]) hs (HSub.ext (fun _ _ h => h) (HSub.keep e3 HSub.nil)) (fun _ w _ => copy1014 w)
    (M' := fun z => [.blk 363 z.1 (DC n gs tk z.2) 80, .ext 364 (MpK z.2 f), .ext i4 (MpK mp f), .blk i3 d (DC n gs tk mp) 80]) (fun z => HSub.keep rfl (HSub.ext (fun _ _ h => h) (HSub.ext (fun _ _ h => h) (HSub.keep rfl HSub.nil)))) hx
theorem resetCallK {nn : Nat} {W : World} {S : Nat → Prop} {r : Option Nat} {H R : List Blk} {nx : K1} {f : Int → Option Value} {n gs tk : Int} {d mp i4 i3 : Nat} {c3 : List SV}
    (hs : Sel H [.ext i4 (MpK mp f), .blk i3 d c3 80] R) (e3 : denL c3 = denL (DC n gs tk mp))
    (hx : nx (.v (.tuple #[])) (.ext i4 (MpK mp (wf fun _ => none)) :: .blk i3 d (DC n gs tk mp) 80 :: R)) :
    CallK ⟨Tryz.prog, TB, nn, W, S, r, TBok⟩ 17 [.v (pv d)] H nx :=
  CallK.frL (v := fun _ : Unit => .tuple #[]) (L0 := [.ext 4 (MpK mp f), .blk 3 d (DC n gs tk mp) 80]) hs (HSub.ext (fun _ _ h => h) (HSub.keep e3 HSub.nil)) (fun _ w _ => reset1017 w)
    (M' := fun _ => [.ext i4 (MpK mp (wf fun _ => none)), .blk i3 d (DC n gs tk mp) 80]) (fun z => HSub.ext (fun _ _ h => h) (HSub.keep rfl HSub.nil)) (fun _ => hx)
/-! the plain law -/
theorem due_all {X : List OI} {T : Nat} : X.filter (dueB (keepG X fun _ => none) T) = X := by
  rw [List.filter_eq_self]
  intro x _
  have : keepG X (fun _ => none) x.num = none := by unfold keepG; split <;> rfl
  unfold dueB; rw [this]
theorem keep_none {X : List OI} : keepG X (fun _ => none) = fun _ => none := by funext z; unfold keepG; split <;> rfl
noncomputable def mQ (y : OI) : MV := ⟨10, 0, ((y.1.g * 5 : Nat) : Int), y.num, ⟨(encOf y).toArray⟩⟩
theorem mV_none {X : List OI} : X.map (mV (keepG X fun _ => none) 0 5) = X.map mQ := by
  rw [keep_none]
  refine List.map_congr_left fun y _ => ?_
  unfold mV mQ askedN
  simp
end Go.Proofs.YthmjkaljkgjicaaGreatDoor

set_option linter.all false
namespace Go.Proofs.YthmjkaljkgjicaaGreatDoor
open Go Go.X
set_option maxRecDepth 100000
set_option maxHeartbeats 0
theorem keysNil : KeysOf (fun _ : Int => (none : Option Value)) [] := ⟨List.Pairwise.nil, fun z => by simp, by decide⟩
theorem _root_.Go.X.RInv.gt {X : List OI} {T : Nat} {g : WG} {h : Int → Option Nat} (hI : RInv X (T + 1) g h) (hT : T ≤ 1000) : ∀ x ∈ X, ∀ a l, g x.num = some (a, l) → l ≤ T ∧ a ≤ 999999 := by
  intro x hx a l hg
  rcases hI.rel x hx with ⟨h2, _⟩ | ⟨a', l', f, h2, _, _, _, _, _, _⟩
  · rw [hg] at h2; cases h2
  · rw [hg] at h2; cases h2; omega
theorem at_mQ {X : List OI} {j : Nat} {y : OI} (hy : X[j]? = some y) : (((X.map mQ).flatMap MV.cells).drop ((j : Int).toNat * 9)).take 9 = denL [.v (.int .i64 10), .v (.int .i64 0), .v (.int .i64 ((y.1.g * 5 : Nat) : Int)), .v (.int .i64 0), .v (.int .i64 0), .v (.int .i64 0), .v (.int .i64 (y.num : Nat)), .v (.string ⟨(encOf y).toArray⟩), .v (.slice none 0 0)] :=
  at_msg (x := mQ y) (by rw [List.getElem?_map, hy]; rfl)
theorem tickFirstK {nn : Nat} {W : World} {S : Nat → Prop} {r : Option Nat} {H R : List Blk} {nx : K1} {X : List OI} (hX : Asc X) (hXl : X.length ≤ 1000) {tk T : Nat} (hT : tk + 1 = T) {d mp i9 i4 i3 : Nat} {cap : Nat} {c3 : List SV} {a : Option Addr} (htk : tk ≤ 999999)
    (hs : Sel H [.ext i9 (SlA 47 6 a X.length cap (X.flatMap OI.cells)), .ext i4 (MpK mp (wf fun _ => none)), .blk i3 d c3 80] R) (e3 : denL c3 = denL (DC 5 3 tk mp))
    (hx : ∀ z : Option Addr × Nat, nx (.v (.slice z.1 X.length z.2)) (.ext 370 (SlA 38 9 z.1 X.length z.2 ((X.map mQ).flatMap MV.cells)) :: .ext i9 (SlA 47 6 a X.length cap (X.flatMap OI.cells)) :: .ext i4 (MpK mp (wf (askG X (keepG X fun _ => none) T X.length))) :: .blk i3 d (DC 5 3 T mp) 80 :: R)) :
    CallK ⟨Tryz.prog, TB, nn, W, S, r, TBok⟩ 7 [.v (pv d), .v (.int .i64 0), .v (.slice a X.length cap), .fn 8 []] H nx := by
  refine tick0K (g := fun _ => none) hX hXl (keysNil) hT htk (fun x _ a l h => by cases h) due_all hs e3 (fun z => ?_)
  have := hx z
  rwa [← mV_none] at this
theorem driveStays1003 {ks : List Nat} {a : Option Addr} {cap n : Nat} {w : World} (hka : KAt w) (hr : RdB w a (ks.map fun (k : Nat) => Value.int .u16 k)) (hcap : ks.length ≤ cap) (hk : ∀ k ∈ ks, k ≤ 65535) (hksl : ks.length ≤ 9223372036854775807) (hn : n ≤ 255) :
    Pu Tryz.prog 3 #[.slice a ks.length cap, .int .u8 n] w (.bool true) := by
  have sa := fun n' r H => SeesB.old (c := ⟨Tryz.prog, TB, n', w, noS, r, TBok⟩) (H := H) (hr.take (Nat.min ks.length 20)) (fun _ => id)
  obtain ⟨R, hR, hR1⟩ : ∃ R : Nat, (n : Int).tmod 20 = R ∧ R ≤ 19 := ⟨n % 20, by rw [IntWalk.rem_in _ _ (by omega)]; omega, by omega⟩
  refine enter_sound TBok Tryz.func3 rfl rfl Tryz.ntmps3 [.v (.slice a ks.length cap), .v (.int .u8 n)] (Kn.start w noS) rfl rfl ?_
  conv => whnf
  repeat' (first
 | (with_reducible refine r_stop 5 ?_)
 | with_reducible (first | refine r_seq (fun KS hS => ?_) | (refine hS _ _ ?_; clear hS KS) | (refine hA _ ?_; clear hA KA) | (refine hB _ ?_; clear hB KB) | refine r_block ?_)
 | ((with_reducible (first | refine r_region ?_ | refine r_cond (fun KA hA KB hB => ?_) | refine r_ret ?_ | refine r_skip ?_ | refine r_exit ?_ | refine And.intro rfl ?_ | intro b)); conv => whnf)
 | ((with_reducible refine WrapK.i64 ?_ ?_); (focus omega); conv => whnf)
 | ((with_reducible refine OpK.id ?_); (first | refine OpK.minN (b := 20) rfl rfl rfl ?_ | refine OpK.slB rfl rfl rfl rfl rfl rfl (Nat.le_trans (Nat.min_le_left _ _) hcap) ?_); conv => whnf)
 | ((with_reducible refine CallK.id ?_); refine CallK.fresh (fun ms w' hk' => setL20 (ks := ks) (by have := sa 0 none _ ms w' hk'; rwa [← List.map_take] at this) hk) ?_; conv => whnf)
 | (refine newCallK (n := 5) (gs := 3) (by omega) (by omega) (fun z => ?_); conv => whnf)
 | ((with_reducible apply OpK.more); (focus refine sok); (conv => whnf); fail_if_success guard_target =ₛ False)
 | ((with_reducible (first | refine InAt.mk (fun K' hK => ?_) | refine AnyAt.mk (fun K' hK => ?_) | (refine hK _ ?_; clear hK K') | (refine hK _ _ ?_; clear hK K'))); conv => whnf)
 | ((refine And.intro ?_ ?_); all_goals (conv => whnf))
 | (apply r_quiet; refine mixed; kernel_rfl; kernel_rfl; kernel_rfl; conv => whnf)
 | ((first | refine if_t (by decide) ?_ | refine if_f (by decide) ?_ | refine if_decT (by omega) ?_ | refine if_decF (by omega) ?_ | refine if_ndecT (by omega) ?_ | refine if_ndecF (by omega) ?_); conv => whnf)
 | ((first | refine if_dec (fun h => ?_) (fun h => ?_) | refine if_ndec (fun h => ?_) (fun h => ?_) | refine if_cond (fun h => ?_) (fun h => ?_)); all_goals (conv => whnf))
 | with_reducible apply_assumption -symm -exfalso)
  refine ⟨?_⟩
  obtain ⟨ia, icap, ⟨X, hX, hX20⟩⟩ := b
  obtain ⟨d, mp⟩ := z
  dsimp only
  repeat' (first
 | with_reducible (first | refine r_seq (fun KS hS => ?_) | (refine hS _ _ ?_; clear hS KS) | (refine hA _ ?_; clear hA KA) | (refine hB _ ?_; clear hB KB) | refine r_block ?_)
 | ((with_reducible (first | refine r_region ?_ | refine r_cond (fun KA hA KB hB => ?_) | refine r_ret ?_ | refine r_skip ?_ | refine r_exit ?_ | refine And.intro rfl ?_ | intro b)); conv => whnf)
 | ((with_reducible refine WrapK.i64 ?_ ?_); (focus omega); conv => whnf)
 | ((with_reducible refine RemK.id ?_); refine RemK.eq (by decide) hR ?_; conv => whnf)
 | ((with_reducible refine WrapK.id ?_); refine WrapK.eq (z' := ((R + 1 : Nat) : Int)) (by rw [wrap_i64 (by omega) (by omega)]; omega) ?_; conv => whnf)
 | ((with_reducible apply OpK.more); (focus refine sok); (conv => whnf); fail_if_success guard_target =ₛ False)
 | ((with_reducible (first | refine InAt.mk (fun K' hK => ?_) | refine AnyAt.mk (fun K' hK => ?_) | (refine hK _ ?_; clear hK K') | (refine hK _ _ ?_; clear hK K'))); conv => whnf)
 | ((refine And.intro ?_ ?_); all_goals (conv => whnf))
 | (apply r_quiet; refine mixed; kernel_rfl; kernel_rfl; kernel_rfl; conv => whnf)
 | ((first | refine if_t (by decide) ?_ | refine if_f (by decide) ?_ | refine if_decT (by omega) ?_ | refine if_decF (by omega) ?_ | refine if_ndecT (by omega) ?_ | refine if_ndecF (by omega) ?_); conv => whnf)
 | ((first | refine if_dec (fun h => ?_) (fun h => ?_) | refine if_ndec (fun h => ?_) (fun h => ?_) | refine if_cond (fun h => ?_) (fun h => ?_)); all_goals (conv => whnf))
 | with_reducible apply_assumption -symm -exfalso)
  rw [show (1 + (R : Int)) = ((R + 1 : Nat) : Int) by omega]
  refine r_loop (α := Nat × WG × List OI × Option Addr × Nat) (fun z => [(36, .v (.int .i64 (z.1 : Nat))), (35, .v (.int .i64 (R + 1 : Nat))), (8, .v (.slice z.2.2.2.1 z.2.2.1.length z.2.2.2.2)), (6, .v (pv d)), (5, .v (.slice ia X.length icap))]) (fun z => [.ext 201 (SlA 38 9 z.2.2.2.1 z.2.2.1.length z.2.2.2.2 ((z.2.2.1.map mQ).flatMap MV.cells)), .blk 103 d (DC 5 3 (z.1 : Nat) mp) 80, .ext 104 (MpK mp (wf z.2.1)), .ext 200 (SlA 47 6 ia X.length icap (X.flatMap OI.cells))]) (fun z => z.1 ≤ R + 1 ∧ (∃ h, RInv X (z.1 + 1) z.2.1 h) ∧ ((z.1 = 0 ∧ z.2.1 = (fun _ => none) ∧ z.2.2.1 = []) ∨ (1 ≤ z.1 ∧ z.2.2.1 = X ∧ KeysOf (wf z.2.1) (keys X)))) (fun z => R + 2 - z.1) (0, (fun _ => none), [], none, 0) ⟨Nat.zero_le _, ⟨_, RInv.init X⟩, .inl ⟨rfl, rfl, rfl⟩⟩ (by repeat' (first | exact Sub.nil | (refine Sub.cons rfl rfl ?_))) (by show HSub [.ext 201 (SlA 38 9 none 0 0 []), .blk 103 d (DC 5 3 0 mp) 80, .ext 104 (MpK mp fun _ => Option.none), .ext 200 (SlA 47 6 ia X.length icap (X.flatMap OI.cells))] _; exact HSub.addSl (by (try dsimp only [List.cons_append, List.nil_append, den, denL]); refine SelI.spec ?_; (repeat (first | refine SelI.blk (by repeat (first | with_reducible apply Rm.head | apply Rm.tail)) ?_ | refine SelI.ext (by repeat (first | with_reducible apply Rm.head | apply Rm.tail)) ?_ | (refine SelI.blk' (by repeat (first | with_reducible apply Rm.head | apply Rm.tail)) ?_ ?_; focus rfl) | (refine SelI.ext' (by repeat (first | with_reducible apply Rm.head | apply Rm.tail)) ?_ ?_; focus rfl))); exact SelI.nil)) ?_
  rintro ⟨i, g, L, fa, fc⟩ ⟨hi, ⟨h, hI⟩, hc⟩ KL hL
  dsimp only at hi hI hc ⊢
  have hgt := hI.gt (by omega)
  by_cases hlt : i < R + 1
  · have hst := hI.step hX (by omega) (.inl ⟨rfl, rfl⟩ : NowOk X X h h)
    have hak := ask_keys (g := g) (T := i + 1) hX (by omega)
    rcases hc with ⟨rfl, rfl, rfl⟩ | ⟨hi1, rfl, _⟩
    · rw [due_all] at hst hak
      repeat' (first
 | with_reducible (first | refine r_seq (fun KS hS => ?_) | (refine hS _ _ ?_; clear hS KS) | (refine hA _ ?_; clear hA KA) | (refine hB _ ?_; clear hB KB) | refine r_block ?_)
 | ((with_reducible (first | refine r_region ?_ | refine r_cond (fun KA hA KB hB => ?_) | refine r_ret ?_ | refine r_skip ?_ | refine r_exit ?_ | refine And.intro rfl ?_ | intro b)); conv => whnf)
 | ((with_reducible refine WrapK.i64 ?_ ?_); (focus omega); conv => whnf)
 | (refine tickFirstK (d := d) (mp := mp) (tk := 0) (T := 1) hX (by omega) rfl (by omega) (Sel.cons (by repeat (first | with_reducible apply Rm.head | apply Rm.tail)) (Sel.cons (by repeat (first | with_reducible apply Rm.head | apply Rm.tail)) (Sel.cons (by repeat (first | with_reducible apply Rm.head | apply Rm.tail)) Sel.nil))) rfl (fun z => ?_); conv => whnf)
 | (refine hL (1, askG X (keepG X fun _ => none) 1 X.length, X, z.1, z.2) _ _ ⟨by show 1 ≤ R + 1; omega, ⟨_, hst⟩, .inr ⟨Nat.le_refl _, rfl, hak⟩⟩ (by show R + 2 - 1 < R + 2 - 0; omega) (by repeat' (first | exact Sub.nil | (refine Sub.cons rfl rfl ?_))) (by (try dsimp only [List.cons_append, List.nil_append, den, denL]); refine SelI.spec ?_; (repeat (first | refine SelI.blk (by repeat (first | with_reducible apply Rm.head | apply Rm.tail)) ?_ | refine SelI.ext (by repeat (first | with_reducible apply Rm.head | apply Rm.tail)) ?_ | (refine SelI.blk' (by repeat (first | with_reducible apply Rm.head | apply Rm.tail)) ?_ ?_; focus rfl) | (refine SelI.ext' (by repeat (first | with_reducible apply Rm.head | apply Rm.tail)) ?_ ?_; focus rfl))); exact SelI.nil))
 | ((with_reducible apply OpK.more); (focus refine sok); (conv => whnf); fail_if_success guard_target =ₛ False)
 | ((with_reducible (first | refine InAt.mk (fun K' hK => ?_) | refine AnyAt.mk (fun K' hK => ?_) | (refine hK _ ?_; clear hK K') | (refine hK _ _ ?_; clear hK K'))); conv => whnf)
 | ((refine And.intro ?_ ?_); all_goals (conv => whnf))
 | (apply r_quiet; refine mixed; kernel_rfl; kernel_rfl; kernel_rfl; conv => whnf)
 | ((first | refine if_t (by decide) ?_ | refine if_f (by decide) ?_ | refine if_decT (by omega) ?_ | refine if_decF (by omega) ?_ | refine if_ndecT (by omega) ?_ | refine if_ndecF (by omega) ?_); conv => whnf)
 | ((first | refine if_dec (fun h => ?_) (fun h => ?_) | refine if_ndec (fun h => ?_) (fun h => ?_) | refine if_cond (fun h => ?_) (fun h => ?_)); all_goals (conv => whnf))
 | with_reducible apply_assumption -symm -exfalso)
    · repeat' (first
 | with_reducible (first | refine r_seq (fun KS hS => ?_) | (refine hS _ _ ?_; clear hS KS) | (refine hA _ ?_; clear hA KA) | (refine hB _ ?_; clear hB KB) | refine r_block ?_)
 | ((with_reducible (first | refine r_region ?_ | refine r_cond (fun KA hA KB hB => ?_) | refine r_ret ?_ | refine r_skip ?_ | refine r_exit ?_ | refine And.intro rfl ?_ | intro b)); conv => whnf)
 | ((with_reducible refine WrapK.i64 ?_ ?_); (focus omega); conv => whnf)
 | (refine tick0K (d := d) (mp := mp) (tk := i) (T := i + 1) hX (by omega) (RInv.keys hX (by omega) hI.dom) rfl (by omega) hgt rfl (Sel.cons (by repeat (first | with_reducible apply Rm.head | apply Rm.tail)) (Sel.cons (by repeat (first | with_reducible apply Rm.head | apply Rm.tail)) (Sel.cons (by repeat (first | with_reducible apply Rm.head | apply Rm.tail)) Sel.nil))) rfl (fun z => ?_); conv => whnf)
 | (refine hL (i + 1, askG (L.filter (dueB (keepG L g) (i + 1))) (keepG L g) (i + 1) (L.filter (dueB (keepG L g) (i + 1))).length, L, fa, fc) _ _ ⟨by show i + 1 ≤ R + 1; omega, ⟨_, hst⟩, .inr ⟨by show 1 ≤ i + 1; omega, rfl, hak⟩⟩ (by show R + 2 - (i + 1) < R + 2 - i; omega) (by repeat' (first | exact Sub.nil | (refine Sub.cons rfl rfl ?_))) (by (try dsimp only [List.cons_append, List.nil_append, den, denL]); refine SelI.spec ?_; (repeat (first | refine SelI.blk (by repeat (first | with_reducible apply Rm.head | apply Rm.tail)) ?_ | refine SelI.ext (by repeat (first | with_reducible apply Rm.head | apply Rm.tail)) ?_ | (refine SelI.blk' (by repeat (first | with_reducible apply Rm.head | apply Rm.tail)) ?_ ?_; focus rfl) | (refine SelI.ext' (by repeat (first | with_reducible apply Rm.head | apply Rm.tail)) ?_ ?_; focus rfl))); exact SelI.nil))
 | ((with_reducible apply OpK.more); (focus refine sok); (conv => whnf); fail_if_success guard_target =ₛ False)
 | ((with_reducible (first | refine InAt.mk (fun K' hK => ?_) | refine AnyAt.mk (fun K' hK => ?_) | (refine hK _ ?_; clear hK K') | (refine hK _ _ ?_; clear hK K'))); conv => whnf)
 | ((refine And.intro ?_ ?_); all_goals (conv => whnf))
 | (apply r_quiet; refine mixed; kernel_rfl; kernel_rfl; kernel_rfl; conv => whnf)
 | ((first | refine if_t (by decide) ?_ | refine if_f (by decide) ?_ | refine if_decT (by omega) ?_ | refine if_decF (by omega) ?_ | refine if_ndecT (by omega) ?_ | refine if_ndecF (by omega) ?_); conv => whnf)
 | ((first | refine if_dec (fun h => ?_) (fun h => ?_) | refine if_ndec (fun h => ?_) (fun h => ?_) | refine if_cond (fun h => ?_) (fun h => ?_)); all_goals (conv => whnf))
 | with_reducible apply_assumption -symm -exfalso)
  · obtain rfl : i = R + 1 := by omega
    obtain ⟨-, rfl, hkg⟩ := hc.resolve_left (fun h => by omega)
    clear hL hgt
    repeat' (first
 | with_reducible (first | refine r_seq (fun KS hS => ?_) | (refine hS _ _ ?_; clear hS KS) | (refine hA _ ?_; clear hA KA) | (refine hB _ ?_; clear hB KB) | refine r_block ?_)
 | ((with_reducible (first | refine r_region ?_ | refine r_cond (fun KA hA KB hB => ?_) | refine r_ret ?_ | refine r_skip ?_ | refine r_exit ?_ | refine And.intro rfl ?_ | intro b)); conv => whnf)
 | ((with_reducible refine WrapK.i64 ?_ ?_); (focus omega); conv => whnf)
 | (refine waitingCallK (d := d) (mp := mp) hkg (keys_length L) (Sel.cons (by repeat (first | with_reducible apply Rm.head | apply Rm.tail)) (Sel.cons (by repeat (first | with_reducible apply Rm.head | apply Rm.tail)) Sel.nil)) rfl (fun z => ?_); conv => whnf)
 | ((with_reducible apply OpK.more); (focus refine sok); (conv => whnf); fail_if_success guard_target =ₛ False)
 | ((with_reducible (first | refine InAt.mk (fun K' hK => ?_) | refine AnyAt.mk (fun K' hK => ?_) | (refine hK _ ?_; clear hK K') | (refine hK _ _ ?_; clear hK K'))); conv => whnf)
 | ((refine And.intro ?_ ?_); all_goals (conv => whnf))
 | (apply r_quiet; refine mixed; kernel_rfl; kernel_rfl; kernel_rfl; conv => whnf)
 | ((first | refine if_t (by decide) ?_ | refine if_f (by decide) ?_ | refine if_decT (by omega) ?_ | refine if_decF (by omega) ?_ | refine if_ndecT (by omega) ?_ | refine if_ndecF (by omega) ?_); conv => whnf)
 | ((first | refine if_dec (fun h => ?_) (fun h => ?_) | refine if_ndec (fun h => ?_) (fun h => ?_) | refine if_cond (fun h => ?_) (fun h => ?_)); all_goals (conv => whnf))
 | with_reducible apply_assumption -symm -exfalso)
    obtain ⟨wa, wc⟩ := z
    dsimp only
    refine r_loop (α := Nat) (fun j => [(62, .v (.int .i64 (j : Nat))), (61, .v (.int .i64 L.length)), (60, .v (.slice fa L.length fc)), (11, .v (.slice wa L.length wc)), (8, .v (.slice fa L.length fc)), (6, .v (pv d)), (5, .v (.slice ia L.length icap))]) (fun j => [.ext 360 (SlA 3 1 wa L.length wc ((keys L).map (Value.int .i64))), .ext 201 (SlA 38 9 fa L.length fc ((L.map mQ).flatMap MV.cells)), .blk 103 d (DC 5 3 (R + 1 : Nat) mp) 80, .ext 104 (MpK mp (wf g)), .ext 200 (SlA 47 6 ia L.length icap (L.flatMap OI.cells))]) (fun j => j ≤ L.length) (fun j => L.length - j) 0 (Nat.zero_le _) (by repeat' (first | exact Sub.nil | (refine Sub.cons rfl rfl ?_))) (by (try dsimp only [List.cons_append, List.nil_append, den, denL]); refine SelI.spec ?_; (repeat (first | refine SelI.blk (by repeat (first | with_reducible apply Rm.head | apply Rm.tail)) ?_ | refine SelI.ext (by repeat (first | with_reducible apply Rm.head | apply Rm.tail)) ?_ | (refine SelI.blk' (by repeat (first | with_reducible apply Rm.head | apply Rm.tail)) ?_ ?_; focus rfl) | (refine SelI.ext' (by repeat (first | with_reducible apply Rm.head | apply Rm.tail)) ?_ ?_; focus rfl))); exact SelI.nil) ?_
    intro j hj KL hL
    by_cases hlt : j < L.length
    · obtain ⟨y, hy⟩ : ∃ y, L[j]? = some y := ⟨_, List.getElem?_eq_getElem hlt⟩
      obtain ⟨kd, key, dl, fr, data, hC⟩ := cmdOf y
      have hg12 := OI.g2 y
      have hno : NumOk 3 := by unfold NumOk; omega
      have hrl := rlOk (e := 0) (rn := 3) (rx := ⟨#[]⟩) (by omega) (by omega) (by decide)
      repeat' (first
 | with_reducible (first | refine r_seq (fun KS hS => ?_) | (refine hS _ _ ?_; clear hS KS) | (refine hA _ ?_; clear hA KA) | (refine hB _ ?_; clear hB KB) | refine r_block ?_)
 | ((with_reducible (first | refine r_region ?_ | refine r_cond (fun KA hA KB hB => ?_) | refine r_ret ?_ | refine r_skip ?_ | refine r_exit ?_ | refine And.intro rfl ?_ | intro b)); conv => whnf)
 | ((with_reducible refine WrapK.i64 ?_ ?_); (focus omega); conv => whnf)
 | ((with_reducible refine OpK.id ?_); (first | refine OpK.idx (k := 9) rfl rfl rfl rfl rfl rfl rfl (Sees.ext (by repeat (first | with_reducible apply At.head | apply At.tail))) (by omega) (by omega) (at_mQ hy) (fun b off hp => ?_) | refine OpK.ldp rfl rfl hp (List.cons_ne_nil _ _) ?_); conv => whnf)
 | ((with_reducible refine CallK.at 10 ?_); refine CallK.puW (fun ms w hk => serveC14 (f := 0) (to := y.1.g * 5) hC (hk.got (by repeat (first | constructor | apply List.Mem.tail))) (hka.now id hk) (by omega) (by omega) (by omega) (by omega) (by omega) (by omega)) ?_; conv => whnf)
 | ((with_reducible refine CallK.at 11 ?_); refine CallK.puW (fun ms w hk => answerToC18 (e := 0) (rn := 3) (rx := ⟨#[]⟩) (f := 0) (to := y.1.g * 5) hC (hk.got (by repeat (first | constructor | apply List.Mem.tail))) (hka.now id hk) (by omega) (by omega) (by omega) (by omega) (by omega) (by omega) (by decide) hno (by decide) hrl) ?_; conv => whnf)
 | ((with_reducible refine CallK.id ?_); refine CallK.puE (fun ms w hk => answer1012 (e := 0) (rn := 3) (rx := ⟨#[]⟩) (f := 0) (to := y.1.g * 5) hX (by omega) hy (hk.got (by repeat (first | constructor | apply List.Mem.tail))) (hka.now id hk) ((Sees.ext (by repeat (first | with_reducible apply At.head | apply At.tail))).rd hk) (by omega) (by omega) (by omega) (by omega) (by omega) (by decide) hno (by decide) hrl) (fun v hv => ?_); conv => whnf)
 | (refine hL (j + 1) _ _ (by show j + 1 ≤ _; omega) (by show L.length - (j + 1) < L.length - j; omega) (by repeat' (first | exact Sub.nil | (refine Sub.cons rfl rfl ?_))) (by (try dsimp only [List.cons_append, List.nil_append, den, denL]); refine SelI.spec ?_; (repeat (first | refine SelI.blk (by repeat (first | with_reducible apply Rm.head | apply Rm.tail)) ?_ | refine SelI.ext (by repeat (first | with_reducible apply Rm.head | apply Rm.tail)) ?_ | (refine SelI.blk' (by repeat (first | with_reducible apply Rm.head | apply Rm.tail)) ?_ ?_; focus rfl) | (refine SelI.ext' (by repeat (first | with_reducible apply Rm.head | apply Rm.tail)) ?_ ?_; focus rfl))); exact SelI.nil))
 | ((with_reducible apply OpK.more); (focus refine sok); (conv => whnf); fail_if_success guard_target =ₛ False)
 | ((with_reducible (first | refine InAt.mk (fun K' hK => ?_) | refine AnyAt.mk (fun K' hK => ?_) | (refine hK _ ?_; clear hK K') | (refine hK _ _ ?_; clear hK K'))); conv => whnf)
 | ((refine And.intro ?_ ?_); all_goals (conv => whnf))
 | (apply r_quiet; refine mixed; kernel_rfl; kernel_rfl; kernel_rfl; conv => whnf)
 | ((first | refine if_t (by decide) ?_ | refine if_f (by decide) ?_ | refine if_decT (by omega) ?_ | refine if_decF (by omega) ?_ | refine if_ndecT (by omega) ?_ | refine if_ndecF (by omega) ?_); conv => whnf)
 | ((first | refine if_dec (fun h => ?_) (fun h => ?_) | refine if_ndec (fun h => ?_) (fun h => ?_) | refine if_cond (fun h => ?_) (fun h => ?_)); all_goals (conv => whnf))
 | with_reducible apply_assumption -symm -exfalso)
    · obtain rfl : j = L.length := by omega
      clear hL
      repeat' (first
 | with_reducible (first | refine r_seq (fun KS hS => ?_) | (refine hS _ _ ?_; clear hS KS) | (refine hA _ ?_; clear hA KA) | (refine hB _ ?_; clear hB KB) | refine r_block ?_)
 | ((with_reducible (first | refine r_region ?_ | refine r_cond (fun KA hA KB hB => ?_) | refine r_ret ?_ | refine r_skip ?_ | refine r_exit ?_ | refine And.intro rfl ?_ | intro b)); conv => whnf)
 | ((with_reducible refine WrapK.i64 ?_ ?_); (focus omega); conv => whnf)
 | ((with_reducible refine CallK.at 7 ?_); (first | refine CallK.puW (fun ms w hk => tickOff1007 (hk.got (by repeat (first | constructor | apply List.Mem.tail))) (.inl (by decide))) ?_ | refine CallK.puW (fun ms w hk => tickOff1007 (hk.got (by repeat (first | constructor | apply List.Mem.tail))) (.inr (by decide))) ?_ | refine CallK.puW (fun ms w hk => tickNil1007 (hk.got (by repeat (first | constructor | apply List.Mem.tail))) (by decide)) ?_); conv => whnf)
 | (refine waitingCallK (d := d) (mp := mp) hkg (keys_length L) (Sel.cons (by repeat (first | with_reducible apply Rm.head | apply Rm.tail)) (Sel.cons (by repeat (first | with_reducible apply Rm.head | apply Rm.tail)) Sel.nil)) rfl (fun z => ?_); conv => whnf)
 | ((with_reducible refine CallK.id ?_); refine CallK.puW (fun ms w hk => eqIntsN (L := keys L) (keys_length L) ((Sees.ext (by repeat (first | with_reducible apply At.head | apply At.tail))).rd hk) ((Sees.ext (by repeat (first | with_reducible apply At.head | apply At.tail))).rd hk) (by omega)) ?_; conv => whnf)
 | (refine copyCallK (d := d) (mp := mp) (Sel.cons (by repeat (first | with_reducible apply Rm.head | apply Rm.tail)) (Sel.cons (by repeat (first | with_reducible apply Rm.head | apply Rm.tail)) Sel.nil)) rfl (fun y => ?_); conv => whnf)
 | ((with_reducible refine OpK.id ?_); refine OpK.clA (k := 1) rfl rfl rfl rfl rfl rfl rfl (by decide) (by repeat (first | with_reducible apply At.head | apply At.tail)) (fun zs hzs => ?_); conv => whnf)
 | ((with_reducible apply OpK.more); (focus refine sok); (conv => whnf); fail_if_success guard_target =ₛ False)
 | ((with_reducible (first | refine InAt.mk (fun K' hK => ?_) | refine AnyAt.mk (fun K' hK => ?_) | (refine hK _ ?_; clear hK K') | (refine hK _ _ ?_; clear hK K'))); conv => whnf)
 | ((refine And.intro ?_ ?_); all_goals (conv => whnf))
 | (apply r_quiet; refine mixed; kernel_rfl; kernel_rfl; kernel_rfl; conv => whnf)
 | ((first | refine if_t (by decide) ?_ | refine if_f (by decide) ?_ | refine if_decT (by omega) ?_ | refine if_decF (by omega) ?_ | refine if_ndecT (by omega) ?_ | refine if_ndecF (by omega) ?_); conv => whnf)
 | ((first | refine if_dec (fun h => ?_) (fun h => ?_) | refine if_ndec (fun h => ?_) (fun h => ?_) | refine if_cond (fun h => ?_) (fun h => ?_)); all_goals (conv => whnf))
 | with_reducible apply_assumption -symm -exfalso)
      obtain ⟨fd, mf⟩ := y
      dsimp only
      refine r_loop (α := Nat × WG) (fun z => [(112, .v (.int .i64 (z.1 : Nat))), (16, .v (pv fd)), (11, .v (.slice wa L.length wc)), (8, .v (.slice fa L.length fc)), (6, .v (pv d)), (5, .v (.slice ia L.length icap))]) (fun z => [.blk 363 fd (DC 5 3 (R + 1 + z.1 : Nat) mf) 80, .ext 364 (MpK mf (wf z.2)), .ext 360 (SlA 3 1 wa L.length wc ((keys L).map (Value.int .i64))), .ext 201 (SlA 38 9 fa L.length fc ((L.map mQ).flatMap MV.cells)), .blk 103 d (DC 5 3 (R + 1 + z.1 : Nat) mp) 80, .ext 104 (MpK mp (wf z.2)), .ext 200 (SlA 47 6 ia L.length icap (L.flatMap OI.cells))]) (fun z => z.1 ≤ 5 ∧ (∃ h, RInv L (R + 1 + z.1 + 1) z.2 h) ∧ KeysOf (wf z.2) (keys L)) (fun z => 5 - z.1) (0, g) ⟨Nat.zero_le _, ⟨_, hI⟩, hkg⟩ (by repeat' (first | exact Sub.nil | (refine Sub.cons rfl rfl ?_))) (by (try dsimp only [List.cons_append, List.nil_append, den, denL]); refine SelI.spec ?_; (repeat (first | refine SelI.blk (by repeat (first | with_reducible apply Rm.head | apply Rm.tail)) ?_ | refine SelI.ext (by repeat (first | with_reducible apply Rm.head | apply Rm.tail)) ?_ | (refine SelI.blk' (by repeat (first | with_reducible apply Rm.head | apply Rm.tail)) ?_ ?_; focus rfl) | (refine SelI.ext' (by repeat (first | with_reducible apply Rm.head | apply Rm.tail)) ?_ ?_; focus rfl))); exact SelI.nil) ?_
      clear hc hI hkg h
      rintro ⟨k, g⟩ ⟨hk5, ⟨h, hI⟩, hkg⟩ KL hL
      dsimp only at hk5 hI hkg ⊢
      by_cases hlt : k < 5
      · have hgt := hI.gt (by omega)
        have hst := hI.step hX (by omega) (.inl ⟨rfl, rfl⟩ : NowOk L L h h)
        have hak := ask_keys (g := g) (T := R + 1 + k + 1) hX (by omega)
        have hDl := List.length_filter_le (dueB (keepG L g) (R + 1 + k + 1)) L
        repeat' (first
 | with_reducible (first | refine r_seq (fun KS hS => ?_) | (refine hS _ _ ?_; clear hS KS) | (refine hA _ ?_; clear hA KA) | (refine hB _ ?_; clear hB KB) | refine r_block ?_)
 | ((with_reducible (first | refine r_region ?_ | refine r_cond (fun KA hA KB hB => ?_) | refine r_ret ?_ | refine r_skip ?_ | refine r_exit ?_ | refine And.intro rfl ?_ | intro b)); conv => whnf)
 | ((with_reducible refine WrapK.i64 ?_ ?_); (focus omega); conv => whnf)
 | (refine tick0K (d := fd) (mp := mf) (tk := R + 1 + k) (T := R + 1 + k + 1) hX (by omega) (RInv.keys hX (by omega) hI.dom) rfl (by omega) hgt rfl (Sel.cons (by repeat (first | with_reducible apply Rm.head | apply Rm.tail)) (Sel.cons (by repeat (first | with_reducible apply Rm.head | apply Rm.tail)) (Sel.cons (by repeat (first | with_reducible apply Rm.head | apply Rm.tail)) Sel.nil))) rfl (fun z => ?_); conv => whnf)
 | (refine tick0K (d := d) (mp := mp) (tk := R + 1 + k) (T := R + 1 + k + 1) hX (by omega) (RInv.keys hX (by omega) hI.dom) rfl (by omega) hgt rfl (Sel.cons (by repeat (first | with_reducible apply Rm.head | apply Rm.tail)) (Sel.cons (by repeat (first | with_reducible apply Rm.head | apply Rm.tail)) (Sel.cons (by repeat (first | with_reducible apply Rm.head | apply Rm.tail)) Sel.nil))) rfl (fun z => ?_); conv => whnf)
 | ((with_reducible refine CallK.id ?_); refine CallK.puW (fun ms w hk => eqMsgsN (L := (L.filter (dueB (keepG L g) (R + 1 + k + 1))).map (mV (keepG L g) 0 5)) (by rw [List.length_map]) ((Sees.ext (by repeat (first | with_reducible apply At.head | apply At.tail))).rd hk) ((Sees.ext (by repeat (first | with_reducible apply At.head | apply At.tail))).rd hk) (by omega)) ?_; conv => whnf)
 | (refine hL (k + 1, askG (L.filter (dueB (keepG L g) (R + 1 + k + 1))) (keepG L g) (R + 1 + k + 1) (L.filter (dueB (keepG L g) (R + 1 + k + 1))).length) _ _ ⟨by show k + 1 ≤ 5; omega, ⟨_, hst⟩, hak⟩ (by show 5 - (k + 1) < 5 - k; omega) (by repeat' (first | exact Sub.nil | (refine Sub.cons rfl rfl ?_))) (by (try dsimp only [List.cons_append, List.nil_append, den, denL]); refine SelI.spec ?_; (repeat (first | refine SelI.blk (by repeat (first | with_reducible apply Rm.head | apply Rm.tail)) ?_ | refine SelI.ext (by repeat (first | with_reducible apply Rm.head | apply Rm.tail)) ?_ | (refine SelI.blk' (by repeat (first | with_reducible apply Rm.head | apply Rm.tail)) ?_ ?_; focus rfl) | (refine SelI.ext' (by repeat (first | with_reducible apply Rm.head | apply Rm.tail)) ?_ ?_; focus rfl))); exact SelI.nil))
 | ((with_reducible apply OpK.more); (focus refine sok); (conv => whnf); fail_if_success guard_target =ₛ False)
 | ((with_reducible (first | refine InAt.mk (fun K' hK => ?_) | refine AnyAt.mk (fun K' hK => ?_) | (refine hK _ ?_; clear hK K') | (refine hK _ _ ?_; clear hK K'))); conv => whnf)
 | ((refine And.intro ?_ ?_); all_goals (conv => whnf))
 | (apply r_quiet; refine mixed; kernel_rfl; kernel_rfl; kernel_rfl; conv => whnf)
 | ((first | refine if_t (by decide) ?_ | refine if_f (by decide) ?_ | refine if_decT (by omega) ?_ | refine if_decF (by omega) ?_ | refine if_ndecT (by omega) ?_ | refine if_ndecF (by omega) ?_); conv => whnf)
 | ((first | refine if_dec (fun h => ?_) (fun h => ?_) | refine if_ndec (fun h => ?_) (fun h => ?_) | refine if_cond (fun h => ?_) (fun h => ?_)); all_goals (conv => whnf))
 | with_reducible apply_assumption -symm -exfalso)
      · obtain rfl : k = 5 := by omega
        clear hL
        have hak := ask_keys (g := fun _ => none) (T := R + 1 + 5 + 1) hX (by omega)
        rw [due_all] at hak
        repeat' (first
 | with_reducible (first | refine r_seq (fun KS hS => ?_) | (refine hS _ _ ?_; clear hS KS) | (refine hA _ ?_; clear hA KA) | (refine hB _ ?_; clear hB KB) | refine r_block ?_)
 | ((with_reducible (first | refine r_region ?_ | refine r_cond (fun KA hA KB hB => ?_) | refine r_ret ?_ | refine r_skip ?_ | refine r_exit ?_ | refine And.intro rfl ?_ | intro b)); conv => whnf)
 | ((with_reducible refine WrapK.i64 ?_ ?_); (focus omega); conv => whnf)
 | (refine resetCallK (d := fd) (mp := mf) (Sel.cons (by repeat (first | with_reducible apply Rm.head | apply Rm.tail)) (Sel.cons (by repeat (first | with_reducible apply Rm.head | apply Rm.tail)) Sel.nil)) rfl ?_; conv => whnf)
 | (refine tickFirstK (d := fd) (mp := mf) (tk := R + 1 + 5) (T := R + 1 + 5 + 1) hX (by omega) rfl (by omega) (Sel.cons (by repeat (first | with_reducible apply Rm.head | apply Rm.tail)) (Sel.cons (by repeat (first | with_reducible apply Rm.head | apply Rm.tail)) (Sel.cons (by repeat (first | with_reducible apply Rm.head | apply Rm.tail)) Sel.nil))) rfl (fun z => ?_); conv => whnf)
 | ((with_reducible refine CallK.id ?_); refine CallK.puW (fun ms w hk => eqMsgsN (L := L.map mQ) (by rw [List.length_map]) ((Sees.ext (by repeat (first | with_reducible apply At.head | apply At.tail))).rd hk) ((Sees.ext (by repeat (first | with_reducible apply At.head | apply At.tail))).rd hk) (by omega)) ?_; conv => whnf)
 | (refine waitingCallK (d := d) (mp := mp) hkg (keys_length L) (Sel.cons (by repeat (first | with_reducible apply Rm.head | apply Rm.tail)) (Sel.cons (by repeat (first | with_reducible apply Rm.head | apply Rm.tail)) Sel.nil)) rfl (fun z => ?_); conv => whnf)
 | (refine waitingCallK (d := d) (mp := mp) (m := 0) keysNil rfl (Sel.cons (by repeat (first | with_reducible apply Rm.head | apply Rm.tail)) (Sel.cons (by repeat (first | with_reducible apply Rm.head | apply Rm.tail)) Sel.nil)) rfl (fun z => ?_); conv => whnf)
 | (refine waitingCallK (d := fd) (mp := mf) hak (keys_length L) (Sel.cons (by repeat (first | with_reducible apply Rm.head | apply Rm.tail)) (Sel.cons (by repeat (first | with_reducible apply Rm.head | apply Rm.tail)) Sel.nil)) rfl (fun z => ?_); conv => whnf)
 | ((with_reducible refine CallK.id ?_); refine CallK.puW (fun ms w hk => eqIntsN (L := keys L) (keys_length L) ((Sees.ext (by repeat (first | with_reducible apply At.head | apply At.tail))).rd hk) ((Sees.ext (by repeat (first | with_reducible apply At.head | apply At.tail))).rd hk) (by omega)) ?_; conv => whnf)
 | (refine tickNoneK (d := d) (mp := mp) (tk := R + 1 + 5) (T := R + 1 + 5 + 1) hkg rfl (by omega) (Sel.cons (by repeat (first | with_reducible apply Rm.head | apply Rm.tail)) (Sel.cons (by repeat (first | with_reducible apply Rm.head | apply Rm.tail)) Sel.nil)) rfl (fun z => ?_); conv => whnf)
 | ((with_reducible refine CallK.at 18 ?_); refine CallK.puW (fun ms w hk => works10 (hka.now id hk)) ?_; conv => whnf)
 | ((with_reducible apply OpK.more); (focus refine sok); (conv => whnf); fail_if_success guard_target =ₛ False)
 | ((with_reducible (first | refine InAt.mk (fun K' hK => ?_) | refine AnyAt.mk (fun K' hK => ?_) | (refine hK _ ?_; clear hK K') | (refine hK _ _ ?_; clear hK K'))); conv => whnf)
 | ((refine And.intro ?_ ?_); all_goals (conv => whnf))
 | (apply r_quiet; refine mixed; kernel_rfl; kernel_rfl; kernel_rfl; conv => whnf)
 | ((first | refine if_t (by decide) ?_ | refine if_f (by decide) ?_ | refine if_decT (by omega) ?_ | refine if_decF (by omega) ?_ | refine if_ndecT (by omega) ?_ | refine if_ndecF (by omega) ?_); conv => whnf)
 | ((first | refine if_dec (fun h => ?_) (fun h => ?_) | refine if_ndec (fun h => ?_) (fun h => ?_) | refine if_cond (fun h => ?_) (fun h => ?_)); all_goals (conv => whnf))
 | with_reducible apply_assumption -symm -exfalso)
        exact FinK.pu rfl
end Go.Proofs.YthmjkaljkgjicaaGreatDoor
