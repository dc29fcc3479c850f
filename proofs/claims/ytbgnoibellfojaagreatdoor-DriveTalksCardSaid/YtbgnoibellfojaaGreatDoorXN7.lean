/- Contracts and lemmas for the claim (part XN7); no condition of its own. -/
import Derived.Test.YtbgnoibellfojaaGreatDoorXN6
import Derived.Test.YtbgnoibellfojaaGreatDoorXB
import Derived.Test.YtbgnoibellfojaaGreatDoorXT
import Derived.Test.YtbgnoibellfojaaGreatDoorXN4
set_option linter.all false
set_option linter.unusedVariables false
set_option linter.unusedSimpArgs false
set_option linter.unnecessarySimpa false
namespace Go.Proofs.YtbgnoibellfojaaGreatDoor
open Go Go.X
set_option maxRecDepth 100000
set_option maxHeartbeats 0
def qv : ByteArray := ⟨(uvar 1 ++ uvar 7 ++ uvar 0 ++ uvar 1 ++ uvar 1 ++ [107] ++ uvar (zigN (1 + ((0 : Nat) : Int)))).toArray⟩
theorem qvEq : qv = ⟨#[1, 7, 0, 1, 1, 107, 2]⟩ := by decide +kernel
def rv : ByteArray := ⟨(uvar 0 ++ uvar (zigN 8) ++ uvar (ByteArray.mk #[]).size ++ (ByteArray.mk #[]).data.toList).toArray⟩
theorem eff701 : EffOk 7 0 1 := by unfold EffOk; omega
theorem item701 : ItemOk 7 0 1 0 false 1 := ⟨by omega, by omega, .inl ⟨rfl, rfl, eff701⟩⟩
def qM (to : Int) : List Value := [.int .i64 10, .int .i64 1, .int .i64 to, .int .i64 0, .int .i64 0, .int .i64 0, .int .i64 1009, .string qv, .slice none 0 0]
def itW : List SV := [.v (.int .i64 7), .v (.int .i64 0), .v (.int .i64 1), .v (.int .i64 0), .v (.bool false), .v (.int .i64 1)]
section
variable {nn : Nat} {W : World} {S : Nat → Prop} {r : Option Nat} {H R : List Blk} {nx : K1}
theorem wTickFirst {d mp bi bn i1 i1' i2 i2' i3 i4 : Nat} {c1 c2 c3 : List SV} (hs : Sel H [.blk i1 bi c1 48, .blk i2 bn c2 5, .ext i4 (MpA mp [] 0), .blk i3 d c3 81] R) (e1 : denL c1 = denL itW) (e2 : denL c2 = denL [.v (.int .u8 9)]) (e3 : denL c3 = denL (DC 3 3 0 mp))
    (hn : ∀ z : Option Addr × Nat, nx (.v (.slice z.1 1 z.2)) (.ext 70 (SlA 26 9 z.1 1 z.2 (qM 3)) :: .blk i1 bi c1 48 :: .blk i2 bn c2 5 :: .ext i4 (MpA mp [⟨.int .i64 1009, .agg #[.int .i64 1, .int .i64 1], 0⟩] 1) :: .blk i3 d (DC 3 3 1 mp) 81 :: R)) : CallK ⟨Tryz.prog, TB, nn, W, S, r, TBok⟩ 24 [.v (pv d), .v (.int .i64 1), .slc bi i1' 0 1 1, .fn 72 [.loc bn i2' 0]] H nx :=
  CallK.frL (v := fun z : Option Addr × Nat => .slice z.1 1 z.2) (L0 := [.blk 9 bi itW 48, .blk 8 bn [.v (.int .u8 9)] 5, .ext 4 (MpA mp [] 0), .blk 3 d (DC 3 3 0 mp) 81]) hs (HSub.keep e1 (HSub.keep e2 (HSub.ext (fun _ _ h => h) (HSub.keep e3 HSub.nil)))) (fun _ w _ => tickFirstEff24 (s := 7) (t := 0) (p := 1) (g := 1) (num := 1009) (n := 3) (gs := 3) (tk := 0) (me := 1) (clk := 0) eff701 (by omega) (by omega) (by omega) (by omega) (by omega) (by unfold itemNum; rfl) w)
    (M' := fun z => [.ext 70 (SlA 26 9 z.1 1 z.2 (qM 3)), .blk i1 bi c1 48, .blk i2 bn c2 5, .ext i4 (MpA mp [⟨.int .i64 1009, .agg #[.int .i64 1, .int .i64 1], 0⟩] 1), .blk i3 d (DC 3 3 1 mp) 81]) (fun z => HSub.ext (fun _ _ h => h) (HSub.keep e1.symm (HSub.keep e2.symm (HSub.ext (fun _ _ h => h) (HSub.keep rfl HSub.nil))))) hn
theorem wTickNot {d mp bi bn i1 i1' i2 i2' i3 i4 : Nat} {tk : Int} (htk : 1 ≤ tk ∧ tk ≤ 3) {c1 c2 c3 : List SV} (hs : Sel H [.blk i1 bi c1 48, .blk i2 bn c2 5, .ext i4 (MpA mp [⟨.int .i64 1009, .agg #[.int .i64 1, .int .i64 1], 0⟩] 1), .blk i3 d c3 81] R) (e1 : denL c1 = denL itW) (e2 : denL c2 = denL [.v (.int .u8 9)]) (e3 : denL c3 = denL (DC 3 3 tk mp))
    (hn : ∀ z : Option Addr × Nat, nx (.v (.slice z.1 0 z.2)) (.ext 70 (SlA 26 9 z.1 0 z.2 []) :: .blk i1 bi c1 48 :: .blk i2 bn c2 5 :: .ext i4 (MpA mp [⟨.int .i64 1009, .agg #[.int .i64 1, .int .i64 1], 0⟩] 1) :: .blk i3 d (DC 3 3 (tk + 1) mp) 81 :: R)) : CallK ⟨Tryz.prog, TB, nn, W, S, r, TBok⟩ 24 [.v (pv d), .v (.int .i64 1), .slc bi i1' 0 1 1, .fn 72 [.loc bn i2' 0]] H nx :=
  CallK.frL (v := fun z : Option Addr × Nat => .slice z.1 0 z.2) (L0 := [.blk 9 bi itW 48, .blk 8 bn [.v (.int .u8 9)] 5, .ext 4 (MpA mp [⟨.int .i64 1009, .agg #[.int .i64 1, .int .i64 1], 0⟩] 1), .blk 3 d (DC 3 3 tk mp) 81]) hs (HSub.keep e1 (HSub.keep e2 (HSub.ext (fun _ _ h => h) (HSub.keep e3 HSub.nil)))) (fun _ w _ => tickNotEff24 (s := 7) (t := 0) (p := 1) (g := 1) (num := 1009) (n := 3) (gs := 3) (tk := tk) (me := 1) (al := 1) (ll := 1) (clk := 1) (bo := 0) eff701 (by omega) (by omega) (by omega) (by omega) (by omega) (by unfold itemNum; rfl) (by omega) (by omega) (by omega) w)
    (M' := fun z => [.ext 70 (SlA 26 9 z.1 0 z.2 []), .blk i1 bi c1 48, .blk i2 bn c2 5, .ext i4 (MpA mp [⟨.int .i64 1009, .agg #[.int .i64 1, .int .i64 1], 0⟩] 1), .blk i3 d (DC 3 3 (tk + 1) mp) 81]) (fun z => HSub.ext (fun _ _ h => h) (HSub.keep e1.symm (HSub.keep e2.symm (HSub.ext (fun _ _ h => h) (HSub.keep rfl HSub.nil))))) hn
theorem wTickAgain {d mp bi bn i1 i1' i2 i2' i3 i4 : Nat} {c1 c2 c3 : List SV} (hs : Sel H [.blk i1 bi c1 48, .blk i2 bn c2 5, .ext i4 (MpA mp [⟨.int .i64 1009, .agg #[.int .i64 1, .int .i64 1], 0⟩] 1), .blk i3 d c3 81] R) (e1 : denL c1 = denL itW) (e2 : denL c2 = denL [.v (.int .u8 9)]) (e3 : denL c3 = denL (DC 3 3 4 mp))
    (hn : ∀ z : Option Addr × Nat, nx (.v (.slice z.1 1 z.2)) (.ext 70 (SlA 26 9 z.1 1 z.2 (qM 4)) :: R)) : CallK ⟨Tryz.prog, TB, nn, W, S, r, TBok⟩ 24 [.v (pv d), .v (.int .i64 1), .slc bi i1' 0 1 1, .fn 72 [.loc bn i2' 0]] H nx :=
  CallK.frL (v := fun z : Option Addr × Nat => .slice z.1 1 z.2) (L0 := [.blk 9 bi itW 48, .blk 8 bn [.v (.int .u8 9)] 5, .ext 4 (MpA mp [⟨.int .i64 1009, .agg #[.int .i64 1, .int .i64 1], 0⟩] 1), .blk 3 d (DC 3 3 4 mp) 81]) hs (HSub.keep e1 (HSub.keep e2 (HSub.ext (fun _ _ h => h) (HSub.keep e3 HSub.nil)))) (fun _ w _ => tickAgainEff24 (s := 7) (t := 0) (p := 1) (g := 1) (num := 1009) (n := 3) (gs := 3) (tk := 4) (me := 1) (al := 1) (ll := 1) (clk := 1) (bo := 0) eff701 (by omega) (by omega) (by omega) (by omega) (by omega) (by unfold itemNum; rfl) (by omega) (by omega) (by omega) (by omega) w)
    (M' := fun z => [.ext 70 (SlA 26 9 z.1 1 z.2 (qM 4))]) (fun z => HSub.ext (fun _ _ h => h) (HSub.drop (HSub.drop (HSub.drop (HSub.drop HSub.nil))))) hn
theorem wNew (hn : ∀ z : Nat × Nat, nx (.v (.tuple #[pv z.1, .int .i64 0])) (.blk 3 z.1 (DC 3 3 0 z.2) 81 :: .ext 4 (MpA z.2 [] 0) :: H)) : CallK ⟨Tryz.prog, TB, nn, W, S, r, TBok⟩ 11 [.v (.int .i64 3), .v (.int .i64 3)] H nx :=
  CallK.frL (v := fun z : Nat × Nat => .tuple #[pv z.1, .int .i64 0]) (L0 := []) (L := []) (R := H) Sel.nil HSub.nil (fun _ w _ => FrZ.pre (new11 (n := 3) (gs := 3) (by omega) (by omega) w) (fun S h => by cases h; exact fun _ h => h))
    (M' := fun z => [.blk 3 z.1 (DC 3 3 0 z.2) 81, .ext 4 (MpA z.2 [] 0)]) (fun z => HSub.keep rfl (HSub.ext (fun _ _ h => h) HSub.nil)) hn
theorem wWait {d mp i3 i4 : Nat} {c3 : List SV} (hs : Sel H [.ext i4 (MpA mp [⟨.int .i64 1009, .agg #[.int .i64 1, .int .i64 1], 0⟩] 1), .blk i3 d c3 81] R) (e3 : denL c3 = denL (DC 3 3 1 mp))
    (hn : ∀ z : Option Addr × Nat, nx (.v (.slice z.1 1 z.2)) (.ext 60 (SlA 3 1 z.1 1 z.2 [.int .i64 1009]) :: .ext i4 (MpA mp [⟨.int .i64 1009, .agg #[.int .i64 1, .int .i64 1], 0⟩] 1) :: .blk i3 d c3 81 :: R)) : CallK ⟨Tryz.prog, TB, nn, W, S, r, TBok⟩ 25 [.v (pv d)] H nx :=
  CallK.frL (v := fun z : Option Addr × Nat => .slice z.1 1 z.2) (L0 := [.ext 4 (MpA mp [⟨.int .i64 1009, .agg #[.int .i64 1, .int .i64 1], 0⟩] 1), .blk 3 d (DC 3 3 1 mp) 81]) hs (HSub.ext (fun _ _ h => h) (HSub.keep e3 HSub.nil)) (fun _ w _ => waiting25 (by omega) w)
    (M' := fun z => [.ext 60 (SlA 3 1 z.1 1 z.2 [.int .i64 1009]), .ext i4 (MpA mp [⟨.int .i64 1009, .agg #[.int .i64 1, .int .i64 1], 0⟩] 1), .blk i3 d c3 81]) (fun z => HSub.ext (fun _ _ h => h) (HSub.ext (fun _ _ h => h) (HSub.keep e3.symm HSub.nil))) hn
end
theorem wNum (w : World) : Pu Tryz.prog 38 #[.agg #[.int .i64 7, .int .i64 0, .int .i64 1, .int .i64 0, .bool false, .int .i64 1]] w (.tuple #[.int .i64 1009, .int .i64 0]) := numOk38 item701 w
theorem i9M (to : Int) : (List.drop ((0 : Int).toNat * 9) (qM to)).take 9 = denL [.v (.int .i64 10), .v (.int .i64 1), .v (.int .i64 to), .v (.int .i64 0), .v (.int .i64 0), .v (.int .i64 0), .v (.int .i64 1009), .v (.string qv), .v (.slice none 0 0)] := rfl
theorem wServe {w : World} {d mp : Nat} (hd : DAt w d 3 3 4 mp) (hka : KAt w) : Pu Tryz.prog 14 #[pv d, .agg #[.int .i64 10, .int .i64 1, .int .i64 3, .int .i64 0, .int .i64 0, .int .i64 0, .int .i64 1009, .string qv, .slice none 0 0], .nilFunc] w (.tuple #[.agg #[.int .i64 1, .int .i64 0, .int .i64 0, .int .i64 7, .int .i64 0, .int .i64 1, .string ⟨#[107]⟩, .int .i64 1, .int .i64 0, .string ⟨#[]⟩, .string ⟨#[]⟩, .int .i64 0, .string ⟨#[]⟩, .int .i64 0, .int .i64 0, .slice none 0 0, .int .i64 0, .int .i64 0, .int .i64 0, .int .i64 0, .bool false, .int .i64 0, .int .i64 0, .string ⟨#[]⟩], .agg #[.int .i64 0, .int .i64 0, .int .i64 0, .int .i64 0, .int .i64 0, .int .i64 0, .int .i64 0, .string ⟨#[]⟩, .slice none 0 0], .bool true, .bool false]) :=
  serveEff14 (s := 7) (t := 0) (p := 1) (g := 1) (k := ⟨#[107]⟩) (dl := 1) (f := 1) (to := 3) (num := 1009) eff701 (by omega) (by decide +kernel) (by decide) (by omega) (by unfold NumOk; omega) hd hka (by omega) (by omega) (by omega) (by decide) (by omega) (by omega) (by omega) (by rw [qvEq]; decide +kernel) (by rw [qvEq]; decide)
theorem wDone (w : World) : Pu Tryz.prog 40 #[.agg #[.int .i64 ((7 : Nat) : Int), .int .i64 ((0 : Nat) : Int), .int .i64 ((1 : Nat) : Int)]] w (.tuple #[.agg #[.int .i64 ((0 : Nat) : Int), .int .i64 8, .string ⟨#[]⟩], .bool true]) := by
  refine enter_sound TBok Tryz.func40 rfl rfl Tryz.ntmps40 [.agg [.v (.int .i64 7), .v (.int .i64 0), .v (.int .i64 1)]] (Kn.start w noS) rfl rfl ?_
  conv => whnf
  repeat' (first
    | ((with_reducible refine r_seq (fun KS hS => ?_)))
    | ((with_reducible refine r_region ?_); conv => whnf)
    | ((with_reducible refine r_cond (fun KA hA KB hB => ?_)); conv => whnf)
    | ((with_reducible refine hS _ _ ?_); clear hS KS)
    | ((with_reducible refine hA _ ?_); clear hA KA)
    | ((with_reducible refine hB _ ?_); clear hB KB)
    | ((with_reducible refine r_block ?_))
    | ((with_reducible refine r_ret ?_); conv => whnf)
    | ((with_reducible refine r_skip ?_); conv => whnf)
    | ((with_reducible refine r_exit ?_); conv => whnf)
    | ((with_reducible refine WrapK.i64 ?_ ?_); (focus omega); conv => whnf)
    | ((with_reducible refine And.intro rfl ?_); conv => whnf)
    | ((with_reducible intro b); conv => whnf)
    | ((with_reducible apply OpK.more); (focus refine sok); (conv => whnf); fail_if_success guard_target =ₛ False)
    | ((with_reducible refine InAt.mk (fun K' hK => ?_)); conv => whnf)
    | ((with_reducible refine AnyAt.mk (fun K' hK => ?_)); conv => whnf)
    | ((with_reducible refine hK _ ?_); clear hK K'; conv => whnf)
    | ((with_reducible refine hK _ _ ?_); clear hK K'; conv => whnf)
    | ((refine And.intro ?_ ?_); all_goals (conv => whnf))
    | (apply r_quiet; refine mixed; kernel_rfl; kernel_rfl; kernel_rfl; conv => whnf)
    | ((refine if_t ?_ ?_); (focus decide); conv => whnf)
    | ((refine if_f ?_ ?_); (focus decide); conv => whnf)
    | ((refine if_decT ?_ ?_); (focus omega); conv => whnf)
    | ((refine if_decF ?_ ?_); (focus omega); conv => whnf)
    | ((refine if_ndecT ?_ ?_); (focus omega); conv => whnf)
    | ((refine if_ndecF ?_ ?_); (focus omega); conv => whnf)
    | ((refine if_dec (fun h => ?_) (fun h => ?_)); all_goals (conv => whnf))
    | ((refine if_ndec (fun h => ?_) (fun h => ?_)); all_goals (conv => whnf))
    | ((refine if_cond (fun h => ?_) (fun h => ?_)); all_goals (conv => whnf))
    | ((with_reducible apply_assumption -symm -exfalso)))
  exact FinK.pu rfl
theorem wServeDone {w : World} {d mp : Nat} (hd : DAt w d 3 3 4 mp) (hka : KAt w) : Pu Tryz.prog 14 #[pv d, .agg #[.int .i64 10, .int .i64 1, .int .i64 3, .int .i64 0, .int .i64 0, .int .i64 0, .int .i64 1009, .string qv, .slice none 0 0], .func (.func 40) #[] #[]] w (.tuple #[.agg #[.int .i64 0, .int .i64 0, .int .i64 0, .int .i64 0, .int .i64 0, .int .i64 0, .string ⟨#[]⟩, .int .i64 0, .int .i64 0, .string ⟨#[]⟩, .string ⟨#[]⟩, .int .i64 0, .string ⟨#[]⟩, .int .i64 0, .int .i64 0, .slice none 0 0, .int .i64 0, .int .i64 0, .int .i64 0, .int .i64 0, .bool false, .int .i64 0, .int .i64 0, .string ⟨#[]⟩], .agg #[.int .i64 11, .int .i64 3, .int .i64 1, .int .i64 0, .int .i64 0, .int .i64 0, .int .i64 1009, .string rv, .slice none 0 0], .bool false, .bool true]) :=
  serveDoneEff14 (s := 7) (t := 0) (p := 1) (g := 1) (k := ⟨#[107]⟩) (dl := 1) (f := 1) (to := 3) (num := 1009) (e := 0) (rn := 8) (rx := ⟨#[]⟩) eff701 (by omega) (by decide +kernel) (by decide) (by omega) (by unfold NumOk; omega) hd hka (by omega) (by omega) (by omega) (by decide) (by omega) (by omega) (by omega) (by rw [qvEq]; decide +kernel) (by rw [qvEq]; decide) wDone (by omega) (by unfold NumOk; omega) (by decide) (by decide +kernel)
theorem wAnswer {w : World} {d bi mp : Nat} {S0 : Nat → Prop} (hd : Rdd w [.blk 9 bi itW 48, .blk 3 d (DC 3 3 4 mp) 81] S0) (hka : KAt w) : Pu Tryz.prog 31 #[pv d, .agg #[.int .i64 11, .int .i64 3, .int .i64 1, .int .i64 0, .int .i64 0, .int .i64 0, .int .i64 1009, .string rv, .slice none 0 0], .slice (some ⟨bi, 0, none⟩) 1 1] w (.tuple #[.agg #[.int .i64 15, .int .i64 0, .int .i64 0, .int .i64 0, .int .i64 0, .int .i64 0, .string ⟨#[]⟩, .int .i64 0, .int .i64 0, .string ⟨#[]⟩, .string ⟨#[]⟩, .int .i64 0, .string ⟨#[]⟩, .int .i64 0, .int .i64 0, .slice none 0 0, .int .i64 7, .int .i64 0, .int .i64 1, .int .i64 0, .bool false, .int .i64 1, .int .i64 0, .string ⟨#[]⟩], .bool true]) :=
  answerEff31 (s := 7) (t := 0) (p := 1) (g := 1) (k := ⟨#[107]⟩) (dl := 1) (f := 1) (to := 3) (num := 1009) (e := 0) (rn := 8) (rx := ⟨#[]⟩) eff701 (by omega) (by decide +kernel) (by decide) (by omega) (by unfold NumOk; omega) hd hka (by omega) (by omega) (by omega) (by decide) (by omega) (by omega) (by omega) (by omega) (by unfold NumOk; omega) (by decide) (by decide +kernel)
end Go.Proofs.YtbgnoibellfojaaGreatDoor

namespace Go.Proofs.YtbgnoibellfojaaGreatDoor
open Go Go.X
set_option maxRecDepth 100000
set_option maxHeartbeats 0
theorem Kn.rdSlc {W : World} {S : Nat → Prop} {ms : List Nat} {H : List Blk} {w : World} {i b t len k : Nat} {cs : List SV} (hk : Kn W S ms H w) (hm : .blk i b cs t ∈ H) (hl : cs.length = len * k) : RdS w t k (some ⟨b, 0, none⟩) len len (denL cs) :=
  ⟨fun x => x = b, slc_SlA hl ⟨rfl, hk.got hm⟩, fun _ hx => hx ▸ (Array.getElem?_eq_some_iff.1 (hk.got hm)).1⟩
theorem works10 {w : World} (hka : KAt w) : Pu Tryz.prog 10 #[] w (.bool true) := by
  refine enter_sound TBok Tryz.func10 rfl rfl Tryz.ntmps10 [] (Kn.start w noS) rfl rfl ?_
  conv => whnf
  repeat' (first
    | (with_reducible refine r_stop 6 ?_)
    | ((with_reducible refine r_seq (fun KS hS => ?_)))
    | ((with_reducible refine r_region ?_); conv => whnf)
    | ((with_reducible refine r_cond (fun KA hA KB hB => ?_)); conv => whnf)
    | ((with_reducible refine hS _ _ ?_); clear hS KS)
    | ((with_reducible refine hA _ ?_); clear hA KA)
    | ((with_reducible refine hB _ ?_); clear hB KB)
    | ((with_reducible refine r_block ?_))
    | ((with_reducible refine r_ret ?_); conv => whnf)
    | ((with_reducible refine r_skip ?_); conv => whnf)
    | ((with_reducible refine r_exit ?_); conv => whnf)
    | ((with_reducible refine WrapK.i64 ?_ ?_); (focus omega); conv => whnf)
    | ((with_reducible refine And.intro rfl ?_); conv => whnf)
    | ((with_reducible intro b); conv => whnf)
    | (refine wNew (fun z => ?_); conv => whnf)
    | ((with_reducible refine CallK.id ?_); refine CallK.pu (fun w => wNum w) ?_; conv => whnf)
    | ((with_reducible apply OpK.more); (focus refine sok); (conv => whnf); fail_if_success guard_target =ₛ False)
    | ((with_reducible refine InAt.mk (fun K' hK => ?_)); conv => whnf)
    | ((with_reducible refine AnyAt.mk (fun K' hK => ?_)); conv => whnf)
    | ((with_reducible refine hK _ ?_); clear hK K'; conv => whnf)
    | ((with_reducible refine hK _ _ ?_); clear hK K'; conv => whnf)
    | ((refine And.intro ?_ ?_); all_goals (conv => whnf))
    | (apply r_quiet; refine mixed; kernel_rfl; kernel_rfl; kernel_rfl; conv => whnf)
    | ((refine if_t ?_ ?_); (focus decide); conv => whnf)
    | ((refine if_f ?_ ?_); (focus decide); conv => whnf)
    | ((refine if_decT ?_ ?_); (focus omega); conv => whnf)
    | ((refine if_decF ?_ ?_); (focus omega); conv => whnf)
    | ((refine if_ndecT ?_ ?_); (focus omega); conv => whnf)
    | ((refine if_ndecF ?_ ?_); (focus omega); conv => whnf)
    | ((refine if_dec (fun h => ?_) (fun h => ?_)); all_goals (conv => whnf))
    | ((refine if_ndec (fun h => ?_) (fun h => ?_)); all_goals (conv => whnf))
    | ((refine if_cond (fun h => ?_) (fun h => ?_)); all_goals (conv => whnf))
    | ((with_reducible apply_assumption -symm -exfalso)))
  refine ⟨?_⟩
  rename Nat => bi
  refine r_cut (α := Option Addr × Nat) (fun y => [(0, .v (.bool false)), (1, .v (pv z.1)), (3, .loc bi 4 0), (4, .v (.int .i64 1009)), (6, .v (.slice y.1 1 y.2))]) (fun y => [.ext 70 (SlA 26 9 y.1 1 y.2 (qM 3)), .blk 4 bi [.v (.int .i64 7), .v (.int .i64 0), .v (.int .i64 1), .v (.int .i64 0), .v (.bool false), .v (.int .i64 1)] 48, .ext 4 (MpA z.2 [⟨.int .i64 1009, .agg #[.int .i64 1, .int .i64 1], 0⟩] 1), .blk 3 z.1 (DC 3 3 1 z.2) 81]) (fun _ => True) ?_ ?_
  · intro KL hL
    repeat' (first
    | ((with_reducible refine r_seq (fun KS hS => ?_)))
    | ((with_reducible refine r_region ?_); conv => whnf)
    | ((with_reducible refine r_cond (fun KA hA KB hB => ?_)); conv => whnf)
    | ((with_reducible refine hS _ _ ?_); clear hS KS)
    | ((with_reducible refine hA _ ?_); clear hA KA)
    | ((with_reducible refine hB _ ?_); clear hB KB)
    | ((with_reducible refine r_block ?_))
    | ((with_reducible refine r_ret ?_); conv => whnf)
    | ((with_reducible refine r_skip ?_); conv => whnf)
    | ((with_reducible refine r_exit ?_); conv => whnf)
    | ((with_reducible refine WrapK.i64 ?_ ?_); (focus omega); conv => whnf)
    | ((with_reducible refine And.intro rfl ?_); conv => whnf)
    | ((with_reducible intro b); conv => whnf)
    | (apply r_any (id := 6); refine mixed; kernel_rfl; kernel_rfl; conv => whnf)
    | (apply in36; refine Tryz.ntmps36; rfl; rfl; rfl; intro A; conv => whnf)
    | (refine wTickFirst (Sel.cons (by repeat (first | with_reducible apply Rm.head | apply Rm.tail)) (Sel.cons (by repeat (first | with_reducible apply Rm.head | apply Rm.tail)) (Sel.cons (by repeat (first | with_reducible apply Rm.head | apply Rm.tail)) (Sel.cons (by repeat (first | with_reducible apply Rm.head | apply Rm.tail)) Sel.nil)))) ?_ ?_ ?_ (fun y => ?_); rfl; rfl; rfl; conv => whnf)
    | (refine hL _ _ _ trivial (by repeat' (first | exact Sub.nil | (refine Sub.cons rfl rfl ?_))) (by (try dsimp only [List.cons_append, List.nil_append, den, denL]); refine SelI.spec ?_; repeat (first | apply SelI.nil | refine SelI.blk (by repeat (first | with_reducible apply Rm.head | apply Rm.tail)) ?_ | refine SelI.ext (by repeat (first | with_reducible apply Rm.head | apply Rm.tail)) ?_ | (refine SelI.blk' (by repeat (first | with_reducible apply Rm.head | apply Rm.tail)) ?_ ?_; focus rfl) | (refine SelI.ext' (by repeat (first | with_reducible apply Rm.head | apply Rm.tail)) ?_ ?_; focus rfl))))
    | ((with_reducible apply OpK.more); (focus refine sok); (conv => whnf); fail_if_success guard_target =ₛ False)
    | ((with_reducible refine InAt.mk (fun K' hK => ?_)); conv => whnf)
    | ((with_reducible refine AnyAt.mk (fun K' hK => ?_)); conv => whnf)
    | ((with_reducible refine hK _ ?_); clear hK K'; conv => whnf)
    | ((with_reducible refine hK _ _ ?_); clear hK K'; conv => whnf)
    | ((refine And.intro ?_ ?_); all_goals (conv => whnf))
    | (apply r_quiet; refine mixed; kernel_rfl; kernel_rfl; kernel_rfl; conv => whnf)
    | ((refine if_t ?_ ?_); (focus decide); conv => whnf)
    | ((refine if_f ?_ ?_); (focus decide); conv => whnf)
    | ((refine if_decT ?_ ?_); (focus omega); conv => whnf)
    | ((refine if_decF ?_ ?_); (focus omega); conv => whnf)
    | ((refine if_ndecT ?_ ?_); (focus omega); conv => whnf)
    | ((refine if_ndecF ?_ ?_); (focus omega); conv => whnf)
    | ((refine if_dec (fun h => ?_) (fun h => ?_)); all_goals (conv => whnf))
    | ((refine if_ndec (fun h => ?_) (fun h => ?_)); all_goals (conv => whnf))
    | ((refine if_cond (fun h => ?_) (fun h => ?_)); all_goals (conv => whnf))
    | ((with_reducible apply_assumption -symm -exfalso)))
  intro y _
  skip
  repeat' (first
    | ((with_reducible refine r_seq (fun KS hS => ?_)))
    | ((with_reducible refine r_region ?_); conv => whnf)
    | ((with_reducible refine r_cond (fun KA hA KB hB => ?_)); conv => whnf)
    | ((with_reducible refine hS _ _ ?_); clear hS KS)
    | ((with_reducible refine hA _ ?_); clear hA KA)
    | ((with_reducible refine hB _ ?_); clear hB KB)
    | ((with_reducible refine r_block ?_))
    | ((with_reducible refine r_ret ?_); conv => whnf)
    | ((with_reducible refine r_skip ?_); conv => whnf)
    | ((with_reducible refine r_exit ?_); conv => whnf)
    | ((with_reducible refine WrapK.i64 ?_ ?_); (focus omega); conv => whnf)
    | ((with_reducible refine And.intro rfl ?_); conv => whnf)
    | ((with_reducible intro b); conv => whnf)
    | (refine wWait (Sel.cons (by repeat (first | with_reducible apply Rm.head | apply Rm.tail)) (Sel.cons (by repeat (first | with_reducible apply Rm.head | apply Rm.tail)) Sel.nil)) ?_ (fun q => ?_); rfl; conv => whnf)
    | ((with_reducible refine CallK.at 39 ?_); refine CallK.puW (fun ms w hk => equal39 (Sees.rd (Sees.ext (by repeat (first | with_reducible apply At.head | apply At.tail))) hk) (Kn.rdSlc hk (by repeat (first | constructor | apply List.Mem.tail)) rfl)) ?_; conv => whnf)
    | ((with_reducible refine OpK.id ?_); refine OpK.idx (k := 9) rfl rfl rfl rfl rfl rfl rfl (Sees.ext (by repeat (first | with_reducible apply At.head | apply At.tail))) (by omega) (by omega) (i9M _) (fun b off hp => ?_); conv => whnf)
    | ((with_reducible refine OpK.id ?_); refine OpK.fap rfl rfl (by assumption) ?_; conv => whnf)
    | ((with_reducible refine OpK.id ?_); refine OpK.ldp rfl rfl (by assumption) (List.cons_ne_nil _ _) ?_; conv => whnf)
    | ((with_reducible apply OpK.more); (focus refine sok); (conv => whnf); fail_if_success guard_target =ₛ False)
    | ((with_reducible refine InAt.mk (fun K' hK => ?_)); conv => whnf)
    | ((with_reducible refine AnyAt.mk (fun K' hK => ?_)); conv => whnf)
    | ((with_reducible refine hK _ ?_); clear hK K'; conv => whnf)
    | ((with_reducible refine hK _ _ ?_); clear hK K'; conv => whnf)
    | ((refine And.intro ?_ ?_); all_goals (conv => whnf))
    | (apply r_quiet; refine mixed; kernel_rfl; kernel_rfl; kernel_rfl; conv => whnf)
    | ((refine if_t ?_ ?_); (focus decide); conv => whnf)
    | ((refine if_f ?_ ?_); (focus decide); conv => whnf)
    | ((refine if_decT ?_ ?_); (focus omega); conv => whnf)
    | ((refine if_decF ?_ ?_); (focus omega); conv => whnf)
    | ((refine if_ndecT ?_ ?_); (focus omega); conv => whnf)
    | ((refine if_ndecF ?_ ?_); (focus omega); conv => whnf)
    | ((refine if_dec (fun h => ?_) (fun h => ?_)); all_goals (conv => whnf))
    | ((refine if_ndec (fun h => ?_) (fun h => ?_)); all_goals (conv => whnf))
    | ((refine if_cond (fun h => ?_) (fun h => ?_)); all_goals (conv => whnf))
    | ((with_reducible apply_assumption -symm -exfalso)))
  refine r_loop (α := Nat) (fun k => [(0, .v (.bool false)), (1, .v (pv z.1)), (3, .loc bi 4 0), (4, .v (.int .i64 1009)), (6, .v (.slice y.1 1 y.2)), (80, .v (.int .i64 k))]) (fun k => [.ext 70 (SlA 26 9 y.1 1 y.2 (qM 3)), .blk 4 bi [.v (.int .i64 7), .v (.int .i64 0), .v (.int .i64 1), .v (.int .i64 0), .v (.bool false), .v (.int .i64 1)] 48, .ext 4 (MpA z.2 [⟨.int .i64 1009, .agg #[.int .i64 1, .int .i64 1], 0⟩] 1), .blk 3 z.1 (DC 3 3 ((k : Int) + 1) z.2) 81]) (fun k => k ≤ 3) (fun k => 3 - k) 0 (by omega) (by repeat' (first | exact Sub.nil | (refine Sub.cons rfl rfl ?_))) (by (try dsimp only [List.cons_append, List.nil_append, den, denL]); refine SelI.spec ?_; repeat (first | apply SelI.nil | refine SelI.blk (by repeat (first | with_reducible apply Rm.head | apply Rm.tail)) ?_ | refine SelI.ext (by repeat (first | with_reducible apply Rm.head | apply Rm.tail)) ?_ | (refine SelI.blk' (by repeat (first | with_reducible apply Rm.head | apply Rm.tail)) ?_ ?_; focus rfl) | (refine SelI.ext' (by repeat (first | with_reducible apply Rm.head | apply Rm.tail)) ?_ ?_; focus rfl))) ?_
  intro k hk KL hL
  by_cases hlt : k < 3
  · repeat' (first
    | ((with_reducible refine r_seq (fun KS hS => ?_)))
    | ((with_reducible refine r_region ?_); conv => whnf)
    | ((with_reducible refine r_cond (fun KA hA KB hB => ?_)); conv => whnf)
    | ((with_reducible refine hS _ _ ?_); clear hS KS)
    | ((with_reducible refine hA _ ?_); clear hA KA)
    | ((with_reducible refine hB _ ?_); clear hB KB)
    | ((with_reducible refine r_block ?_))
    | ((with_reducible refine r_ret ?_); conv => whnf)
    | ((with_reducible refine r_skip ?_); conv => whnf)
    | ((with_reducible refine r_exit ?_); conv => whnf)
    | ((with_reducible refine WrapK.i64 ?_ ?_); (focus omega); conv => whnf)
    | ((with_reducible refine And.intro rfl ?_); conv => whnf)
    | ((with_reducible intro b); conv => whnf)
    | (apply r_any (id := 11); refine mixed; kernel_rfl; kernel_rfl; conv => whnf)
    | (apply in36; refine Tryz.ntmps36; rfl; rfl; rfl; intro A; conv => whnf)
    | (refine wTickNot (tk := (k : Int) + 1) (by omega) (Sel.cons (by repeat (first | with_reducible apply Rm.head | apply Rm.tail)) (Sel.cons (by repeat (first | with_reducible apply Rm.head | apply Rm.tail)) (Sel.cons (by repeat (first | with_reducible apply Rm.head | apply Rm.tail)) (Sel.cons (by repeat (first | with_reducible apply Rm.head | apply Rm.tail)) Sel.nil)))) ?_ ?_ ?_ (fun y => ?_); rfl; rfl; rfl; conv => whnf)
    | (refine hL (k + 1) _ _ (by omega) (by omega) (by repeat' (first | exact Sub.nil | (refine Sub.cons rfl rfl ?_))) (by (try dsimp only [List.cons_append, List.nil_append, den, denL]); refine SelI.spec ?_; repeat (first | apply SelI.nil | refine SelI.blk (by repeat (first | with_reducible apply Rm.head | apply Rm.tail)) ?_ | refine SelI.ext (by repeat (first | with_reducible apply Rm.head | apply Rm.tail)) ?_ | (refine SelI.blk' (by repeat (first | with_reducible apply Rm.head | apply Rm.tail)) ?_ ?_; focus rfl) | (refine SelI.ext' (by repeat (first | with_reducible apply Rm.head | apply Rm.tail)) ?_ ?_; focus rfl))))
    | ((with_reducible apply OpK.more); (focus refine sok); (conv => whnf); fail_if_success guard_target =ₛ False)
    | ((with_reducible refine InAt.mk (fun K' hK => ?_)); conv => whnf)
    | ((with_reducible refine AnyAt.mk (fun K' hK => ?_)); conv => whnf)
    | ((with_reducible refine hK _ ?_); clear hK K'; conv => whnf)
    | ((with_reducible refine hK _ _ ?_); clear hK K'; conv => whnf)
    | ((refine And.intro ?_ ?_); all_goals (conv => whnf))
    | (apply r_quiet; refine mixed; kernel_rfl; kernel_rfl; kernel_rfl; conv => whnf)
    | ((refine if_t ?_ ?_); (focus decide); conv => whnf)
    | ((refine if_f ?_ ?_); (focus decide); conv => whnf)
    | ((refine if_decT ?_ ?_); (focus omega); conv => whnf)
    | ((refine if_decF ?_ ?_); (focus omega); conv => whnf)
    | ((refine if_ndecT ?_ ?_); (focus omega); conv => whnf)
    | ((refine if_ndecF ?_ ?_); (focus omega); conv => whnf)
    | ((refine if_dec (fun h => ?_) (fun h => ?_)); all_goals (conv => whnf))
    | ((refine if_ndec (fun h => ?_) (fun h => ?_)); all_goals (conv => whnf))
    | ((refine if_cond (fun h => ?_) (fun h => ?_)); all_goals (conv => whnf))
    | ((with_reducible apply_assumption -symm -exfalso)))
  obtain rfl : k = 3 := by omega
  repeat' (first
    | ((with_reducible refine r_seq (fun KS hS => ?_)))
    | ((with_reducible refine r_region ?_); conv => whnf)
    | ((with_reducible refine r_cond (fun KA hA KB hB => ?_)); conv => whnf)
    | ((with_reducible refine hS _ _ ?_); clear hS KS)
    | ((with_reducible refine hA _ ?_); clear hA KA)
    | ((with_reducible refine hB _ ?_); clear hB KB)
    | ((with_reducible refine r_block ?_))
    | ((with_reducible refine r_ret ?_); conv => whnf)
    | ((with_reducible refine r_skip ?_); conv => whnf)
    | ((with_reducible refine r_exit ?_); conv => whnf)
    | ((with_reducible refine WrapK.i64 ?_ ?_); (focus omega); conv => whnf)
    | ((with_reducible refine And.intro rfl ?_); conv => whnf)
    | ((with_reducible intro b); conv => whnf)
    | ((with_reducible refine CallK.id ?_); refine CallK.puW (fun ms w hk => wServe (hk.got (by repeat (first | constructor | apply List.Mem.tail))) (hka.now (fun h => h) hk)) ?_; conv => whnf)
    | ((with_reducible refine CallK.id ?_); refine CallK.puW (fun ms w hk => wServeDone (hk.got (by repeat (first | constructor | apply List.Mem.tail))) (hka.now (fun h => h) hk)) ?_; conv => whnf)
    | ((with_reducible refine CallK.id ?_); refine CallK.puW (fun ms w hk => (Kn.rdd hk (L := [.blk 9 _ itW 48, .blk 3 _ (DC 3 3 4 _) 81]) trivial (by (try dsimp only [List.cons_append, List.nil_append, den, denL]); refine SelI.spec ?_; repeat (first | apply SelI.nil | refine SelI.blk (by repeat (first | with_reducible apply Rm.head | apply Rm.tail)) ?_ | refine SelI.ext (by repeat (first | with_reducible apply Rm.head | apply Rm.tail)) ?_ | (refine SelI.blk' (by repeat (first | with_reducible apply Rm.head | apply Rm.tail)) ?_ ?_; focus rfl) | (refine SelI.ext' (by repeat (first | with_reducible apply Rm.head | apply Rm.tail)) ?_ ?_; focus rfl)))).elim fun S' h => wAnswer h (hka.now (fun h => h) hk)) ?_; conv => whnf)
    | (apply r_any (id := 17); refine mixed; kernel_rfl; kernel_rfl; conv => whnf)
    | (apply in36; refine Tryz.ntmps36; rfl; rfl; rfl; intro A; conv => whnf)
    | (refine wTickAgain (Sel.cons (by repeat (first | with_reducible apply Rm.head | apply Rm.tail)) (Sel.cons (by repeat (first | with_reducible apply Rm.head | apply Rm.tail)) (Sel.cons (by repeat (first | with_reducible apply Rm.head | apply Rm.tail)) (Sel.cons (by repeat (first | with_reducible apply Rm.head | apply Rm.tail)) Sel.nil)))) ?_ ?_ ?_ (fun y => ?_); rfl; rfl; rfl; conv => whnf)
    | ((with_reducible refine OpK.id ?_); refine OpK.idx (k := 9) rfl rfl rfl rfl rfl rfl rfl (Sees.ext (by repeat (first | with_reducible apply At.head | apply At.tail))) (by omega) (by omega) (i9M _) (fun b off hp => ?_); conv => whnf)
    | ((with_reducible refine OpK.id ?_); refine OpK.fap rfl rfl (by assumption) ?_; conv => whnf)
    | ((with_reducible refine OpK.id ?_); refine OpK.ldp rfl rfl (by assumption) (List.cons_ne_nil _ _) ?_; conv => whnf)
    | ((with_reducible apply OpK.more); (focus refine sok); (conv => whnf); fail_if_success guard_target =ₛ False)
    | ((with_reducible refine InAt.mk (fun K' hK => ?_)); conv => whnf)
    | ((with_reducible refine AnyAt.mk (fun K' hK => ?_)); conv => whnf)
    | ((with_reducible refine hK _ ?_); clear hK K'; conv => whnf)
    | ((with_reducible refine hK _ _ ?_); clear hK K'; conv => whnf)
    | ((refine And.intro ?_ ?_); all_goals (conv => whnf))
    | (apply r_quiet; refine mixed; kernel_rfl; kernel_rfl; kernel_rfl; conv => whnf)
    | ((refine if_t ?_ ?_); (focus decide); conv => whnf)
    | ((refine if_f ?_ ?_); (focus decide); conv => whnf)
    | ((refine if_decT ?_ ?_); (focus omega); conv => whnf)
    | ((refine if_decF ?_ ?_); (focus omega); conv => whnf)
    | ((refine if_ndecT ?_ ?_); (focus omega); conv => whnf)
    | ((refine if_ndecF ?_ ?_); (focus omega); conv => whnf)
    | ((refine if_dec (fun h => ?_) (fun h => ?_)); all_goals (conv => whnf))
    | ((refine if_ndec (fun h => ?_) (fun h => ?_)); all_goals (conv => whnf))
    | ((refine if_cond (fun h => ?_) (fun h => ?_)); all_goals (conv => whnf))
    | ((with_reducible apply_assumption -symm -exfalso)))
  all_goals exact FinK.pu rfl
end Go.Proofs.YtbgnoibellfojaaGreatDoor

namespace Go.X
open Go
theorem OpK.idxX {c : Cx} {o : Oper} {E : Env} {H : List Blk} {nx : K1} {t e : Nat} {x ix : Operand} {ti j : TI} (ho : o.op = .indexAddr t x ix) {b off n cap : Nat} {q : IntKind} {z : Int} (hx : opd E x = some (.v (.slice (some ⟨b, off, none⟩) n cap))) (hi : opd E ix = some (.v (.int q z)))
    (hti : c.T.get t = some ti) (hd : ti.desc = .slice e) (hj : c.T.get e = some j) {k : Nat} (hkk : j.size = k) (h0 : 0 ≤ z) (hlt : z < n)
    (h : nx (.v (.pointer (some ⟨b, off + z.toNat * k, none⟩))) H) : OpK c o E H nx := by
  subst hkk
  have hnd : ∀ cl, o.op ≠ .defer cl := by rw [ho]; intro cl e; cases e
  refine OpK.val hnd _ (fun ms ac w hac hk => ?_) h
  have hu := (c.ok t ti hti).1
  rw [hd] at hu
  have e1 := hac.opd hx
  have e2 := hac.opd hi
  simp only [den] at e1 e2
  simp [execOp, ho, e1, e2, Instr.indexAt, asIntOf, run_underlying hu, r_sizeOf (c.ok e j hj) w, hlt, h0, add_none, den]
theorem HSub.emp {i : Nat} (H : List Blk) : HSub [.ext i emp] H := fun _ _ _ =>
  ⟨fun _ => False ∨ False, .cons (x := .ext i X.emp) (S := fun _ => False) (fun _ h => h) (fun _ h => h.elim) .nil (fun _ h _ => h), fun _ hk => (hk.elim id id).elim⟩
end Go.X
namespace Go.Proofs.YtbgnoibellfojaaGreatDoor
open Go Go.X
set_option maxRecDepth 100000
set_option maxHeartbeats 0
/-- the entries of a list that came in -/
def EntAt (w : World) (a : Option Addr) (n : Nat) : Prop :=
  n = 0 ∨ ∃ b off C t f, a = some ⟨b, off, none⟩ ∧ w.heap[b]? = some (.cells C t f) ∧ ∀ i, i < n → ∃ (s r nd : Int) (v : ByteArray), v.size ≤ 9223372036854775807 ∧ ∀ j u, (denL [.v (.int .i64 s), .v (.int .i64 r), .v (.int .i64 nd), .v (.string v)])[j]? = some u → C[off + i * 4 + j]? = some u
theorem EntAt.pc {W : World} {a : Option Addr} {n : Nat} (h : EntAt W a n) (hn : 0 < n) : ∃ b off, a = some ⟨b, off, none⟩ ∧ ∀ i, i < n → ∃ (s r nd : Int) (v : ByteArray), v.size ≤ 9223372036854775807 ∧ ∀ (nt : Nat) (rr : Option Nat) (H : List Blk), PC ⟨Tryz.prog, TB, nt, W, noS, rr, TBok⟩ H b (off + i * 4) [.v (.int .i64 s), .v (.int .i64 r), .v (.int .i64 nd), .v (.string v)] := by
  rcases h with rfl | ⟨b, off, C, t, f, rfl, h1, h2⟩
  · omega
  refine ⟨b, off, rfl, fun i hi => ?_⟩
  obtain ⟨s, r, nd, v, h0, h3⟩ := h2 i hi
  refine ⟨s, r, nd, v, h0, fun nt rr H ms w hk => ⟨C, t, f, ?_, h3⟩⟩
  rw [Kn0.old hk b (Array.getElem?_eq_some_iff.1 h1).1 (fun h => h)]
  exact h1
theorem few9 {w : World} {k f t br bn sl nu : Int} {v : ByteArray} {a : Option Addr} {n cap : Nat} (hv : v.size ≤ 9223372036854775807) (h : EntAt w a n) (hn : n ≤ 9223372036854775807) :
    FrZ Tryz.prog 9 #[.agg #[.int .i64 k, .int .i64 f, .int .i64 t, .int .i64 br, .int .i64 bn, .int .i64 sl, .int .i64 nu, .string v, .slice a n cap]] w emp (fun b : Bool => .bool b) (fun _ => emp) := by
  refine enter_frZ TBok (H := []) emp_foot Tryz.func9 rfl rfl Tryz.ntmps9 [.agg [.v (.int .i64 k), .v (.int .i64 f), .v (.int .i64 t), .v (.int .i64 br), .v (.int .i64 bn), .v (.int .i64 sl), .v (.int .i64 nu), .v (.string v), .v (.slice a n cap)]] rfl rfl ?_
  intro S hS _
  obtain rfl : S = noS := by funext k; exact propext ⟨fun h => hS k h, fun h => h.elim⟩
  conv => whnf
  repeat' (first
    | ((with_reducible refine r_seq (fun KS hS => ?_)))
    | ((with_reducible refine r_region ?_); conv => whnf)
    | ((with_reducible refine r_cond (fun KA hA KB hB => ?_)); conv => whnf)
    | ((with_reducible refine hS _ _ ?_); clear hS KS)
    | ((with_reducible refine hA _ ?_); clear hA KA)
    | ((with_reducible refine hB _ ?_); clear hB KB)
    | ((with_reducible refine r_block ?_))
    | ((with_reducible refine r_ret ?_); conv => whnf)
    | ((with_reducible refine r_skip ?_); conv => whnf)
    | ((with_reducible refine r_exit ?_); conv => whnf)
    | ((with_reducible refine WrapK.i64 ?_ ?_); (focus omega); conv => whnf)
    | ((with_reducible refine And.intro rfl ?_); conv => whnf)
    | ((with_reducible intro b); conv => whnf)
    | ((with_reducible apply OpK.more); (focus refine sok); (conv => whnf); fail_if_success guard_target =ₛ False)
    | ((with_reducible refine InAt.mk (fun K' hK => ?_)); conv => whnf)
    | ((with_reducible refine AnyAt.mk (fun K' hK => ?_)); conv => whnf)
    | ((with_reducible refine hK _ ?_); clear hK K'; conv => whnf)
    | ((with_reducible refine hK _ _ ?_); clear hK K'; conv => whnf)
    | ((refine And.intro ?_ ?_); all_goals (conv => whnf))
    | (apply r_quiet; refine mixed; kernel_rfl; kernel_rfl; kernel_rfl; conv => whnf)
    | ((refine if_t ?_ ?_); (focus decide); conv => whnf)
    | ((refine if_f ?_ ?_); (focus decide); conv => whnf)
    | ((refine if_decT ?_ ?_); (focus omega); conv => whnf)
    | ((refine if_decF ?_ ?_); (focus omega); conv => whnf)
    | ((refine if_ndecT ?_ ?_); (focus omega); conv => whnf)
    | ((refine if_ndecF ?_ ?_); (focus omega); conv => whnf)
    | ((refine if_dec (fun h => ?_) (fun h => ?_)); all_goals (conv => whnf))
    | ((refine if_ndec (fun h => ?_) (fun h => ?_)); all_goals (conv => whnf))
    | ((refine if_cond (fun h => ?_) (fun h => ?_)); all_goals (conv => whnf))
    | ((with_reducible apply_assumption -symm -exfalso)))
  · exact FinK.frZ (i := 0) false rfl (HSub.emp _)
  refine r_loop (α := Nat × Int) (fun p => [(2, .v (.bool false)), (3, .v (.int .i64 p.2)), (14, .v (.slice a n cap)), (15, .v (.int .i64 n)), (16, .v (.int .i64 p.1))]) (fun _ => []) (fun p => p.1 ≤ n) (fun p => n - p.1) (0, _) (Nat.zero_le _) (by repeat' (first | exact Sub.nil | (refine Sub.cons rfl rfl ?_))) (HSub.none _) ?_
  rintro ⟨i, x⟩ hi KL hL
  dsimp only at hi
  by_cases hlt : i < n
  · obtain ⟨b, off, rfl, hp⟩ := EntAt.pc ‹_› (by omega)
    obtain ⟨s, r, nd, v', hv', hp⟩ := hp i hlt
    repeat' (first
    | ((with_reducible refine r_seq (fun KS hS => ?_)))
    | ((with_reducible refine r_region ?_); conv => whnf)
    | ((with_reducible refine r_cond (fun KA hA KB hB => ?_)); conv => whnf)
    | ((with_reducible refine hS _ _ ?_); clear hS KS)
    | ((with_reducible refine hA _ ?_); clear hA KA)
    | ((with_reducible refine hB _ ?_); clear hB KB)
    | ((with_reducible refine r_block ?_))
    | ((with_reducible refine r_ret ?_); conv => whnf)
    | ((with_reducible refine r_skip ?_); conv => whnf)
    | ((with_reducible refine r_exit ?_); conv => whnf)
    | ((with_reducible refine WrapK.i64 ?_ ?_); (focus omega); conv => whnf)
    | ((with_reducible refine And.intro rfl ?_); conv => whnf)
    | ((with_reducible intro b); conv => whnf)
    | ((with_reducible refine OpK.id ?_); refine OpK.idxX (k := 4) rfl rfl rfl rfl rfl rfl rfl (by omega) (by omega) ?_; conv => whnf)
    | ((with_reducible refine OpK.id ?_); refine OpK.ldp rfl rfl (hp _ _ _) (List.cons_ne_nil _ _) ?_; conv => whnf)
    | ((with_reducible refine WrapK.id ?_); refine WrapK.raw ?_; conv => whnf)
    | (refine hL (i + 1, _) _ _ (by show i + 1 ≤ n; omega) (by show n - (i + 1) < n - i; omega) (by repeat' (first | exact Sub.nil | (refine Sub.cons rfl rfl ?_))) (HSub.none _))
    | ((with_reducible apply OpK.more); (focus refine sok); (conv => whnf); fail_if_success guard_target =ₛ False)
    | ((with_reducible refine InAt.mk (fun K' hK => ?_)); conv => whnf)
    | ((with_reducible refine AnyAt.mk (fun K' hK => ?_)); conv => whnf)
    | ((with_reducible refine hK _ ?_); clear hK K'; conv => whnf)
    | ((with_reducible refine hK _ _ ?_); clear hK K'; conv => whnf)
    | ((refine And.intro ?_ ?_); all_goals (conv => whnf))
    | (apply r_quiet; refine mixed; kernel_rfl; kernel_rfl; kernel_rfl; conv => whnf)
    | ((refine if_t ?_ ?_); (focus decide); conv => whnf)
    | ((refine if_f ?_ ?_); (focus decide); conv => whnf)
    | ((refine if_decT ?_ ?_); (focus omega); conv => whnf)
    | ((refine if_decF ?_ ?_); (focus omega); conv => whnf)
    | ((refine if_ndecT ?_ ?_); (focus omega); conv => whnf)
    | ((refine if_ndecF ?_ ?_); (focus omega); conv => whnf)
    | ((refine if_dec (fun h => ?_) (fun h => ?_)); all_goals (conv => whnf))
    | ((refine if_ndec (fun h => ?_) (fun h => ?_)); all_goals (conv => whnf))
    | ((refine if_cond (fun h => ?_) (fun h => ?_)); all_goals (conv => whnf))
    | ((with_reducible apply_assumption -symm -exfalso)))
  obtain rfl : i = n := by omega
  repeat' (first
    | ((with_reducible refine r_seq (fun KS hS => ?_)))
    | ((with_reducible refine r_region ?_); conv => whnf)
    | ((with_reducible refine r_cond (fun KA hA KB hB => ?_)); conv => whnf)
    | ((with_reducible refine hS _ _ ?_); clear hS KS)
    | ((with_reducible refine hA _ ?_); clear hA KA)
    | ((with_reducible refine hB _ ?_); clear hB KB)
    | ((with_reducible refine r_block ?_))
    | ((with_reducible refine r_ret ?_); conv => whnf)
    | ((with_reducible refine r_skip ?_); conv => whnf)
    | ((with_reducible refine r_exit ?_); conv => whnf)
    | ((with_reducible refine WrapK.i64 ?_ ?_); (focus omega); conv => whnf)
    | ((with_reducible refine And.intro rfl ?_); conv => whnf)
    | ((with_reducible intro b); conv => whnf)
    | ((with_reducible apply OpK.more); (focus refine sok); (conv => whnf); fail_if_success guard_target =ₛ False)
    | ((with_reducible refine InAt.mk (fun K' hK => ?_)); conv => whnf)
    | ((with_reducible refine AnyAt.mk (fun K' hK => ?_)); conv => whnf)
    | ((with_reducible refine hK _ ?_); clear hK K'; conv => whnf)
    | ((with_reducible refine hK _ _ ?_); clear hK K'; conv => whnf)
    | ((refine And.intro ?_ ?_); all_goals (conv => whnf))
    | (apply r_quiet; refine mixed; kernel_rfl; kernel_rfl; kernel_rfl; conv => whnf)
    | ((refine if_t ?_ ?_); (focus decide); conv => whnf)
    | ((refine if_f ?_ ?_); (focus decide); conv => whnf)
    | ((refine if_decT ?_ ?_); (focus omega); conv => whnf)
    | ((refine if_decF ?_ ?_); (focus omega); conv => whnf)
    | ((refine if_ndecT ?_ ?_); (focus omega); conv => whnf)
    | ((refine if_ndecF ?_ ?_); (focus omega); conv => whnf)
    | ((refine if_dec (fun h => ?_) (fun h => ?_)); all_goals (conv => whnf))
    | ((refine if_ndec (fun h => ?_) (fun h => ?_)); all_goals (conv => whnf))
    | ((refine if_cond (fun h => ?_) (fun h => ?_)); all_goals (conv => whnf))
    | ((with_reducible apply_assumption -symm -exfalso)))
  exact FinK.frZ (i := 0) _ rfl (HSub.emp _)
end Go.Proofs.YtbgnoibellfojaaGreatDoor

namespace Go.Proofs.YtbgnoibellfojaaGreatDoor
open Go Go.X
set_option maxRecDepth 100000
set_option maxHeartbeats 0
/-- a driver that is nil, or was not made -/
def Nil45 (dv : Value) (w : World) : Prop := ∀ w', w.heap.size ≤ w'.heap.size → (∀ k, k < w.heap.size → w'.heap[k]? = w.heap[k]?) → Pu Tryz.prog 45 #[dv] w' (.bool false)
theorem Nil45.now {dv : Value} {W w : World} {ms : List Nat} {H : List Blk} (h : Nil45 dv W) (hk : Kn W noS ms H w) : Nil45 dv w := fun w' h1 h2 =>
  h w' (Nat.le_trans (Kn0.size hk) h1) fun k hk' => by rw [h2 k (Nat.lt_of_lt_of_le hk' (Kn0.size hk)), Kn0.old hk k hk' (fun h => h)]
theorem Nil45.pu {dv : Value} {w : World} (h : Nil45 dv w) : Pu Tryz.prog 45 #[dv] w (.bool false) := h w (Nat.le_refl _) fun _ _ => rfl
theorem nil45n (w : World) : Nil45 (.pointer none) w := fun w' _ _ => by
  refine enter_sound TBok Tryz.func45 rfl rfl Tryz.ntmps45 [.v (.pointer none)] (Kn.start w' noS) rfl rfl ?_
  conv => whnf
  repeat' (first
    | ((with_reducible refine r_seq (fun KS hS => ?_)))
    | ((with_reducible refine r_region ?_); conv => whnf)
    | ((with_reducible refine r_cond (fun KA hA KB hB => ?_)); conv => whnf)
    | ((with_reducible refine hS _ _ ?_); clear hS KS)
    | ((with_reducible refine hA _ ?_); clear hA KA)
    | ((with_reducible refine hB _ ?_); clear hB KB)
    | ((with_reducible refine r_block ?_))
    | ((with_reducible refine r_ret ?_); conv => whnf)
    | ((with_reducible refine r_skip ?_); conv => whnf)
    | ((with_reducible refine r_exit ?_); conv => whnf)
    | ((with_reducible refine WrapK.i64 ?_ ?_); (focus omega); conv => whnf)
    | ((with_reducible refine And.intro rfl ?_); conv => whnf)
    | ((with_reducible intro b); conv => whnf)
    | ((with_reducible apply OpK.more); (focus refine sok); (conv => whnf); fail_if_success guard_target =ₛ False)
    | ((with_reducible refine InAt.mk (fun K' hK => ?_)); conv => whnf)
    | ((with_reducible refine AnyAt.mk (fun K' hK => ?_)); conv => whnf)
    | ((with_reducible refine hK _ ?_); clear hK K'; conv => whnf)
    | ((with_reducible refine hK _ _ ?_); clear hK K'; conv => whnf)
    | ((refine And.intro ?_ ?_); all_goals (conv => whnf))
    | (apply r_quiet; refine mixed; kernel_rfl; kernel_rfl; kernel_rfl; conv => whnf)
    | ((refine if_t ?_ ?_); (focus decide); conv => whnf)
    | ((refine if_f ?_ ?_); (focus decide); conv => whnf)
    | ((refine if_decT ?_ ?_); (focus omega); conv => whnf)
    | ((refine if_decF ?_ ?_); (focus omega); conv => whnf)
    | ((refine if_ndecT ?_ ?_); (focus omega); conv => whnf)
    | ((refine if_ndecF ?_ ?_); (focus omega); conv => whnf)
    | ((refine if_dec (fun h => ?_) (fun h => ?_)); all_goals (conv => whnf))
    | ((refine if_ndec (fun h => ?_) (fun h => ?_)); all_goals (conv => whnf))
    | ((refine if_cond (fun h => ?_) (fun h => ?_)); all_goals (conv => whnf))
    | ((with_reducible apply_assumption -symm -exfalso)))
  all_goals exact FinK.pu rfl
theorem nil45z {w : World} {d : Nat} (hd : w.heap[d]? = some (.cells (denL [.v (.int .i64 0), .v (.int .i64 0), .v (.int .i64 0), .v (.map none)]).toArray 81 (0, 0))) : Nil45 (pv d) w := fun w' h1 h2 => by
  refine Pu.ofFrZ (enter_ro TBok (cs := [.v (.int .i64 0), .v (.int .i64 0), .v (.int .i64 0), .v (.map none)]) (b := d) (t := 81) (by rw [h2 d (Array.getElem?_eq_some_iff.1 hd).1]; exact hd) Tryz.func45 rfl rfl Tryz.ntmps45 [.loc d 10 0] rfl rfl ?_)
  conv => whnf
  repeat' (first
    | ((with_reducible refine r_seq (fun KS hS => ?_)))
    | ((with_reducible refine r_region ?_); conv => whnf)
    | ((with_reducible refine r_cond (fun KA hA KB hB => ?_)); conv => whnf)
    | ((with_reducible refine hS _ _ ?_); clear hS KS)
    | ((with_reducible refine hA _ ?_); clear hA KA)
    | ((with_reducible refine hB _ ?_); clear hB KB)
    | ((with_reducible refine r_block ?_))
    | ((with_reducible refine r_ret ?_); conv => whnf)
    | ((with_reducible refine r_skip ?_); conv => whnf)
    | ((with_reducible refine r_exit ?_); conv => whnf)
    | ((with_reducible refine WrapK.i64 ?_ ?_); (focus omega); conv => whnf)
    | ((with_reducible refine And.intro rfl ?_); conv => whnf)
    | ((with_reducible intro b); conv => whnf)
    | ((with_reducible apply OpK.more); (focus refine sok); (conv => whnf); fail_if_success guard_target =ₛ False)
    | ((with_reducible refine InAt.mk (fun K' hK => ?_)); conv => whnf)
    | ((with_reducible refine AnyAt.mk (fun K' hK => ?_)); conv => whnf)
    | ((with_reducible refine hK _ ?_); clear hK K'; conv => whnf)
    | ((with_reducible refine hK _ _ ?_); clear hK K'; conv => whnf)
    | ((refine And.intro ?_ ?_); all_goals (conv => whnf))
    | (apply r_quiet; refine mixed; kernel_rfl; kernel_rfl; kernel_rfl; conv => whnf)
    | ((refine if_t ?_ ?_); (focus decide); conv => whnf)
    | ((refine if_f ?_ ?_); (focus decide); conv => whnf)
    | ((refine if_decT ?_ ?_); (focus omega); conv => whnf)
    | ((refine if_decF ?_ ?_); (focus omega); conv => whnf)
    | ((refine if_ndecT ?_ ?_); (focus omega); conv => whnf)
    | ((refine if_ndecF ?_ ?_); (focus omega); conv => whnf)
    | ((refine if_dec (fun h => ?_) (fun h => ?_)); all_goals (conv => whnf))
    | ((refine if_ndec (fun h => ?_) (fun h => ?_)); all_goals (conv => whnf))
    | ((refine if_cond (fun h => ?_) (fun h => ?_)); all_goals (conv => whnf))
    | ((with_reducible apply_assumption -symm -exfalso)))
  all_goals exact FinK.ro0 rfl (HSub.pick (by repeat (first | with_reducible apply At.head | apply At.tail)))
theorem fromAny75 (n : Int) : ∃ (s t p m : Int) (i : Bool) (g e : Int), ∀ w, Pu Tryz.prog 75 #[.int .i64 n] w (.tuple #[.agg #[.int .i64 s, .int .i64 t, .int .i64 p, .int .i64 m, .bool i, .int .i64 g], .int .i64 e]) := by
  by_cases h1 : 1 ≤ n ∧ n ≤ 1680728
  · by_cases h2 : n ≤ 1679832
    · exact ⟨_, _, _, _, _, _, _, fun w => fromEff75 ⟨h1.1, h2⟩ w⟩
    · exact ⟨_, _, _, _, _, _, _, fun w => fromMove75 ⟨by omega, h1.2⟩ w⟩
  · refine ⟨0, 0, 0, 0, false, 0, 3, fun w => ?_⟩
    refine enter_sound TBok Tryz.func75 rfl rfl Tryz.ntmps75 [.v (.int .i64 n)] (Kn.start w noS) rfl rfl ?_
    conv => whnf
    repeat' (first
    | ((with_reducible refine r_seq (fun KS hS => ?_)))
    | ((with_reducible refine r_region ?_); conv => whnf)
    | ((with_reducible refine r_cond (fun KA hA KB hB => ?_)); conv => whnf)
    | ((with_reducible refine hS _ _ ?_); clear hS KS)
    | ((with_reducible refine hA _ ?_); clear hA KA)
    | ((with_reducible refine hB _ ?_); clear hB KB)
    | ((with_reducible refine r_block ?_))
    | ((with_reducible refine r_ret ?_); conv => whnf)
    | ((with_reducible refine r_skip ?_); conv => whnf)
    | ((with_reducible refine r_exit ?_); conv => whnf)
    | ((with_reducible refine WrapK.i64 ?_ ?_); (focus omega); conv => whnf)
    | ((with_reducible refine And.intro rfl ?_); conv => whnf)
    | ((with_reducible intro b); conv => whnf)
    | ((with_reducible apply OpK.more); (focus refine sok); (conv => whnf); fail_if_success guard_target =ₛ False)
    | ((with_reducible refine InAt.mk (fun K' hK => ?_)); conv => whnf)
    | ((with_reducible refine AnyAt.mk (fun K' hK => ?_)); conv => whnf)
    | ((with_reducible refine hK _ ?_); clear hK K'; conv => whnf)
    | ((with_reducible refine hK _ _ ?_); clear hK K'; conv => whnf)
    | ((refine And.intro ?_ ?_); all_goals (conv => whnf))
    | (apply r_quiet; refine mixed; kernel_rfl; kernel_rfl; kernel_rfl; conv => whnf)
    | ((refine if_t ?_ ?_); (focus decide); conv => whnf)
    | ((refine if_f ?_ ?_); (focus decide); conv => whnf)
    | ((refine if_decT ?_ ?_); (focus omega); conv => whnf)
    | ((refine if_decF ?_ ?_); (focus omega); conv => whnf)
    | ((refine if_ndecT ?_ ?_); (focus omega); conv => whnf)
    | ((refine if_ndecF ?_ ?_); (focus omega); conv => whnf)
    | ((refine if_dec (fun h => ?_) (fun h => ?_)); all_goals (conv => whnf))
    | ((refine if_ndec (fun h => ?_) (fun h => ?_)); all_goals (conv => whnf))
    | ((refine if_cond (fun h => ?_) (fun h => ?_)); all_goals (conv => whnf))
    | ((with_reducible apply_assumption -symm -exfalso)))
    all_goals exact FinK.pu rfl

theorem nilReset35 {w : World} {qd : Option Addr} (hd : Nil45 (.pointer qd) w)  : Pu Tryz.prog 35 #[.pointer qd] w (.tuple #[]) := by
  refine enter_sound TBok Tryz.func35 rfl rfl Tryz.ntmps35 [.v (.pointer qd)] (Kn.start w noS) rfl rfl ?_
  conv => whnf
  repeat' (first
    | ((with_reducible refine r_seq (fun KS hS => ?_)))
    | ((with_reducible refine r_region ?_); conv => whnf)
    | ((with_reducible refine r_cond (fun KA hA KB hB => ?_)); conv => whnf)
    | ((with_reducible refine hS _ _ ?_); clear hS KS)
    | ((with_reducible refine hA _ ?_); clear hA KA)
    | ((with_reducible refine hB _ ?_); clear hB KB)
    | ((with_reducible refine r_block ?_))
    | ((with_reducible refine r_ret ?_); conv => whnf)
    | ((with_reducible refine r_skip ?_); conv => whnf)
    | ((with_reducible refine r_exit ?_); conv => whnf)
    | ((with_reducible refine WrapK.i64 ?_ ?_); (focus omega); conv => whnf)
    | ((with_reducible refine And.intro rfl ?_); conv => whnf)
    | ((with_reducible intro b); conv => whnf)
    | ((with_reducible refine CallK.id ?_); refine CallK.puW (fun ms w hk => (hd.now hk).pu) ?_; conv => whnf)
    | ((with_reducible refine CallQ.id ?_); refine CallQ.puW (fun ms w hk => (hd.now hk).pu) ?_; conv => whnf)
    | ((with_reducible apply OpK.more); (focus refine sok); (conv => whnf); fail_if_success guard_target =ₛ False)
    | ((with_reducible refine InAt.mk (fun K' hK => ?_)); conv => whnf)
    | ((with_reducible refine AnyAt.mk (fun K' hK => ?_)); conv => whnf)
    | ((with_reducible refine hK _ ?_); clear hK K'; conv => whnf)
    | ((with_reducible refine hK _ _ ?_); clear hK K'; conv => whnf)
    | ((refine And.intro ?_ ?_); all_goals (conv => whnf))
    | (apply r_quiet; refine mixed; kernel_rfl; kernel_rfl; kernel_rfl; conv => whnf)
    | ((refine if_t ?_ ?_); (focus decide); conv => whnf)
    | ((refine if_f ?_ ?_); (focus decide); conv => whnf)
    | ((refine if_decT ?_ ?_); (focus omega); conv => whnf)
    | ((refine if_decF ?_ ?_); (focus omega); conv => whnf)
    | ((refine if_ndecT ?_ ?_); (focus omega); conv => whnf)
    | ((refine if_ndecF ?_ ?_); (focus omega); conv => whnf)
    | ((refine if_dec (fun h => ?_) (fun h => ?_)); all_goals (conv => whnf))
    | ((refine if_ndec (fun h => ?_) (fun h => ?_)); all_goals (conv => whnf))
    | ((refine if_cond (fun h => ?_) (fun h => ?_)); all_goals (conv => whnf))
    | ((with_reducible apply_assumption -symm -exfalso)))
  all_goals exact FinK.pu rfl

theorem nilQuestion41 {w : World} {qd : Option Addr} (hd : Nil45 (.pointer qd) w) {k f t br bn sl nu : Int} {v : ByteArray} {a : Option Addr} {n cap : Nat} : Pu Tryz.prog 41 #[.pointer qd, .agg #[.int .i64 k, .int .i64 f, .int .i64 t, .int .i64 br, .int .i64 bn, .int .i64 sl, .int .i64 nu, .string v, .slice a n cap]] w (.tuple #[.agg #[.int .i64 0, .int .i64 0, .int .i64 0, .int .i64 0, .bool false, .int .i64 0], .agg #[.int .i64 0, .int .i64 0, .int .i64 0, .int .i64 0, .int .i64 0, .int .i64 0, .string ⟨#[]⟩, .int .i64 0, .int .i64 0, .string ⟨#[]⟩, .string ⟨#[]⟩, .int .i64 0, .string ⟨#[]⟩, .int .i64 0, .int .i64 0, .slice none 0 0, .int .i64 0, .int .i64 0, .int .i64 0, .int .i64 0, .bool false, .int .i64 0, .int .i64 0, .string ⟨#[]⟩], .bool false]) := by
  refine enter_sound TBok Tryz.func41 rfl rfl Tryz.ntmps41 [.v (.pointer qd), .agg [.v (.int .i64 k), .v (.int .i64 f), .v (.int .i64 t), .v (.int .i64 br), .v (.int .i64 bn), .v (.int .i64 sl), .v (.int .i64 nu), .v (.string v), .v (.slice a n cap)]] (Kn.start w noS) rfl rfl ?_
  conv => whnf
  repeat' (first
    | ((with_reducible refine r_seq (fun KS hS => ?_)))
    | ((with_reducible refine r_region ?_); conv => whnf)
    | ((with_reducible refine r_cond (fun KA hA KB hB => ?_)); conv => whnf)
    | ((with_reducible refine hS _ _ ?_); clear hS KS)
    | ((with_reducible refine hA _ ?_); clear hA KA)
    | ((with_reducible refine hB _ ?_); clear hB KB)
    | ((with_reducible refine r_block ?_))
    | ((with_reducible refine r_ret ?_); conv => whnf)
    | ((with_reducible refine r_skip ?_); conv => whnf)
    | ((with_reducible refine r_exit ?_); conv => whnf)
    | ((with_reducible refine WrapK.i64 ?_ ?_); (focus omega); conv => whnf)
    | ((with_reducible refine And.intro rfl ?_); conv => whnf)
    | ((with_reducible intro b); conv => whnf)
    | ((with_reducible refine CallK.id ?_); refine CallK.puW (fun ms w hk => (hd.now hk).pu) ?_; conv => whnf)
    | ((with_reducible refine CallQ.id ?_); refine CallQ.puW (fun ms w hk => (hd.now hk).pu) ?_; conv => whnf)
    | (obtain ⟨_, _, _, _, _, _, _, hq⟩ := fromAny75 nu; refine CallK.pu hq ?_; clear hq; conv => whnf)
    | ((with_reducible apply OpK.more); (focus refine sok); (conv => whnf); fail_if_success guard_target =ₛ False)
    | ((with_reducible refine InAt.mk (fun K' hK => ?_)); conv => whnf)
    | ((with_reducible refine AnyAt.mk (fun K' hK => ?_)); conv => whnf)
    | ((with_reducible refine hK _ ?_); clear hK K'; conv => whnf)
    | ((with_reducible refine hK _ _ ?_); clear hK K'; conv => whnf)
    | ((refine And.intro ?_ ?_); all_goals (conv => whnf))
    | (apply r_quiet; refine mixed; kernel_rfl; kernel_rfl; kernel_rfl; conv => whnf)
    | ((refine if_t ?_ ?_); (focus decide); conv => whnf)
    | ((refine if_f ?_ ?_); (focus decide); conv => whnf)
    | ((refine if_decT ?_ ?_); (focus omega); conv => whnf)
    | ((refine if_decF ?_ ?_); (focus omega); conv => whnf)
    | ((refine if_ndecT ?_ ?_); (focus omega); conv => whnf)
    | ((refine if_ndecF ?_ ?_); (focus omega); conv => whnf)
    | ((refine if_dec (fun h => ?_) (fun h => ?_)); all_goals (conv => whnf))
    | ((refine if_ndec (fun h => ?_) (fun h => ?_)); all_goals (conv => whnf))
    | ((refine if_cond (fun h => ?_) (fun h => ?_)); all_goals (conv => whnf))
    | ((with_reducible apply_assumption -symm -exfalso)))
  all_goals exact FinK.pu rfl

theorem nilServe14 {w : World} {qd : Option Addr} (hd : Nil45 (.pointer qd) w) {k f t br bn sl nu : Int} {v : ByteArray} {a : Option Addr} {n cap : Nat} : Pu Tryz.prog 14 #[.pointer qd, .agg #[.int .i64 k, .int .i64 f, .int .i64 t, .int .i64 br, .int .i64 bn, .int .i64 sl, .int .i64 nu, .string v, .slice a n cap], .nilFunc] w (.tuple #[.agg #[.int .i64 0, .int .i64 0, .int .i64 0, .int .i64 0, .int .i64 0, .int .i64 0, .string ⟨#[]⟩, .int .i64 0, .int .i64 0, .string ⟨#[]⟩, .string ⟨#[]⟩, .int .i64 0, .string ⟨#[]⟩, .int .i64 0, .int .i64 0, .slice none 0 0, .int .i64 0, .int .i64 0, .int .i64 0, .int .i64 0, .bool false, .int .i64 0, .int .i64 0, .string ⟨#[]⟩], .agg #[.int .i64 0, .int .i64 0, .int .i64 0, .int .i64 0, .int .i64 0, .int .i64 0, .int .i64 0, .string ⟨#[]⟩, .slice none 0 0], .bool false, .bool false]) := by
  refine enter_sound TBok Tryz.func14 rfl rfl Tryz.ntmps14 [.v (.pointer qd), .agg [.v (.int .i64 k), .v (.int .i64 f), .v (.int .i64 t), .v (.int .i64 br), .v (.int .i64 bn), .v (.int .i64 sl), .v (.int .i64 nu), .v (.string v), .v (.slice a n cap)], .v .nilFunc] (Kn.start w noS) rfl rfl ?_
  conv => whnf
  repeat' (first
    | ((with_reducible refine r_seq (fun KS hS => ?_)))
    | ((with_reducible refine r_region ?_); conv => whnf)
    | ((with_reducible refine r_cond (fun KA hA KB hB => ?_)); conv => whnf)
    | ((with_reducible refine hS _ _ ?_); clear hS KS)
    | ((with_reducible refine hA _ ?_); clear hA KA)
    | ((with_reducible refine hB _ ?_); clear hB KB)
    | ((with_reducible refine r_block ?_))
    | ((with_reducible refine r_ret ?_); conv => whnf)
    | ((with_reducible refine r_skip ?_); conv => whnf)
    | ((with_reducible refine r_exit ?_); conv => whnf)
    | ((with_reducible refine WrapK.i64 ?_ ?_); (focus omega); conv => whnf)
    | ((with_reducible refine And.intro rfl ?_); conv => whnf)
    | ((with_reducible intro b); conv => whnf)
    | ((with_reducible refine CallK.id ?_); refine CallK.puW (fun ms w hk => (hd.now hk).pu) ?_; conv => whnf)
    | ((with_reducible refine CallQ.id ?_); refine CallQ.puW (fun ms w hk => (hd.now hk).pu) ?_; conv => whnf)
    | ((with_reducible refine CallK.at 41 ?_); refine CallK.puW (fun ms w hk => nilQuestion41 (hd.now hk)) ?_; conv => whnf)
    | ((with_reducible apply OpK.more); (focus refine sok); (conv => whnf); fail_if_success guard_target =ₛ False)
    | ((with_reducible refine InAt.mk (fun K' hK => ?_)); conv => whnf)
    | ((with_reducible refine AnyAt.mk (fun K' hK => ?_)); conv => whnf)
    | ((with_reducible refine hK _ ?_); clear hK K'; conv => whnf)
    | ((with_reducible refine hK _ _ ?_); clear hK K'; conv => whnf)
    | ((refine And.intro ?_ ?_); all_goals (conv => whnf))
    | (apply r_quiet; refine mixed; kernel_rfl; kernel_rfl; kernel_rfl; conv => whnf)
    | ((refine if_t ?_ ?_); (focus decide); conv => whnf)
    | ((refine if_f ?_ ?_); (focus decide); conv => whnf)
    | ((refine if_decT ?_ ?_); (focus omega); conv => whnf)
    | ((refine if_decF ?_ ?_); (focus omega); conv => whnf)
    | ((refine if_ndecT ?_ ?_); (focus omega); conv => whnf)
    | ((refine if_ndecF ?_ ?_); (focus omega); conv => whnf)
    | ((refine if_dec (fun h => ?_) (fun h => ?_)); all_goals (conv => whnf))
    | ((refine if_ndec (fun h => ?_) (fun h => ?_)); all_goals (conv => whnf))
    | ((refine if_cond (fun h => ?_) (fun h => ?_)); all_goals (conv => whnf))
    | ((with_reducible apply_assumption -symm -exfalso)))
  all_goals exact FinK.pu rfl

theorem nilAnswer31 {w : World} {qd : Option Addr} (hd : Nil45 (.pointer qd) w) {k f t br bn sl nu : Int} {v : ByteArray} {a : Option Addr} {n cap : Nat} {s : Value} : Pu Tryz.prog 31 #[.pointer qd, .agg #[.int .i64 k, .int .i64 f, .int .i64 t, .int .i64 br, .int .i64 bn, .int .i64 sl, .int .i64 nu, .string v, .slice a n cap], s] w (.tuple #[.agg #[.int .i64 0, .int .i64 0, .int .i64 0, .int .i64 0, .int .i64 0, .int .i64 0, .string ⟨#[]⟩, .int .i64 0, .int .i64 0, .string ⟨#[]⟩, .string ⟨#[]⟩, .int .i64 0, .string ⟨#[]⟩, .int .i64 0, .int .i64 0, .slice none 0 0, .int .i64 0, .int .i64 0, .int .i64 0, .int .i64 0, .bool false, .int .i64 0, .int .i64 0, .string ⟨#[]⟩], .bool false]) := by
  refine enter_sound TBok Tryz.func31 rfl rfl Tryz.ntmps31 [.v (.pointer qd), .agg [.v (.int .i64 k), .v (.int .i64 f), .v (.int .i64 t), .v (.int .i64 br), .v (.int .i64 bn), .v (.int .i64 sl), .v (.int .i64 nu), .v (.string v), .v (.slice a n cap)], .v s] (Kn.start w noS) rfl rfl ?_
  conv => whnf
  repeat' (first
    | ((with_reducible refine r_seq (fun KS hS => ?_)))
    | ((with_reducible refine r_region ?_); conv => whnf)
    | ((with_reducible refine r_cond (fun KA hA KB hB => ?_)); conv => whnf)
    | ((with_reducible refine hS _ _ ?_); clear hS KS)
    | ((with_reducible refine hA _ ?_); clear hA KA)
    | ((with_reducible refine hB _ ?_); clear hB KB)
    | ((with_reducible refine r_block ?_))
    | ((with_reducible refine r_ret ?_); conv => whnf)
    | ((with_reducible refine r_skip ?_); conv => whnf)
    | ((with_reducible refine r_exit ?_); conv => whnf)
    | ((with_reducible refine WrapK.i64 ?_ ?_); (focus omega); conv => whnf)
    | ((with_reducible refine And.intro rfl ?_); conv => whnf)
    | ((with_reducible intro b); conv => whnf)
    | ((with_reducible refine CallK.id ?_); refine CallK.puW (fun ms w hk => (hd.now hk).pu) ?_; conv => whnf)
    | ((with_reducible refine CallQ.id ?_); refine CallQ.puW (fun ms w hk => (hd.now hk).pu) ?_; conv => whnf)
    | ((with_reducible apply OpK.more); (focus refine sok); (conv => whnf); fail_if_success guard_target =ₛ False)
    | ((with_reducible refine InAt.mk (fun K' hK => ?_)); conv => whnf)
    | ((with_reducible refine AnyAt.mk (fun K' hK => ?_)); conv => whnf)
    | ((with_reducible refine hK _ ?_); clear hK K'; conv => whnf)
    | ((with_reducible refine hK _ _ ?_); clear hK K'; conv => whnf)
    | ((refine And.intro ?_ ?_); all_goals (conv => whnf))
    | (apply r_quiet; refine mixed; kernel_rfl; kernel_rfl; kernel_rfl; conv => whnf)
    | ((refine if_t ?_ ?_); (focus decide); conv => whnf)
    | ((refine if_f ?_ ?_); (focus decide); conv => whnf)
    | ((refine if_decT ?_ ?_); (focus omega); conv => whnf)
    | ((refine if_decF ?_ ?_); (focus omega); conv => whnf)
    | ((refine if_ndecT ?_ ?_); (focus omega); conv => whnf)
    | ((refine if_ndecF ?_ ?_); (focus omega); conv => whnf)
    | ((refine if_dec (fun h => ?_) (fun h => ?_)); all_goals (conv => whnf))
    | ((refine if_ndec (fun h => ?_) (fun h => ?_)); all_goals (conv => whnf))
    | ((refine if_cond (fun h => ?_) (fun h => ?_)); all_goals (conv => whnf))
    | ((with_reducible apply_assumption -symm -exfalso)))
  all_goals exact FinK.pu rfl

theorem nilTarget20 {w : World} {qd : Option Addr} (hd : Nil45 (.pointer qd) w) {x1 x2 x3 x4 : Int} {x5 : Bool} {x6 : Int} {tr : Int} : Pu Tryz.prog 20 #[.pointer qd, .agg #[.int .i64 x1, .int .i64 x2, .int .i64 x3, .int .i64 x4, .bool x5, .int .i64 x6], .int .i64 tr] w (.tuple #[.int .i64 0, .int .i64 1]) := by
  refine enter_sound TBok Tryz.func20 rfl rfl Tryz.ntmps20 [.v (.pointer qd), .agg [.v (.int .i64 x1), .v (.int .i64 x2), .v (.int .i64 x3), .v (.int .i64 x4), .v (.bool x5), .v (.int .i64 x6)], .v (.int .i64 tr)] (Kn.start w noS) rfl rfl ?_
  conv => whnf
  repeat' (first
    | ((with_reducible refine r_seq (fun KS hS => ?_)))
    | ((with_reducible refine r_region ?_); conv => whnf)
    | ((with_reducible refine r_cond (fun KA hA KB hB => ?_)); conv => whnf)
    | ((with_reducible refine hS _ _ ?_); clear hS KS)
    | ((with_reducible refine hA _ ?_); clear hA KA)
    | ((with_reducible refine hB _ ?_); clear hB KB)
    | ((with_reducible refine r_block ?_))
    | ((with_reducible refine r_ret ?_); conv => whnf)
    | ((with_reducible refine r_skip ?_); conv => whnf)
    | ((with_reducible refine r_exit ?_); conv => whnf)
    | ((with_reducible refine WrapK.i64 ?_ ?_); (focus omega); conv => whnf)
    | ((with_reducible refine And.intro rfl ?_); conv => whnf)
    | ((with_reducible intro b); conv => whnf)
    | ((with_reducible refine CallK.id ?_); refine CallK.puW (fun ms w hk => (hd.now hk).pu) ?_; conv => whnf)
    | ((with_reducible refine CallQ.id ?_); refine CallQ.puW (fun ms w hk => (hd.now hk).pu) ?_; conv => whnf)
    | ((with_reducible apply OpK.more); (focus refine sok); (conv => whnf); fail_if_success guard_target =ₛ False)
    | ((with_reducible refine InAt.mk (fun K' hK => ?_)); conv => whnf)
    | ((with_reducible refine AnyAt.mk (fun K' hK => ?_)); conv => whnf)
    | ((with_reducible refine hK _ ?_); clear hK K'; conv => whnf)
    | ((with_reducible refine hK _ _ ?_); clear hK K'; conv => whnf)
    | ((refine And.intro ?_ ?_); all_goals (conv => whnf))
    | (apply r_quiet; refine mixed; kernel_rfl; kernel_rfl; kernel_rfl; conv => whnf)
    | ((refine if_t ?_ ?_); (focus decide); conv => whnf)
    | ((refine if_f ?_ ?_); (focus decide); conv => whnf)
    | ((refine if_decT ?_ ?_); (focus omega); conv => whnf)
    | ((refine if_decF ?_ ?_); (focus omega); conv => whnf)
    | ((refine if_ndecT ?_ ?_); (focus omega); conv => whnf)
    | ((refine if_ndecF ?_ ?_); (focus omega); conv => whnf)
    | ((refine if_dec (fun h => ?_) (fun h => ?_)); all_goals (conv => whnf))
    | ((refine if_ndec (fun h => ?_) (fun h => ?_)); all_goals (conv => whnf))
    | ((refine if_cond (fun h => ?_) (fun h => ?_)); all_goals (conv => whnf))
    | ((with_reducible apply_assumption -symm -exfalso)))
  all_goals exact FinK.pu rfl

theorem nilAnswerTo18 {w : World} {qd : Option Addr} (hd : Nil45 (.pointer qd) w) {k f t br bn sl nu : Int} {v : ByteArray} {a : Option Addr} {n cap : Nat} {e rn : Int} {rx : ByteArray} : Pu Tryz.prog 18 #[.pointer qd, .agg #[.int .i64 k, .int .i64 f, .int .i64 t, .int .i64 br, .int .i64 bn, .int .i64 sl, .int .i64 nu, .string v, .slice a n cap], .agg #[.int .i64 e, .int .i64 rn, .string rx]] w (.tuple #[.agg #[.int .i64 0, .int .i64 0, .int .i64 0, .int .i64 0, .int .i64 0, .int .i64 0, .int .i64 0, .string ⟨#[]⟩, .slice none 0 0], .int .i64 1]) := by
  refine enter_sound TBok Tryz.func18 rfl rfl Tryz.ntmps18 [.v (.pointer qd), .agg [.v (.int .i64 k), .v (.int .i64 f), .v (.int .i64 t), .v (.int .i64 br), .v (.int .i64 bn), .v (.int .i64 sl), .v (.int .i64 nu), .v (.string v), .v (.slice a n cap)], .agg [.v (.int .i64 e), .v (.int .i64 rn), .v (.string rx)]] (Kn.start w noS) rfl rfl ?_
  conv => whnf
  repeat' (first
    | ((with_reducible refine r_seq (fun KS hS => ?_)))
    | ((with_reducible refine r_region ?_); conv => whnf)
    | ((with_reducible refine r_cond (fun KA hA KB hB => ?_)); conv => whnf)
    | ((with_reducible refine hS _ _ ?_); clear hS KS)
    | ((with_reducible refine hA _ ?_); clear hA KA)
    | ((with_reducible refine hB _ ?_); clear hB KB)
    | ((with_reducible refine r_block ?_))
    | ((with_reducible refine r_ret ?_); conv => whnf)
    | ((with_reducible refine r_skip ?_); conv => whnf)
    | ((with_reducible refine r_exit ?_); conv => whnf)
    | ((with_reducible refine WrapK.i64 ?_ ?_); (focus omega); conv => whnf)
    | ((with_reducible refine And.intro rfl ?_); conv => whnf)
    | ((with_reducible intro b); conv => whnf)
    | ((with_reducible refine CallK.id ?_); refine CallK.puW (fun ms w hk => (hd.now hk).pu) ?_; conv => whnf)
    | ((with_reducible refine CallQ.id ?_); refine CallQ.puW (fun ms w hk => (hd.now hk).pu) ?_; conv => whnf)
    | ((with_reducible apply OpK.more); (focus refine sok); (conv => whnf); fail_if_success guard_target =ₛ False)
    | ((with_reducible refine InAt.mk (fun K' hK => ?_)); conv => whnf)
    | ((with_reducible refine AnyAt.mk (fun K' hK => ?_)); conv => whnf)
    | ((with_reducible refine hK _ ?_); clear hK K'; conv => whnf)
    | ((with_reducible refine hK _ _ ?_); clear hK K'; conv => whnf)
    | ((refine And.intro ?_ ?_); all_goals (conv => whnf))
    | (apply r_quiet; refine mixed; kernel_rfl; kernel_rfl; kernel_rfl; conv => whnf)
    | ((refine if_t ?_ ?_); (focus decide); conv => whnf)
    | ((refine if_f ?_ ?_); (focus decide); conv => whnf)
    | ((refine if_decT ?_ ?_); (focus omega); conv => whnf)
    | ((refine if_decF ?_ ?_); (focus omega); conv => whnf)
    | ((refine if_ndecT ?_ ?_); (focus omega); conv => whnf)
    | ((refine if_ndecF ?_ ?_); (focus omega); conv => whnf)
    | ((refine if_dec (fun h => ?_) (fun h => ?_)); all_goals (conv => whnf))
    | ((refine if_ndec (fun h => ?_) (fun h => ?_)); all_goals (conv => whnf))
    | ((refine if_cond (fun h => ?_) (fun h => ?_)); all_goals (conv => whnf))
    | ((with_reducible apply_assumption -symm -exfalso)))
  all_goals exact FinK.pu rfl

theorem nilTick24 {w : World} {qd : Option Addr} (hd : Nil45 (.pointer qd) w) {me : Int} {s cv : Value} {F : Nat} : Pu Tryz.prog 24 #[.pointer qd, .int .i64 me, s, .func (.func F) #[] #[cv]] w (.slice none 0 0) := by
  refine enter_sound TBok Tryz.func24 rfl rfl Tryz.ntmps24 [.v (.pointer qd), .v (.int .i64 me), .v s, .fn F [.v cv]] (Kn.start w noS) rfl rfl ?_
  conv => whnf
  repeat' (first
    | ((with_reducible refine r_seq (fun KS hS => ?_)))
    | ((with_reducible refine r_region ?_); conv => whnf)
    | ((with_reducible refine r_cond (fun KA hA KB hB => ?_)); conv => whnf)
    | ((with_reducible refine hS _ _ ?_); clear hS KS)
    | ((with_reducible refine hA _ ?_); clear hA KA)
    | ((with_reducible refine hB _ ?_); clear hB KB)
    | ((with_reducible refine r_block ?_))
    | ((with_reducible refine r_ret ?_); conv => whnf)
    | ((with_reducible refine r_skip ?_); conv => whnf)
    | ((with_reducible refine r_exit ?_); conv => whnf)
    | ((with_reducible refine WrapK.i64 ?_ ?_); (focus omega); conv => whnf)
    | ((with_reducible refine And.intro rfl ?_); conv => whnf)
    | ((with_reducible intro b); conv => whnf)
    | ((with_reducible refine CallK.id ?_); refine CallK.puW (fun ms w hk => (hd.now hk).pu) ?_; conv => whnf)
    | ((with_reducible refine CallQ.id ?_); refine CallQ.puW (fun ms w hk => (hd.now hk).pu) ?_; conv => whnf)
    | ((with_reducible apply OpK.more); (focus refine sok); (conv => whnf); fail_if_success guard_target =ₛ False)
    | ((with_reducible refine InAt.mk (fun K' hK => ?_)); conv => whnf)
    | ((with_reducible refine AnyAt.mk (fun K' hK => ?_)); conv => whnf)
    | ((with_reducible refine hK _ ?_); clear hK K'; conv => whnf)
    | ((with_reducible refine hK _ _ ?_); clear hK K'; conv => whnf)
    | ((refine And.intro ?_ ?_); all_goals (conv => whnf))
    | (apply r_quiet; refine mixed; kernel_rfl; kernel_rfl; kernel_rfl; conv => whnf)
    | ((refine if_t ?_ ?_); (focus decide); conv => whnf)
    | ((refine if_f ?_ ?_); (focus decide); conv => whnf)
    | ((refine if_decT ?_ ?_); (focus omega); conv => whnf)
    | ((refine if_decF ?_ ?_); (focus omega); conv => whnf)
    | ((refine if_ndecT ?_ ?_); (focus omega); conv => whnf)
    | ((refine if_ndecF ?_ ?_); (focus omega); conv => whnf)
    | ((refine if_dec (fun h => ?_) (fun h => ?_)); all_goals (conv => whnf))
    | ((refine if_ndec (fun h => ?_) (fun h => ?_)); all_goals (conv => whnf))
    | ((refine if_cond (fun h => ?_) (fun h => ?_)); all_goals (conv => whnf))
    | ((with_reducible apply_assumption -symm -exfalso)))
  all_goals exact FinK.pu rfl

theorem nilWaiting25 {w : World} {qd : Option Addr} (hd : Nil45 (.pointer qd) w)  : Pu Tryz.prog 25 #[.pointer qd] w (.slice none 0 0) := by
  refine enter_sound TBok Tryz.func25 rfl rfl Tryz.ntmps25 [.v (.pointer qd)] (Kn.start w noS) rfl rfl ?_
  conv => whnf
  repeat' (first
    | ((with_reducible refine r_seq (fun KS hS => ?_)))
    | ((with_reducible refine r_region ?_); conv => whnf)
    | ((with_reducible refine r_cond (fun KA hA KB hB => ?_)); conv => whnf)
    | ((with_reducible refine hS _ _ ?_); clear hS KS)
    | ((with_reducible refine hA _ ?_); clear hA KA)
    | ((with_reducible refine hB _ ?_); clear hB KB)
    | ((with_reducible refine r_block ?_))
    | ((with_reducible refine r_ret ?_); conv => whnf)
    | ((with_reducible refine r_skip ?_); conv => whnf)
    | ((with_reducible refine r_exit ?_); conv => whnf)
    | ((with_reducible refine WrapK.i64 ?_ ?_); (focus omega); conv => whnf)
    | ((with_reducible refine And.intro rfl ?_); conv => whnf)
    | ((with_reducible intro b); conv => whnf)
    | ((with_reducible refine CallK.id ?_); refine CallK.puW (fun ms w hk => (hd.now hk).pu) ?_; conv => whnf)
    | ((with_reducible refine CallQ.id ?_); refine CallQ.puW (fun ms w hk => (hd.now hk).pu) ?_; conv => whnf)
    | ((with_reducible apply OpK.more); (focus refine sok); (conv => whnf); fail_if_success guard_target =ₛ False)
    | ((with_reducible refine InAt.mk (fun K' hK => ?_)); conv => whnf)
    | ((with_reducible refine AnyAt.mk (fun K' hK => ?_)); conv => whnf)
    | ((with_reducible refine hK _ ?_); clear hK K'; conv => whnf)
    | ((with_reducible refine hK _ _ ?_); clear hK K'; conv => whnf)
    | ((refine And.intro ?_ ?_); all_goals (conv => whnf))
    | (apply r_quiet; refine mixed; kernel_rfl; kernel_rfl; kernel_rfl; conv => whnf)
    | ((refine if_t ?_ ?_); (focus decide); conv => whnf)
    | ((refine if_f ?_ ?_); (focus decide); conv => whnf)
    | ((refine if_decT ?_ ?_); (focus omega); conv => whnf)
    | ((refine if_decF ?_ ?_); (focus omega); conv => whnf)
    | ((refine if_ndecT ?_ ?_); (focus omega); conv => whnf)
    | ((refine if_ndecF ?_ ?_); (focus omega); conv => whnf)
    | ((refine if_dec (fun h => ?_) (fun h => ?_)); all_goals (conv => whnf))
    | ((refine if_ndec (fun h => ?_) (fun h => ?_)); all_goals (conv => whnf))
    | ((refine if_cond (fun h => ?_) (fun h => ?_)); all_goals (conv => whnf))
    | ((with_reducible apply_assumption -symm -exfalso)))
  all_goals exact FinK.pu rfl

theorem nilCopy37 {w : World} {qd : Option Addr} (hd : Nil45 (.pointer qd) w)  : Pu Tryz.prog 37 #[.pointer qd] w (.pointer none) := by
  refine enter_sound TBok Tryz.func37 rfl rfl Tryz.ntmps37 [.v (.pointer qd)] (Kn.start w noS) rfl rfl ?_
  conv => whnf
  repeat' (first
    | ((with_reducible refine r_seq (fun KS hS => ?_)))
    | ((with_reducible refine r_region ?_); conv => whnf)
    | ((with_reducible refine r_cond (fun KA hA KB hB => ?_)); conv => whnf)
    | ((with_reducible refine hS _ _ ?_); clear hS KS)
    | ((with_reducible refine hA _ ?_); clear hA KA)
    | ((with_reducible refine hB _ ?_); clear hB KB)
    | ((with_reducible refine r_block ?_))
    | ((with_reducible refine r_ret ?_); conv => whnf)
    | ((with_reducible refine r_skip ?_); conv => whnf)
    | ((with_reducible refine r_exit ?_); conv => whnf)
    | ((with_reducible refine WrapK.i64 ?_ ?_); (focus omega); conv => whnf)
    | ((with_reducible refine And.intro rfl ?_); conv => whnf)
    | ((with_reducible intro b); conv => whnf)
    | ((with_reducible refine CallK.id ?_); refine CallK.puW (fun ms w hk => (hd.now hk).pu) ?_; conv => whnf)
    | ((with_reducible refine CallQ.id ?_); refine CallQ.puW (fun ms w hk => (hd.now hk).pu) ?_; conv => whnf)
    | ((with_reducible apply OpK.more); (focus refine sok); (conv => whnf); fail_if_success guard_target =ₛ False)
    | ((with_reducible refine InAt.mk (fun K' hK => ?_)); conv => whnf)
    | ((with_reducible refine AnyAt.mk (fun K' hK => ?_)); conv => whnf)
    | ((with_reducible refine hK _ ?_); clear hK K'; conv => whnf)
    | ((with_reducible refine hK _ _ ?_); clear hK K'; conv => whnf)
    | ((refine And.intro ?_ ?_); all_goals (conv => whnf))
    | (apply r_quiet; refine mixed; kernel_rfl; kernel_rfl; kernel_rfl; conv => whnf)
    | ((refine if_t ?_ ?_); (focus decide); conv => whnf)
    | ((refine if_f ?_ ?_); (focus decide); conv => whnf)
    | ((refine if_decT ?_ ?_); (focus omega); conv => whnf)
    | ((refine if_decF ?_ ?_); (focus omega); conv => whnf)
    | ((refine if_ndecT ?_ ?_); (focus omega); conv => whnf)
    | ((refine if_ndecF ?_ ?_); (focus omega); conv => whnf)
    | ((refine if_dec (fun h => ?_) (fun h => ?_)); all_goals (conv => whnf))
    | ((refine if_ndec (fun h => ?_) (fun h => ?_)); all_goals (conv => whnf))
    | ((refine if_cond (fun h => ?_) (fun h => ?_)); all_goals (conv => whnf))
    | ((with_reducible apply_assumption -symm -exfalso)))
  all_goals exact FinK.pu rfl

theorem zeroCmd16 (w : World) : Pu Tryz.prog 16 #[.agg #[.int .i64 0, .int .i64 0, .int .i64 0, .int .i64 0, .int .i64 0, .int .i64 0, .string ⟨#[]⟩, .int .i64 0, .int .i64 0, .string ⟨#[]⟩, .string ⟨#[]⟩, .int .i64 0, .string ⟨#[]⟩, .int .i64 0, .int .i64 0, .slice none 0 0, .int .i64 0, .int .i64 0, .int .i64 0, .int .i64 0, .bool false, .int .i64 0, .int .i64 0, .string ⟨#[]⟩], .agg #[.int .i64 0, .int .i64 0, .int .i64 0, .int .i64 0, .int .i64 0, .int .i64 0, .string ⟨#[]⟩, .int .i64 0, .int .i64 0, .string ⟨#[]⟩, .string ⟨#[]⟩, .int .i64 0, .string ⟨#[]⟩, .int .i64 0, .int .i64 0, .slice none 0 0, .int .i64 0, .int .i64 0, .int .i64 0, .int .i64 0, .bool false, .int .i64 0, .int .i64 0, .string ⟨#[]⟩]] w (.bool true) := by
  refine enter_sound TBok Tryz.func16 rfl rfl Tryz.ntmps16 [.agg [.v (.int .i64 0), .v (.int .i64 0), .v (.int .i64 0), .v (.int .i64 0), .v (.int .i64 0), .v (.int .i64 0), .v (.string ⟨#[]⟩), .v (.int .i64 0), .v (.int .i64 0), .v (.string ⟨#[]⟩), .v (.string ⟨#[]⟩), .v (.int .i64 0), .v (.string ⟨#[]⟩), .v (.int .i64 0), .v (.int .i64 0), .v (.slice none 0 0), .v (.int .i64 0), .v (.int .i64 0), .v (.int .i64 0), .v (.int .i64 0), .v (.bool false), .v (.int .i64 0), .v (.int .i64 0), .v (.string ⟨#[]⟩)], .agg [.v (.int .i64 0), .v (.int .i64 0), .v (.int .i64 0), .v (.int .i64 0), .v (.int .i64 0), .v (.int .i64 0), .v (.string ⟨#[]⟩), .v (.int .i64 0), .v (.int .i64 0), .v (.string ⟨#[]⟩), .v (.string ⟨#[]⟩), .v (.int .i64 0), .v (.string ⟨#[]⟩), .v (.int .i64 0), .v (.int .i64 0), .v (.slice none 0 0), .v (.int .i64 0), .v (.int .i64 0), .v (.int .i64 0), .v (.int .i64 0), .v (.bool false), .v (.int .i64 0), .v (.int .i64 0), .v (.string ⟨#[]⟩)]] (Kn.start w noS) rfl rfl ?_
  conv => whnf
  repeat' (first
    | ((with_reducible refine r_seq (fun KS hS => ?_)))
    | ((with_reducible refine r_region ?_); conv => whnf)
    | ((with_reducible refine r_cond (fun KA hA KB hB => ?_)); conv => whnf)
    | ((with_reducible refine hS _ _ ?_); clear hS KS)
    | ((with_reducible refine hA _ ?_); clear hA KA)
    | ((with_reducible refine hB _ ?_); clear hB KB)
    | ((with_reducible refine r_block ?_))
    | ((with_reducible refine r_ret ?_); conv => whnf)
    | ((with_reducible refine r_skip ?_); conv => whnf)
    | ((with_reducible refine r_exit ?_); conv => whnf)
    | ((with_reducible refine WrapK.i64 ?_ ?_); (focus omega); conv => whnf)
    | ((with_reducible refine And.intro rfl ?_); conv => whnf)
    | ((with_reducible intro b); conv => whnf)
    | (apply in43; refine Tryz.ntmps43; rfl; rfl; rfl; intro A; conv => whnf)
    | ((with_reducible apply OpK.more); (focus refine sok); (conv => whnf); fail_if_success guard_target =ₛ False)
    | ((with_reducible refine Rounds.step (fun KL hL => ?_)))
    | ((with_reducible refine hL _ _ ?_); clear hL KL)
    | ((with_reducible refine r_rounds 100 ?_))
    | ((with_reducible refine InAt.mk (fun K' hK => ?_)); conv => whnf)
    | ((with_reducible refine AnyAt.mk (fun K' hK => ?_)); conv => whnf)
    | ((with_reducible refine hK _ ?_); clear hK K'; conv => whnf)
    | ((with_reducible refine hK _ _ ?_); clear hK K'; conv => whnf)
    | ((refine And.intro ?_ ?_); all_goals (conv => whnf))
    | (apply r_quiet; refine mixed; kernel_rfl; kernel_rfl; kernel_rfl; conv => whnf)
    | ((refine if_t ?_ ?_); (focus decide); conv => whnf)
    | ((refine if_f ?_ ?_); (focus decide); conv => whnf)
    | ((refine if_decT ?_ ?_); (focus omega); conv => whnf)
    | ((refine if_decF ?_ ?_); (focus omega); conv => whnf)
    | ((refine if_ndecT ?_ ?_); (focus omega); conv => whnf)
    | ((refine if_ndecF ?_ ?_); (focus omega); conv => whnf)
    | ((refine if_dec (fun h => ?_) (fun h => ?_)); all_goals (conv => whnf))
    | ((refine if_ndec (fun h => ?_) (fun h => ?_)); all_goals (conv => whnf))
    | ((refine if_cond (fun h => ?_) (fun h => ?_)); all_goals (conv => whnf))
    | ((with_reducible apply_assumption -symm -exfalso)))
  all_goals exact FinK.pu rfl
theorem zeroMsg17 (w : World) : Pu Tryz.prog 17 #[.agg #[.int .i64 0, .int .i64 0, .int .i64 0, .int .i64 0, .int .i64 0, .int .i64 0, .int .i64 0, .string ⟨#[]⟩, .slice none 0 0], .agg #[.int .i64 0, .int .i64 0, .int .i64 0, .int .i64 0, .int .i64 0, .int .i64 0, .int .i64 0, .string ⟨#[]⟩, .slice none 0 0]] w (.bool true) := by
  refine enter_sound TBok Tryz.func17 rfl rfl Tryz.ntmps17 [.agg [.v (.int .i64 0), .v (.int .i64 0), .v (.int .i64 0), .v (.int .i64 0), .v (.int .i64 0), .v (.int .i64 0), .v (.int .i64 0), .v (.string ⟨#[]⟩), .v (.slice none 0 0)], .agg [.v (.int .i64 0), .v (.int .i64 0), .v (.int .i64 0), .v (.int .i64 0), .v (.int .i64 0), .v (.int .i64 0), .v (.int .i64 0), .v (.string ⟨#[]⟩), .v (.slice none 0 0)]] (Kn.start w noS) rfl rfl ?_
  conv => whnf
  repeat' (first
    | ((with_reducible refine r_seq (fun KS hS => ?_)))
    | ((with_reducible refine r_region ?_); conv => whnf)
    | ((with_reducible refine r_cond (fun KA hA KB hB => ?_)); conv => whnf)
    | ((with_reducible refine hS _ _ ?_); clear hS KS)
    | ((with_reducible refine hA _ ?_); clear hA KA)
    | ((with_reducible refine hB _ ?_); clear hB KB)
    | ((with_reducible refine r_block ?_))
    | ((with_reducible refine r_ret ?_); conv => whnf)
    | ((with_reducible refine r_skip ?_); conv => whnf)
    | ((with_reducible refine r_exit ?_); conv => whnf)
    | ((with_reducible refine WrapK.i64 ?_ ?_); (focus omega); conv => whnf)
    | ((with_reducible refine And.intro rfl ?_); conv => whnf)
    | ((with_reducible intro b); conv => whnf)
    | (apply in44; refine Tryz.ntmps44; rfl; rfl; rfl; intro A; conv => whnf)
    | ((with_reducible apply OpK.more); (focus refine sok); (conv => whnf); fail_if_success guard_target =ₛ False)
    | ((with_reducible refine Rounds.step (fun KL hL => ?_)))
    | ((with_reducible refine hL _ _ ?_); clear hL KL)
    | ((with_reducible refine r_rounds 100 ?_))
    | ((with_reducible refine InAt.mk (fun K' hK => ?_)); conv => whnf)
    | ((with_reducible refine AnyAt.mk (fun K' hK => ?_)); conv => whnf)
    | ((with_reducible refine hK _ ?_); clear hK K'; conv => whnf)
    | ((with_reducible refine hK _ _ ?_); clear hK K'; conv => whnf)
    | ((refine And.intro ?_ ?_); all_goals (conv => whnf))
    | (apply r_quiet; refine mixed; kernel_rfl; kernel_rfl; kernel_rfl; conv => whnf)
    | ((refine if_t ?_ ?_); (focus decide); conv => whnf)
    | ((refine if_f ?_ ?_); (focus decide); conv => whnf)
    | ((refine if_decT ?_ ?_); (focus omega); conv => whnf)
    | ((refine if_decF ?_ ?_); (focus omega); conv => whnf)
    | ((refine if_ndecT ?_ ?_); (focus omega); conv => whnf)
    | ((refine if_ndecF ?_ ?_); (focus omega); conv => whnf)
    | ((refine if_dec (fun h => ?_) (fun h => ?_)); all_goals (conv => whnf))
    | ((refine if_ndec (fun h => ?_) (fun h => ?_)); all_goals (conv => whnf))
    | ((refine if_cond (fun h => ?_) (fun h => ?_)); all_goals (conv => whnf))
    | ((with_reducible apply_assumption -symm -exfalso)))
  all_goals exact FinK.pu rfl

end Go.Proofs.YtbgnoibellfojaaGreatDoor
