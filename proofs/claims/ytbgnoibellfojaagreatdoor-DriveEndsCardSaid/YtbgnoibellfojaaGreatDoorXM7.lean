/- Contracts and lemmas for the claim (part XM7); no condition of its own. -/
import Derived.Test.YtbgnoibellfojaaGreatDoorXN6
import Derived.Test.YtbgnoibellfojaaGreatDoorXB
import Derived.Test.YtbgnoibellfojaaGreatDoorXT
set_option linter.all false
set_option linter.unusedVariables false
set_option linter.unusedSimpArgs false
set_option linter.unnecessarySimpa false
namespace Go.Proofs.YtbgnoibellfojaaGreatDoor
open Go Go.X
set_option maxRecDepth 100000
set_option maxHeartbeats 0
def qv : ByteArray := ⟨(uvar 1 ++ uvar 7 ++ uvar 0 ++ uvar 1 ++ uvar 1 ++ [107] ++ uvar (zigN (1 + ((0 : Nat) : Int)))).toArray⟩
theorem qvEq : qv = ⟨#[1, 7, 0, 1, 1, 107, 2]⟩ := by decide +kernel
def rv : ByteArray := ⟨(uvar 0 ++ uvar (zigN 8) ++ uvar (ByteArray.mk #[]).size ++ (ByteArray.mk #[]).data.toList).toArray⟩
theorem eff701 : EffOk 7 0 1 := by unfold EffOk; omega
theorem item701 : ItemOk 7 0 1 0 false 1 := ⟨by omega, by omega, .inl ⟨rfl, rfl, eff701⟩⟩
def qM (to : Int) : List Value := [.int .i64 10, .int .i64 1, .int .i64 to, .int .i64 0, .int .i64 0, .int .i64 0, .int .i64 1009, .string qv, .slice none 0 0]
def itW : List SV := [.v (.int .i64 7), .v (.int .i64 0), .v (.int .i64 1), .v (.int .i64 0), .v (.bool false), .v (.int .i64 1)]
section
variable {nn : Nat} {W : World} {S : Nat → Prop} {r : Option Nat} {H R : List Blk} {nx : K1}
theorem wTickFirst {d mp bi bn i1 i1' i2 i2' i3 i4 : Nat} {c1 c2 c3 : List SV} (hs : Sel H [.blk i1 bi c1 48, .blk i2 bn c2 5, .ext i4 (MpA mp [] 0), .blk i3 d c3 81] R) (e1 : denL c1 = denL itW) (e2 : denL c2 = denL [.v (.int .u8 9)]) (e3 : denL c3 = denL (DC 3 3 0 mp))
    (hn : ∀ z : Option Addr × Nat, nx (.v (.slice z.1 1 z.2)) (.ext 70 (SlA 26 9 z.1 1 z.2 (qM 3)) :: .blk i1 bi c1 48 :: .blk i2 bn c2 5 :: .ext i4 (MpA mp [⟨.int .i64 1009, .agg #[.int .i64 1, .int .i64 1], 0⟩] 1) :: .blk i3 d (DC 3 3 1 mp) 81 :: R)) : CallK ⟨Tryz.prog, TB, nn, W, S, r, TBok⟩ 24 [.v (pv d), .v (.int .i64 1), .slc bi i1' 0 1 1, .fn 72 [.loc bn i2' 0]] H nx :=
  CallK.frL (v := fun z : Option Addr × Nat => .slice z.1 1 z.2) (L0 := [.blk 9 bi itW 48, .blk 8 bn [.v (.int .u8 9)] 5, .ext 4 (MpA mp [] 0), .blk 3 d (DC 3 3 0 mp) 81]) hs (HSub.keep e1 (HSub.keep e2 (HSub.ext (fun _ _ h => h) (HSub.keep e3 HSub.nil)))) (fun _ w _ => tickFirstEff24 (s := 7) (t := 0) (p := 1) (g := 1) (num := 1009) (n := 3) (gs := 3) (tk := 0) (me := 1) (clk := 0) eff701 (by omega) (by omega) (by omega) (by omega) (by omega) (by unfold itemNum; rfl) w)
    (M' := fun z => [.ext 70 (SlA 26 9 z.1 1 z.2 (qM 3)), .blk i1 bi c1 48, .blk i2 bn c2 5, .ext i4 (MpA mp [⟨.int .i64 1009, .agg #[.int .i64 1, .int .i64 1], 0⟩] 1), .blk i3 d (DC 3 3 1 mp) 81]) (fun z => HSub.ext (fun _ _ h => h) (HSub.keep e1.symm (HSub.keep e2.symm (HSub.ext (fun _ _ h => h) (HSub.keep rfl HSub.nil))))) hn
theorem wTickNot {d mp bi bn i1 i1' i2 i2' i3 i4 : Nat} {tk : Int} (htk : 1 ≤ tk ∧ tk ≤ 3) {c1 c2 c3 : List SV} (hs : Sel H [.blk i1 bi c1 48, .blk i2 bn c2 5, .ext i4 (MpA mp [⟨.int .i64 1009, .agg #[.int .i64 1, .int .i64 1], 0⟩] 1), .blk i3 d c3 81] R) (e1 : denL c1 = denL itW) (e2 : denL c2 = denL [.v (.int .u8 9)]) (e3 : denL c3 = denL (DC 3 3 tk mp))
    (hn : ∀ z : Option Addr × Nat, nx (.v (.slice z.1 0 z.2)) (.ext 70 (SlA 26 9 z.1 0 z.2 []) :: .blk i1 bi c1 48 :: .blk i2 bn c2 5 :: .ext i4 (MpA mp [⟨.int .i64 1009, .agg #[.int .i64 1, .int .i64 1], 0⟩] 1) :: .blk i3 d (DC 3 3 (tk + 1) mp) 81 :: R)) : CallK ⟨Tryz.prog, TB, nn, W, S, r, TBok⟩ 24 [.v (pv d), .v (.int .i64 1), .slc bi i1' 0 1 1, .fn 72 [.loc bn i2' 0]] H nx :=
  CallK.frL (v := fun z : Option Addr × Nat => .slice z.1 0 z.2) (L0 := [.blk 9 bi itW 48, .blk 8 bn [.v (.int .u8 9)] 5, .ext 4 (MpA mp [⟨.int .i64 1009, .agg #[.int .i64 1, .int .i64 1], 0⟩] 1), .blk 3 d (DC 3 3 tk mp) 81]) hs (HSub.keep e1 (HSub.keep e2 (HSub.ext (fun _ _ h => h) (HSub.keep e3 HSub.nil)))) (fun _ w _ => tickNotEff24 (s := 7) (t := 0) (p := 1) (g := 1) (num := 1009) (n := 3) (gs := 3) (tk := tk) (me := 1) (al := 1) (ll := 1) (clk := 1) (bo := 0) eff701 (by omega) (by omega) (by omega) (by omega) (by omega) (by unfold itemNum; rfl) (by omega) (by omega) (by omega) w)
    (M' := fun z => [.ext 70 (SlA 26 9 z.1 0 z.2 []), .blk i1 bi c1 48, .blk i2 bn c2 5, .ext i4 (MpA mp [⟨.int .i64 1009, .agg #[.int .i64 1, .int .i64 1], 0⟩] 1), .blk i3 d (DC 3 3 (tk + 1) mp) 81]) (fun z => HSub.ext (fun _ _ h => h) (HSub.keep e1.symm (HSub.keep e2.symm (HSub.ext (fun _ _ h => h) (HSub.keep rfl HSub.nil))))) hn
theorem wTickAgain {d mp bi bn i1 i1' i2 i2' i3 i4 : Nat} {c1 c2 c3 : List SV} (hs : Sel H [.blk i1 bi c1 48, .blk i2 bn c2 5, .ext i4 (MpA mp [⟨.int .i64 1009, .agg #[.int .i64 1, .int .i64 1], 0⟩] 1), .blk i3 d c3 81] R) (e1 : denL c1 = denL itW) (e2 : denL c2 = denL [.v (.int .u8 9)]) (e3 : denL c3 = denL (DC 3 3 4 mp))
    (hn : ∀ z : Option Addr × Nat, nx (.v (.slice z.1 1 z.2)) (.ext 70 (SlA 26 9 z.1 1 z.2 (qM 4)) :: R)) : CallK ⟨Tryz.prog, TB, nn, W, S, r, TBok⟩ 24 [.v (pv d), .v (.int .i64 1), .slc bi i1' 0 1 1, .fn 72 [.loc bn i2' 0]] H nx :=
  CallK.frL (v := fun z : Option Addr × Nat => .slice z.1 1 z.2) (L0 := [.blk 9 bi itW 48, .blk 8 bn [.v (.int .u8 9)] 5, .ext 4 (MpA mp [⟨.int .i64 1009, .agg #[.int .i64 1, .int .i64 1], 0⟩] 1), .blk 3 d (DC 3 3 4 mp) 81]) hs (HSub.keep e1 (HSub.keep e2 (HSub.ext (fun _ _ h => h) (HSub.keep e3 HSub.nil)))) (fun _ w _ => tickAgainEff24 (s := 7) (t := 0) (p := 1) (g := 1) (num := 1009) (n := 3) (gs := 3) (tk := 4) (me := 1) (al := 1) (ll := 1) (clk := 1) (bo := 0) eff701 (by omega) (by omega) (by omega) (by omega) (by omega) (by unfold itemNum; rfl) (by omega) (by omega) (by omega) (by omega) w)
    (M' := fun z => [.ext 70 (SlA 26 9 z.1 1 z.2 (qM 4))]) (fun z => HSub.ext (fun _ _ h => h) (HSub.drop (HSub.drop (HSub.drop (HSub.drop HSub.nil))))) hn
theorem wNew (hn : ∀ z : Nat × Nat, nx (.v (.tuple #[pv z.1, .int .i64 0])) (.blk 3 z.1 (DC 3 3 0 z.2) 81 :: .ext 4 (MpA z.2 [] 0) :: H)) : CallK ⟨Tryz.prog, TB, nn, W, S, r, TBok⟩ 11 [.v (.int .i64 3), .v (.int .i64 3)] H nx :=
  CallK.frL (v := fun z : Nat × Nat => .tuple #[pv z.1, .int .i64 0]) (L0 := []) (L := []) (R := H) Sel.nil HSub.nil (fun _ w _ => FrZ.pre (new11 (n := 3) (gs := 3) (by omega) (by omega) w) (fun S h => by cases h; exact fun _ h => h))
    (M' := fun z => [.blk 3 z.1 (DC 3 3 0 z.2) 81, .ext 4 (MpA z.2 [] 0)]) (fun z => HSub.keep rfl (HSub.ext (fun _ _ h => h) HSub.nil)) hn
theorem wWait {d mp i3 i4 : Nat} {c3 : List SV} (hs : Sel H [.ext i4 (MpA mp [⟨.int .i64 1009, .agg #[.int .i64 1, .int .i64 1], 0⟩] 1), .blk i3 d c3 81] R) (e3 : denL c3 = denL (DC 3 3 1 mp))
    (hn : ∀ z : Option Addr × Nat, nx (.v (.slice z.1 1 z.2)) (.ext 60 (SlA 3 1 z.1 1 z.2 [.int .i64 1009]) :: .ext i4 (MpA mp [⟨.int .i64 1009, .agg #[.int .i64 1, .int .i64 1], 0⟩] 1) :: .blk i3 d c3 81 :: R)) : CallK ⟨Tryz.prog, TB, nn, W, S, r, TBok⟩ 25 [.v (pv d)] H nx :=
  CallK.frL (v := fun z : Option Addr × Nat => .slice z.1 1 z.2) (L0 := [.ext 4 (MpA mp [⟨.int .i64 1009, .agg #[.int .i64 1, .int .i64 1], 0⟩] 1), .blk 3 d (DC 3 3 1 mp) 81]) hs (HSub.ext (fun _ _ h => h) (HSub.keep e3 HSub.nil)) (fun _ w _ => waiting25 (by omega) w)
    (M' := fun z => [.ext 60 (SlA 3 1 z.1 1 z.2 [.int .i64 1009]), .ext i4 (MpA mp [⟨.int .i64 1009, .agg #[.int .i64 1, .int .i64 1], 0⟩] 1), .blk i3 d c3 81]) (fun z => HSub.ext (fun _ _ h => h) (HSub.ext (fun _ _ h => h) (HSub.keep e3.symm HSub.nil))) hn
end
theorem wNum (w : World) : Pu Tryz.prog 38 #[.agg #[.int .i64 7, .int .i64 0, .int .i64 1, .int .i64 0, .bool false, .int .i64 1]] w (.tuple #[.int .i64 1009, .int .i64 0]) := numOk38 item701 w
theorem i9M (to : Int) : (List.drop ((0 : Int).toNat * 9) (qM to)).take 9 = denL [.v (.int .i64 10), .v (.int .i64 1), .v (.int .i64 to), .v (.int .i64 0), .v (.int .i64 0), .v (.int .i64 0), .v (.int .i64 1009), .v (.string qv), .v (.slice none 0 0)] := rfl
theorem wServe {w : World} {d mp : Nat} (hd : DAt w d 3 3 4 mp) (hka : KAt w) : Pu Tryz.prog 14 #[pv d, .agg #[.int .i64 10, .int .i64 1, .int .i64 3, .int .i64 0, .int .i64 0, .int .i64 0, .int .i64 1009, .string qv, .slice none 0 0], .nilFunc] w (.tuple #[.agg #[.int .i64 1, .int .i64 0, .int .i64 0, .int .i64 7, .int .i64 0, .int .i64 1, .string ⟨#[107]⟩, .int .i64 1, .int .i64 0, .string ⟨#[]⟩, .string ⟨#[]⟩, .int .i64 0, .string ⟨#[]⟩, .int .i64 0, .int .i64 0, .slice none 0 0, .int .i64 0, .int .i64 0, .int .i64 0, .int .i64 0, .bool false, .int .i64 0, .int .i64 0, .string ⟨#[]⟩], .agg #[.int .i64 0, .int .i64 0, .int .i64 0, .int .i64 0, .int .i64 0, .int .i64 0, .int .i64 0, .string ⟨#[]⟩, .slice none 0 0], .bool true, .bool false]) :=
  serveEff14 (s := 7) (t := 0) (p := 1) (g := 1) (k := ⟨#[107]⟩) (dl := 1) (f := 1) (to := 3) (num := 1009) eff701 (by omega) (by decide +kernel) (by decide) (by omega) (by unfold NumOk; omega) hd hka (by omega) (by omega) (by omega) (by decide) (by omega) (by omega) (by omega) (by rw [qvEq]; decide +kernel) (by rw [qvEq]; decide)
theorem wDone (w : World) : Pu Tryz.prog 40 #[.agg #[.int .i64 ((7 : Nat) : Int), .int .i64 ((0 : Nat) : Int), .int .i64 ((1 : Nat) : Int)]] w (.tuple #[.agg #[.int .i64 ((0 : Nat) : Int), .int .i64 8, .string ⟨#[]⟩], .bool true]) := by
  refine enter_sound TBok Tryz.func40 rfl rfl Tryz.ntmps40 [.agg [.v (.int .i64 7), .v (.int .i64 0), .v (.int .i64 1)]] (Kn.start w noS) rfl rfl ?_
  conv => whnf
  repeat' (first
    | ((with_reducible refine r_seq (fun KS hS => ?_)))
    | ((with_reducible refine r_region ?_); conv => whnf)
    | ((with_reducible refine r_cond (fun KA hA KB hB => ?_)); conv => whnf)
    | ((with_reducible refine hS _ _ ?_); clear hS KS)
    | ((with_reducible refine hA _ ?_); clear hA KA)
    | ((with_reducible refine hB _ ?_); clear hB KB)
    | ((with_reducible refine r_block ?_))
    | ((with_reducible refine r_ret ?_); conv => whnf)
    | ((with_reducible refine r_skip ?_); conv => whnf)
    | ((with_reducible refine r_exit ?_); conv => whnf)
    | ((with_reducible refine WrapK.i64 ?_ ?_); (focus omega); conv => whnf)
    | ((with_reducible refine And.intro rfl ?_); conv => whnf)
    | ((with_reducible intro b); conv => whnf)
    | ((with_reducible apply OpK.more); (focus refine sok); (conv => whnf); fail_if_success guard_target =ₛ False)
    | ((with_reducible refine InAt.mk (fun K' hK => ?_)); conv => whnf)
    | ((with_reducible refine AnyAt.mk (fun K' hK => ?_)); conv => whnf)
    | ((with_reducible refine hK _ ?_); clear hK K'; conv => whnf)
    | ((with_reducible refine hK _ _ ?_); clear hK K'; conv => whnf)
    | ((refine And.intro ?_ ?_); all_goals (conv => whnf))
    | (apply r_quiet; refine mixed; kernel_rfl; kernel_rfl; kernel_rfl; conv => whnf)
    | ((refine if_t ?_ ?_); (focus decide); conv => whnf)
    | ((refine if_f ?_ ?_); (focus decide); conv => whnf)
    | ((refine if_decT ?_ ?_); (focus omega); conv => whnf)
    | ((refine if_decF ?_ ?_); (focus omega); conv => whnf)
    | ((refine if_ndecT ?_ ?_); (focus omega); conv => whnf)
    | ((refine if_ndecF ?_ ?_); (focus omega); conv => whnf)
    | ((refine if_dec (fun h => ?_) (fun h => ?_)); all_goals (conv => whnf))
    | ((refine if_ndec (fun h => ?_) (fun h => ?_)); all_goals (conv => whnf))
    | ((refine if_cond (fun h => ?_) (fun h => ?_)); all_goals (conv => whnf))
    | ((with_reducible apply_assumption -symm -exfalso)))
  exact FinK.pu rfl
theorem wServeDone {w : World} {d mp : Nat} (hd : DAt w d 3 3 4 mp) (hka : KAt w) : Pu Tryz.prog 14 #[pv d, .agg #[.int .i64 10, .int .i64 1, .int .i64 3, .int .i64 0, .int .i64 0, .int .i64 0, .int .i64 1009, .string qv, .slice none 0 0], .func (.func 40) #[] #[]] w (.tuple #[.agg #[.int .i64 0, .int .i64 0, .int .i64 0, .int .i64 0, .int .i64 0, .int .i64 0, .string ⟨#[]⟩, .int .i64 0, .int .i64 0, .string ⟨#[]⟩, .string ⟨#[]⟩, .int .i64 0, .string ⟨#[]⟩, .int .i64 0, .int .i64 0, .slice none 0 0, .int .i64 0, .int .i64 0, .int .i64 0, .int .i64 0, .bool false, .int .i64 0, .int .i64 0, .string ⟨#[]⟩], .agg #[.int .i64 11, .int .i64 3, .int .i64 1, .int .i64 0, .int .i64 0, .int .i64 0, .int .i64 1009, .string rv, .slice none 0 0], .bool false, .bool true]) :=
  serveDoneEff14 (s := 7) (t := 0) (p := 1) (g := 1) (k := ⟨#[107]⟩) (dl := 1) (f := 1) (to := 3) (num := 1009) (e := 0) (rn := 8) (rx := ⟨#[]⟩) eff701 (by omega) (by decide +kernel) (by decide) (by omega) (by unfold NumOk; omega) hd hka (by omega) (by omega) (by omega) (by decide) (by omega) (by omega) (by omega) (by rw [qvEq]; decide +kernel) (by rw [qvEq]; decide) wDone (by omega) (by unfold NumOk; omega) (by decide) (by decide +kernel)
theorem wAnswer {w : World} {d bi mp : Nat} {S0 : Nat → Prop} (hd : Rdd w [.blk 9 bi itW 48, .blk 3 d (DC 3 3 4 mp) 81] S0) (hka : KAt w) : Pu Tryz.prog 31 #[pv d, .agg #[.int .i64 11, .int .i64 3, .int .i64 1, .int .i64 0, .int .i64 0, .int .i64 0, .int .i64 1009, .string rv, .slice none 0 0], .slice (some ⟨bi, 0, none⟩) 1 1] w (.tuple #[.agg #[.int .i64 15, .int .i64 0, .int .i64 0, .int .i64 0, .int .i64 0, .int .i64 0, .string ⟨#[]⟩, .int .i64 0, .int .i64 0, .string ⟨#[]⟩, .string ⟨#[]⟩, .int .i64 0, .string ⟨#[]⟩, .int .i64 0, .int .i64 0, .slice none 0 0, .int .i64 7, .int .i64 0, .int .i64 1, .int .i64 0, .bool false, .int .i64 1, .int .i64 0, .string ⟨#[]⟩], .bool true]) :=
  answerEff31 (s := 7) (t := 0) (p := 1) (g := 1) (k := ⟨#[107]⟩) (dl := 1) (f := 1) (to := 3) (num := 1009) (e := 0) (rn := 8) (rx := ⟨#[]⟩) eff701 (by omega) (by decide +kernel) (by decide) (by omega) (by unfold NumOk; omega) hd hka (by omega) (by omega) (by omega) (by decide) (by omega) (by omega) (by omega) (by omega) (by unfold NumOk; omega) (by decide) (by decide +kernel)
end Go.Proofs.YtbgnoibellfojaaGreatDoor

namespace Go.Proofs.YtbgnoibellfojaaGreatDoor
open Go Go.X
set_option maxRecDepth 100000
set_option maxHeartbeats 0
theorem Kn.rdSlc {W : World} {S : Nat → Prop} {ms : List Nat} {H : List Blk} {w : World} {i b t len k : Nat} {cs : List SV} (hk : Kn W S ms H w) (hm : .blk i b cs t ∈ H) (hl : cs.length = len * k) : RdS w t k (some ⟨b, 0, none⟩) len len (denL cs) :=
  ⟨fun x => x = b, slc_SlA hl ⟨rfl, hk.got hm⟩, fun _ hx => hx ▸ (Array.getElem?_eq_some_iff.1 (hk.got hm)).1⟩
theorem works10 {w : World} (hka : KAt w) : Pu Tryz.prog 10 #[] w (.bool true) := by
  refine enter_sound TBok Tryz.func10 rfl rfl Tryz.ntmps10 [] (Kn.start w noS) rfl rfl ?_
  conv => whnf
  repeat' (first
    | (with_reducible refine r_stop 6 ?_)
    | ((with_reducible refine r_seq (fun KS hS => ?_)))
    | ((with_reducible refine r_region ?_); conv => whnf)
    | ((with_reducible refine r_cond (fun KA hA KB hB => ?_)); conv => whnf)
    | ((with_reducible refine hS _ _ ?_); clear hS KS)
    | ((with_reducible refine hA _ ?_); clear hA KA)
    | ((with_reducible refine hB _ ?_); clear hB KB)
    | ((with_reducible refine r_block ?_))
    | ((with_reducible refine r_ret ?_); conv => whnf)
    | ((with_reducible refine r_skip ?_); conv => whnf)
    | ((with_reducible refine r_exit ?_); conv => whnf)
    | ((with_reducible refine WrapK.i64 ?_ ?_); (focus omega); conv => whnf)
    | ((with_reducible refine And.intro rfl ?_); conv => whnf)
    | ((with_reducible intro b); conv => whnf)
    | (refine wNew (fun z => ?_); conv => whnf)
    | ((with_reducible refine CallK.id ?_); refine CallK.pu (fun w => wNum w) ?_; conv => whnf)
    | ((with_reducible apply OpK.more); (focus refine sok); (conv => whnf); fail_if_success guard_target =ₛ False)
    | ((with_reducible refine InAt.mk (fun K' hK => ?_)); conv => whnf)
    | ((with_reducible refine AnyAt.mk (fun K' hK => ?_)); conv => whnf)
    | ((with_reducible refine hK _ ?_); clear hK K'; conv => whnf)
    | ((with_reducible refine hK _ _ ?_); clear hK K'; conv => whnf)
    | ((refine And.intro ?_ ?_); all_goals (conv => whnf))
    | (apply r_quiet; refine mixed; kernel_rfl; kernel_rfl; kernel_rfl; conv => whnf)
    | ((refine if_t ?_ ?_); (focus decide); conv => whnf)
    | ((refine if_f ?_ ?_); (focus decide); conv => whnf)
    | ((refine if_decT ?_ ?_); (focus omega); conv => whnf)
    | ((refine if_decF ?_ ?_); (focus omega); conv => whnf)
    | ((refine if_ndecT ?_ ?_); (focus omega); conv => whnf)
    | ((refine if_ndecF ?_ ?_); (focus omega); conv => whnf)
    | ((refine if_dec (fun h => ?_) (fun h => ?_)); all_goals (conv => whnf))
    | ((refine if_ndec (fun h => ?_) (fun h => ?_)); all_goals (conv => whnf))
    | ((refine if_cond (fun h => ?_) (fun h => ?_)); all_goals (conv => whnf))
    | ((with_reducible apply_assumption -symm -exfalso)))
  refine ⟨?_⟩
  rename Nat => bi
  refine r_cut (α := Option Addr × Nat) (fun y => [(0, .v (.bool false)), (1, .v (pv z.1)), (3, .loc bi 4 0), (4, .v (.int .i64 1009)), (6, .v (.slice y.1 1 y.2))]) (fun y => [.ext 70 (SlA 26 9 y.1 1 y.2 (qM 3)), .blk 4 bi [.v (.int .i64 7), .v (.int .i64 0), .v (.int .i64 1), .v (.int .i64 0), .v (.bool false), .v (.int .i64 1)] 48, .ext 4 (MpA z.2 [⟨.int .i64 1009, .agg #[.int .i64 1, .int .i64 1], 0⟩] 1), .blk 3 z.1 (DC 3 3 1 z.2) 81]) (fun _ => True) ?_ ?_
  · intro KL hL
    repeat' (first
    | ((with_reducible refine r_seq (fun KS hS => ?_)))
    | ((with_reducible refine r_region ?_); conv => whnf)
    | ((with_reducible refine r_cond (fun KA hA KB hB => ?_)); conv => whnf)
    | ((with_reducible refine hS _ _ ?_); clear hS KS)
    | ((with_reducible refine hA _ ?_); clear hA KA)
    | ((with_reducible refine hB _ ?_); clear hB KB)
    | ((with_reducible refine r_block ?_))
    | ((with_reducible refine r_ret ?_); conv => whnf)
    | ((with_reducible refine r_skip ?_); conv => whnf)
    | ((with_reducible refine r_exit ?_); conv => whnf)
    | ((with_reducible refine WrapK.i64 ?_ ?_); (focus omega); conv => whnf)
    | ((with_reducible refine And.intro rfl ?_); conv => whnf)
    | ((with_reducible intro b); conv => whnf)
    | (apply r_any (id := 6); refine mixed; kernel_rfl; kernel_rfl; conv => whnf)
    | (apply in36; refine Tryz.ntmps36; rfl; rfl; rfl; intro A; conv => whnf)
    | (refine wTickFirst (Sel.cons (by repeat (first | with_reducible apply Rm.head | apply Rm.tail)) (Sel.cons (by repeat (first | with_reducible apply Rm.head | apply Rm.tail)) (Sel.cons (by repeat (first | with_reducible apply Rm.head | apply Rm.tail)) (Sel.cons (by repeat (first | with_reducible apply Rm.head | apply Rm.tail)) Sel.nil)))) ?_ ?_ ?_ (fun y => ?_); rfl; rfl; rfl; conv => whnf)
    | (refine hL _ _ _ trivial (by repeat' (first | exact Sub.nil | (refine Sub.cons rfl rfl ?_))) (by (try dsimp only [List.cons_append, List.nil_append, den, denL]); refine SelI.spec ?_; repeat (first | apply SelI.nil | refine SelI.blk (by repeat (first | with_reducible apply Rm.head | apply Rm.tail)) ?_ | refine SelI.ext (by repeat (first | with_reducible apply Rm.head | apply Rm.tail)) ?_ | (refine SelI.blk' (by repeat (first | with_reducible apply Rm.head | apply Rm.tail)) ?_ ?_; focus rfl) | (refine SelI.ext' (by repeat (first | with_reducible apply Rm.head | apply Rm.tail)) ?_ ?_; focus rfl))))
    | ((with_reducible apply OpK.more); (focus refine sok); (conv => whnf); fail_if_success guard_target =ₛ False)
    | ((with_reducible refine InAt.mk (fun K' hK => ?_)); conv => whnf)
    | ((with_reducible refine AnyAt.mk (fun K' hK => ?_)); conv => whnf)
    | ((with_reducible refine hK _ ?_); clear hK K'; conv => whnf)
    | ((with_reducible refine hK _ _ ?_); clear hK K'; conv => whnf)
    | ((refine And.intro ?_ ?_); all_goals (conv => whnf))
    | (apply r_quiet; refine mixed; kernel_rfl; kernel_rfl; kernel_rfl; conv => whnf)
    | ((refine if_t ?_ ?_); (focus decide); conv => whnf)
    | ((refine if_f ?_ ?_); (focus decide); conv => whnf)
    | ((refine if_decT ?_ ?_); (focus omega); conv => whnf)
    | ((refine if_decF ?_ ?_); (focus omega); conv => whnf)
    | ((refine if_ndecT ?_ ?_); (focus omega); conv => whnf)
    | ((refine if_ndecF ?_ ?_); (focus omega); conv => whnf)
    | ((refine if_dec (fun h => ?_) (fun h => ?_)); all_goals (conv => whnf))
    | ((refine if_ndec (fun h => ?_) (fun h => ?_)); all_goals (conv => whnf))
    | ((refine if_cond (fun h => ?_) (fun h => ?_)); all_goals (conv => whnf))
    | ((with_reducible apply_assumption -symm -exfalso)))
  intro y _
  skip
  repeat' (first
    | ((with_reducible refine r_seq (fun KS hS => ?_)))
    | ((with_reducible refine r_region ?_); conv => whnf)
    | ((with_reducible refine r_cond (fun KA hA KB hB => ?_)); conv => whnf)
    | ((with_reducible refine hS _ _ ?_); clear hS KS)
    | ((with_reducible refine hA _ ?_); clear hA KA)
    | ((with_reducible refine hB _ ?_); clear hB KB)
    | ((with_reducible refine r_block ?_))
    | ((with_reducible refine r_ret ?_); conv => whnf)
    | ((with_reducible refine r_skip ?_); conv => whnf)
    | ((with_reducible refine r_exit ?_); conv => whnf)
    | ((with_reducible refine WrapK.i64 ?_ ?_); (focus omega); conv => whnf)
    | ((with_reducible refine And.intro rfl ?_); conv => whnf)
    | ((with_reducible intro b); conv => whnf)
    | (refine wWait (Sel.cons (by repeat (first | with_reducible apply Rm.head | apply Rm.tail)) (Sel.cons (by repeat (first | with_reducible apply Rm.head | apply Rm.tail)) Sel.nil)) ?_ (fun q => ?_); rfl; conv => whnf)
    | ((with_reducible refine CallK.at 39 ?_); refine CallK.puW (fun ms w hk => equal39 (Sees.rd (Sees.ext (by repeat (first | with_reducible apply At.head | apply At.tail))) hk) (Kn.rdSlc hk (by repeat (first | constructor | apply List.Mem.tail)) rfl)) ?_; conv => whnf)
    | ((with_reducible refine OpK.id ?_); refine OpK.idx (k := 9) rfl rfl rfl rfl rfl rfl rfl (Sees.ext (by repeat (first | with_reducible apply At.head | apply At.tail))) (by omega) (by omega) (i9M _) (fun b off hp => ?_); conv => whnf)
    | ((with_reducible refine OpK.id ?_); refine OpK.fap rfl rfl (by assumption) ?_; conv => whnf)
    | ((with_reducible refine OpK.id ?_); refine OpK.ldp rfl rfl (by assumption) (List.cons_ne_nil _ _) ?_; conv => whnf)
    | ((with_reducible apply OpK.more); (focus refine sok); (conv => whnf); fail_if_success guard_target =ₛ False)
    | ((with_reducible refine InAt.mk (fun K' hK => ?_)); conv => whnf)
    | ((with_reducible refine AnyAt.mk (fun K' hK => ?_)); conv => whnf)
    | ((with_reducible refine hK _ ?_); clear hK K'; conv => whnf)
    | ((with_reducible refine hK _ _ ?_); clear hK K'; conv => whnf)
    | ((refine And.intro ?_ ?_); all_goals (conv => whnf))
    | (apply r_quiet; refine mixed; kernel_rfl; kernel_rfl; kernel_rfl; conv => whnf)
    | ((refine if_t ?_ ?_); (focus decide); conv => whnf)
    | ((refine if_f ?_ ?_); (focus decide); conv => whnf)
    | ((refine if_decT ?_ ?_); (focus omega); conv => whnf)
    | ((refine if_decF ?_ ?_); (focus omega); conv => whnf)
    | ((refine if_ndecT ?_ ?_); (focus omega); conv => whnf)
    | ((refine if_ndecF ?_ ?_); (focus omega); conv => whnf)
    | ((refine if_dec (fun h => ?_) (fun h => ?_)); all_goals (conv => whnf))
    | ((refine if_ndec (fun h => ?_) (fun h => ?_)); all_goals (conv => whnf))
    | ((refine if_cond (fun h => ?_) (fun h => ?_)); all_goals (conv => whnf))
    | ((with_reducible apply_assumption -symm -exfalso)))
  refine r_loop (α := Nat) (fun k => [(0, .v (.bool false)), (1, .v (pv z.1)), (3, .loc bi 4 0), (4, .v (.int .i64 1009)), (6, .v (.slice y.1 1 y.2)), (80, .v (.int .i64 k))]) (fun k => [.ext 70 (SlA 26 9 y.1 1 y.2 (qM 3)), .blk 4 bi [.v (.int .i64 7), .v (.int .i64 0), .v (.int .i64 1), .v (.int .i64 0), .v (.bool false), .v (.int .i64 1)] 48, .ext 4 (MpA z.2 [⟨.int .i64 1009, .agg #[.int .i64 1, .int .i64 1], 0⟩] 1), .blk 3 z.1 (DC 3 3 ((k : Int) + 1) z.2) 81]) (fun k => k ≤ 3) (fun k => 3 - k) 0 (by omega) (by repeat' (first | exact Sub.nil | (refine Sub.cons rfl rfl ?_))) (by (try dsimp only [List.cons_append, List.nil_append, den, denL]); refine SelI.spec ?_; repeat (first | apply SelI.nil | refine SelI.blk (by repeat (first | with_reducible apply Rm.head | apply Rm.tail)) ?_ | refine SelI.ext (by repeat (first | with_reducible apply Rm.head | apply Rm.tail)) ?_ | (refine SelI.blk' (by repeat (first | with_reducible apply Rm.head | apply Rm.tail)) ?_ ?_; focus rfl) | (refine SelI.ext' (by repeat (first | with_reducible apply Rm.head | apply Rm.tail)) ?_ ?_; focus rfl))) ?_
  intro k hk KL hL
  by_cases hlt : k < 3
  · repeat' (first
    | ((with_reducible refine r_seq (fun KS hS => ?_)))
    | ((with_reducible refine r_region ?_); conv => whnf)
    | ((with_reducible refine r_cond (fun KA hA KB hB => ?_)); conv => whnf)
    | ((with_reducible refine hS _ _ ?_); clear hS KS)
    | ((with_reducible refine hA _ ?_); clear hA KA)
    | ((with_reducible refine hB _ ?_); clear hB KB)
    | ((with_reducible refine r_block ?_))
    | ((with_reducible refine r_ret ?_); conv => whnf)
    | ((with_reducible refine r_skip ?_); conv => whnf)
    | ((with_reducible refine r_exit ?_); conv => whnf)
    | ((with_reducible refine WrapK.i64 ?_ ?_); (focus omega); conv => whnf)
    | ((with_reducible refine And.intro rfl ?_); conv => whnf)
    | ((with_reducible intro b); conv => whnf)
    | (apply r_any (id := 11); refine mixed; kernel_rfl; kernel_rfl; conv => whnf)
    | (apply in36; refine Tryz.ntmps36; rfl; rfl; rfl; intro A; conv => whnf)
    | (refine wTickNot (tk := (k : Int) + 1) (by omega) (Sel.cons (by repeat (first | with_reducible apply Rm.head | apply Rm.tail)) (Sel.cons (by repeat (first | with_reducible apply Rm.head | apply Rm.tail)) (Sel.cons (by repeat (first | with_reducible apply Rm.head | apply Rm.tail)) (Sel.cons (by repeat (first | with_reducible apply Rm.head | apply Rm.tail)) Sel.nil)))) ?_ ?_ ?_ (fun y => ?_); rfl; rfl; rfl; conv => whnf)
    | (refine hL (k + 1) _ _ (by omega) (by omega) (by repeat' (first | exact Sub.nil | (refine Sub.cons rfl rfl ?_))) (by (try dsimp only [List.cons_append, List.nil_append, den, denL]); refine SelI.spec ?_; repeat (first | apply SelI.nil | refine SelI.blk (by repeat (first | with_reducible apply Rm.head | apply Rm.tail)) ?_ | refine SelI.ext (by repeat (first | with_reducible apply Rm.head | apply Rm.tail)) ?_ | (refine SelI.blk' (by repeat (first | with_reducible apply Rm.head | apply Rm.tail)) ?_ ?_; focus rfl) | (refine SelI.ext' (by repeat (first | with_reducible apply Rm.head | apply Rm.tail)) ?_ ?_; focus rfl))))
    | ((with_reducible apply OpK.more); (focus refine sok); (conv => whnf); fail_if_success guard_target =ₛ False)
    | ((with_reducible refine InAt.mk (fun K' hK => ?_)); conv => whnf)
    | ((with_reducible refine AnyAt.mk (fun K' hK => ?_)); conv => whnf)
    | ((with_reducible refine hK _ ?_); clear hK K'; conv => whnf)
    | ((with_reducible refine hK _ _ ?_); clear hK K'; conv => whnf)
    | ((refine And.intro ?_ ?_); all_goals (conv => whnf))
    | (apply r_quiet; refine mixed; kernel_rfl; kernel_rfl; kernel_rfl; conv => whnf)
    | ((refine if_t ?_ ?_); (focus decide); conv => whnf)
    | ((refine if_f ?_ ?_); (focus decide); conv => whnf)
    | ((refine if_decT ?_ ?_); (focus omega); conv => whnf)
    | ((refine if_decF ?_ ?_); (focus omega); conv => whnf)
    | ((refine if_ndecT ?_ ?_); (focus omega); conv => whnf)
    | ((refine if_ndecF ?_ ?_); (focus omega); conv => whnf)
    | ((refine if_dec (fun h => ?_) (fun h => ?_)); all_goals (conv => whnf))
    | ((refine if_ndec (fun h => ?_) (fun h => ?_)); all_goals (conv => whnf))
    | ((refine if_cond (fun h => ?_) (fun h => ?_)); all_goals (conv => whnf))
    | ((with_reducible apply_assumption -symm -exfalso)))
  obtain rfl : k = 3 := by omega
  repeat' (first
    | ((with_reducible refine r_seq (fun KS hS => ?_)))
    | ((with_reducible refine r_region ?_); conv => whnf)
    | ((with_reducible refine r_cond (fun KA hA KB hB => ?_)); conv => whnf)
    | ((with_reducible refine hS _ _ ?_); clear hS KS)
    | ((with_reducible refine hA _ ?_); clear hA KA)
    | ((with_reducible refine hB _ ?_); clear hB KB)
    | ((with_reducible refine r_block ?_))
    | ((with_reducible refine r_ret ?_); conv => whnf)
    | ((with_reducible refine r_skip ?_); conv => whnf)
    | ((with_reducible refine r_exit ?_); conv => whnf)
    | ((with_reducible refine WrapK.i64 ?_ ?_); (focus omega); conv => whnf)
    | ((with_reducible refine And.intro rfl ?_); conv => whnf)
    | ((with_reducible intro b); conv => whnf)
    | ((with_reducible refine CallK.id ?_); refine CallK.puW (fun ms w hk => wServe (hk.got (by repeat (first | constructor | apply List.Mem.tail))) (hka.now (fun h => h) hk)) ?_; conv => whnf)
    | ((with_reducible refine CallK.id ?_); refine CallK.puW (fun ms w hk => wServeDone (hk.got (by repeat (first | constructor | apply List.Mem.tail))) (hka.now (fun h => h) hk)) ?_; conv => whnf)
    | ((with_reducible refine CallK.id ?_); refine CallK.puW (fun ms w hk => (Kn.rdd hk (L := [.blk 9 _ itW 48, .blk 3 _ (DC 3 3 4 _) 81]) trivial (by (try dsimp only [List.cons_append, List.nil_append, den, denL]); refine SelI.spec ?_; repeat (first | apply SelI.nil | refine SelI.blk (by repeat (first | with_reducible apply Rm.head | apply Rm.tail)) ?_ | refine SelI.ext (by repeat (first | with_reducible apply Rm.head | apply Rm.tail)) ?_ | (refine SelI.blk' (by repeat (first | with_reducible apply Rm.head | apply Rm.tail)) ?_ ?_; focus rfl) | (refine SelI.ext' (by repeat (first | with_reducible apply Rm.head | apply Rm.tail)) ?_ ?_; focus rfl)))).elim fun S' h => wAnswer h (hka.now (fun h => h) hk)) ?_; conv => whnf)
    | (apply r_any (id := 17); refine mixed; kernel_rfl; kernel_rfl; conv => whnf)
    | (apply in36; refine Tryz.ntmps36; rfl; rfl; rfl; intro A; conv => whnf)
    | (refine wTickAgain (Sel.cons (by repeat (first | with_reducible apply Rm.head | apply Rm.tail)) (Sel.cons (by repeat (first | with_reducible apply Rm.head | apply Rm.tail)) (Sel.cons (by repeat (first | with_reducible apply Rm.head | apply Rm.tail)) (Sel.cons (by repeat (first | with_reducible apply Rm.head | apply Rm.tail)) Sel.nil)))) ?_ ?_ ?_ (fun y => ?_); rfl; rfl; rfl; conv => whnf)
    | ((with_reducible refine OpK.id ?_); refine OpK.idx (k := 9) rfl rfl rfl rfl rfl rfl rfl (Sees.ext (by repeat (first | with_reducible apply At.head | apply At.tail))) (by omega) (by omega) (i9M _) (fun b off hp => ?_); conv => whnf)
    | ((with_reducible refine OpK.id ?_); refine OpK.fap rfl rfl (by assumption) ?_; conv => whnf)
    | ((with_reducible refine OpK.id ?_); refine OpK.ldp rfl rfl (by assumption) (List.cons_ne_nil _ _) ?_; conv => whnf)
    | ((with_reducible apply OpK.more); (focus refine sok); (conv => whnf); fail_if_success guard_target =ₛ False)
    | ((with_reducible refine InAt.mk (fun K' hK => ?_)); conv => whnf)
    | ((with_reducible refine AnyAt.mk (fun K' hK => ?_)); conv => whnf)
    | ((with_reducible refine hK _ ?_); clear hK K'; conv => whnf)
    | ((with_reducible refine hK _ _ ?_); clear hK K'; conv => whnf)
    | ((refine And.intro ?_ ?_); all_goals (conv => whnf))
    | (apply r_quiet; refine mixed; kernel_rfl; kernel_rfl; kernel_rfl; conv => whnf)
    | ((refine if_t ?_ ?_); (focus decide); conv => whnf)
    | ((refine if_f ?_ ?_); (focus decide); conv => whnf)
    | ((refine if_decT ?_ ?_); (focus omega); conv => whnf)
    | ((refine if_decF ?_ ?_); (focus omega); conv => whnf)
    | ((refine if_ndecT ?_ ?_); (focus omega); conv => whnf)
    | ((refine if_ndecF ?_ ?_); (focus omega); conv => whnf)
    | ((refine if_dec (fun h => ?_) (fun h => ?_)); all_goals (conv => whnf))
    | ((refine if_ndec (fun h => ?_) (fun h => ?_)); all_goals (conv => whnf))
    | ((refine if_cond (fun h => ?_) (fun h => ?_)); all_goals (conv => whnf))
    | ((with_reducible apply_assumption -symm -exfalso)))
  all_goals exact FinK.pu rfl
end Go.Proofs.YtbgnoibellfojaaGreatDoor
