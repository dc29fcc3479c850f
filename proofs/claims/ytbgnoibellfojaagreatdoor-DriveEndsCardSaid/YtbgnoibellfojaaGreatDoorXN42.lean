/- Contracts and lemmas for the claim (part XN42); no condition of its own. -/
import Derived.Test.YtbgnoibellfojaaGreatDoorXN41
import Derived.Test.YtbgnoibellfojaaGreatDoorXN29
import Derived.Test.YtbgnoibellfojaaGreatDoorXM7
set_option linter.all false
set_option linter.unusedVariables false
set_option linter.unusedSimpArgs false
set_option linter.unnecessarySimpa false
namespace Go.Proofs.YtbgnoibellfojaaGreatDoor
open Go Go.X
set_option maxRecDepth 100000
set_option maxHeartbeats 0
theorem answerToG18 {d mp : Nat} {n gs tk rn : Int} {e : Nat} {rx : ByteArray} {a0 a1 a2 a3 a4 a5 a6 a7 a8 c0 c1 c2 c3 c4 c5 : Int} {b0 b1 b2 b3 : ByteArray} {e0 : Bool} {x0 x1 x2 x3 x4 : Int} {y0 : Bool} {m0 m1 m2 m3 m4 m5 m6 : Int} {v : ByteArray} {w : World} (hd : DAt w d n gs tk mp) (hq : ∀ w', DAt w' d n gs tk mp → KAt w' → Pu Tryz.prog 41 #[pv d, .agg #[.int .i64 m0, .int .i64 m1, .int .i64 m2, .int .i64 m3, .int .i64 m4, .int .i64 m5, .int .i64 m6, .string v, .slice none 0 0]] w' (.tuple #[.agg #[.int .i64 x0, .int .i64 x1, .int .i64 x2, .int .i64 x3, .bool y0, .int .i64 x4], .agg #[.int .i64 a0, .int .i64 a1, .int .i64 a2, .int .i64 a3, .int .i64 a4, .int .i64 a5, .string b0, .int .i64 a6, .int .i64 a7, .string b1, .string b2, .int .i64 a8, .string ⟨#[]⟩, .int .i64 0, .int .i64 0, .slice none 0 0, .int .i64 c0, .int .i64 c1, .int .i64 c2, .int .i64 c3, .bool e0, .int .i64 c4, .int .i64 c5, .string b3], .bool true])) (hka : KAt w) (he : 0 ≤ (e : Int) ∧ (e : Int) ≤ 18) (hrn : NumOk rn) (hrx : rx.size ≤ 65536) (hrl : (uvar e ++ uvar (zigN rn) ++ uvar rx.size ++ rx.data.toList).length ≤ 65536) : Pu Tryz.prog 18 #[pv d, .agg #[.int .i64 m0, .int .i64 m1, .int .i64 m2, .int .i64 m3, .int .i64 m4, .int .i64 m5, .int .i64 m6, .string v, .slice none 0 0], .agg #[.int .i64 (e : Nat), .int .i64 rn, .string rx]] w (.tuple #[.agg #[.int .i64 11, .int .i64 m2, .int .i64 m1, .int .i64 0, .int .i64 0, .int .i64 0, .int .i64 m6, .string ⟨(uvar e ++ uvar (zigN rn) ++ uvar rx.size ++ rx.data.toList).toArray⟩, .slice none 0 0], .int .i64 0]) := by
  have hne := hka.ne hd
  refine Pu.ofFrZ (enter_ro TBok (cs := DC n gs tk mp) hd Tryz.func18 rfl rfl Tryz.ntmps18 [.loc d 10 0, .agg [.v (.int .i64 m0), .v (.int .i64 m1), .v (.int .i64 m2), .v (.int .i64 m3), .v (.int .i64 m4), .v (.int .i64 m5), .v (.int .i64 m6), .v (.string v), .v (.slice none 0 0)], .agg [.v (.int .i64 (e : Nat)), .v (.int .i64 rn), .v (.string rx)]] rfl rfl ?_)
  unfold DC
  conv => whnf
  repeat' (first
    | ((with_reducible refine r_seq (fun KS hS => ?_)))
    | ((with_reducible refine r_region ?_); conv => whnf)
    | ((with_reducible refine r_cond (fun KA hA KB hB => ?_)); conv => whnf)
    | ((with_reducible refine hS _ _ ?_); clear hS KS)
    | ((with_reducible refine hA _ ?_); clear hA KA)
    | ((with_reducible refine hB _ ?_); clear hB KB)
    | ((with_reducible refine r_block ?_))
    | ((with_reducible refine r_ret ?_); conv => whnf)
    | ((with_reducible refine r_skip ?_); conv => whnf)
    | ((with_reducible refine r_exit ?_); conv => whnf)
    | ((with_reducible refine WrapK.i64 ?_ ?_); (focus omega); conv => whnf)
    | ((with_reducible refine And.intro rfl ?_); conv => whnf)
    | ((with_reducible intro b); conv => whnf)
    | ((with_reducible refine CallK.at 45 ?_); refine CallK.puW (fun ms w hk => made45 (hk.got (by repeat (first | constructor | apply List.Mem.tail)))) ?_; conv => whnf)
    | ((with_reducible refine CallK.id ?_); refine CallK.puW (fun ms w hkn => hq _ (hkn.got (by repeat (first | constructor | apply List.Mem.tail))) (hka.now hne hkn)) ?_; conv => whnf)
    | ((with_reducible refine CallK.id ?_); refine CallK.fresh (fun ms w hk => reply46 he hrn hrx hrl w) ?_; conv => whnf)
    | (intro z; conv => whnf)
    | ((with_reducible refine OpK.id ?_); refine OpK.cvBS' rfl rfl rfl rfl rfl rfl rfl rfl (Sees.ext (by repeat (first | with_reducible apply At.head | apply At.tail))) rfl ?_; conv => whnf)
    | ((with_reducible apply OpK.more); (focus refine sok); (conv => whnf); fail_if_success guard_target =ₛ False)
    | ((with_reducible refine InAt.mk (fun K' hK => ?_)); conv => whnf)
    | ((with_reducible refine AnyAt.mk (fun K' hK => ?_)); conv => whnf)
    | ((with_reducible refine hK _ ?_); clear hK K'; conv => whnf)
    | ((with_reducible refine hK _ _ ?_); clear hK K'; conv => whnf)
    | ((refine And.intro ?_ ?_); all_goals (conv => whnf))
    | (apply r_quiet; refine mixed; kernel_rfl; kernel_rfl; kernel_rfl; conv => whnf)
    | ((refine if_t ?_ ?_); (focus decide); conv => whnf)
    | ((refine if_f ?_ ?_); (focus decide); conv => whnf)
    | ((refine if_decT ?_ ?_); (focus omega); conv => whnf)
    | ((refine if_decF ?_ ?_); (focus omega); conv => whnf)
    | ((refine if_ndecT ?_ ?_); (focus omega); conv => whnf)
    | ((refine if_ndecF ?_ ?_); (focus omega); conv => whnf)
    | ((refine if_dec (fun h => ?_) (fun h => ?_)); all_goals (conv => whnf))
    | ((refine if_ndec (fun h => ?_) (fun h => ?_)); all_goals (conv => whnf))
    | ((refine if_cond (fun h => ?_) (fun h => ?_)); all_goals (conv => whnf))
    | ((with_reducible apply_assumption -symm -exfalso)))
  all_goals exact FinK.ro0 rfl (HSub.pick (by repeat (first | with_reducible apply At.head | apply At.tail)))
theorem closeCall {nn : Nat} {W : World} {S : Nat → Prop} {r : Option Nat} {H : List Blk} {nx : K1} {x : ByteArray} (hx : ∀ b, nx (.v (.func (.func 23) #[] #[pv b])) (.blk 86 b [.v (.string x)] 9 :: H)) : CallK ⟨Tryz.prog, TB, nn, W, S, r, TBok⟩ 22 [.v (.string x)] H nx :=
  CallK.frL (v := fun b : Nat => .func (.func 23) #[] #[pv b]) (L0 := []) (L := []) (R := H) Sel.nil HSub.nil (fun _ w _ => FrZ.pre (close22 (x := x) w) (fun S h => by cases h; exact fun _ h => h))
    (M' := fun b => [.blk 86 b [.v (.string x)] 9]) (fun b => HSub.keep rfl HSub.nil) hx
theorem tickLongCall {nn : Nat} {W : World} {S : Nat → Prop} {r : Option Nat} {H R : List Blk} {nx : K1} {dt : ByteArray} {d mp bi bx i1 i1' ib i3 i4 : Nat} {c1 cb c3 : List SV} (hdt : dt.size ≤ 65536) (hl : (encEnd 64 dt).length > 65536)
    (hs : Sel H [.blk i1 bi c1 48, .blk ib bx cb 9, .ext i4 (MpA mp [] 0), .blk i3 d c3 81] R) (e1 : denL c1 = denL [.v (.int .i64 0), .v (.int .i64 0), .v (.int .i64 0), .v (.int .i64 64), .v (.bool true), .v (.int .i64 7)]) (eb : denL cb = denL [.v (.string dt)]) (e3 : denL c3 = denL (DC 7 8 0 mp))
    (hx : ∀ z : Option Addr × Nat, nx (.v (.slice z.1 0 z.2)) (.ext 190 X.emp :: .ext 4 (MpA mp [] 0) :: .blk i3 d (DC 7 8 1 mp) 81 :: R)) : CallK ⟨Tryz.prog, TB, nn, W, S, r, TBok⟩ 24 [.v (pv d), .v (.int .i64 0), .slc bi i1' 0 1 1, .v (.func (.func 23) #[] #[pv bx])] H nx :=
  CallK.frL (v := fun z : Option Addr × Nat => .slice z.1 0 z.2) (L0 := [.blk 9 bi [.v (.int .i64 0), .v (.int .i64 0), .v (.int .i64 0), .v (.int .i64 64), .v (.bool true), .v (.int .i64 7)] 48, .blk 8 bx [.v (.string dt)] 9, .ext 4 (MpA mp [] 0), .blk 3 d (DC 7 8 0 mp) 81]) hs (HSub.keep e1 (HSub.keep eb (HSub.ext (fun _ _ h => h) (HSub.keep e3 HSub.nil)))) (fun _ w _ => tickLong24 (m := 64) (g := 7) (num := 1680728) (tk := 0) (clk := 0) (by decide) (by decide) hdt hl (by decide) (by decide) (by decide) (by decide) (by decide) w)
    (M' := fun z => [.ext 190 X.emp, .ext 4 (MpA mp [] 0), .blk i3 d (DC 7 8 1 mp) 81]) (fun z => HSub.addE' (HSub.drop (HSub.drop (HSub.ext (fun _ _ h => h) (HSub.keep rfl HSub.nil))))) hx
theorem waitCall {nn : Nat} {W : World} {S : Nat → Prop} {r : Option Nat} {H R : List Blk} {nx : K1} {d mp i3 i4 : Nat} {c3 : List SV} {n gs tk : Int}
    (hs : Sel H [.ext i4 (MpA mp [] 0), .blk i3 d c3 81] R) (e3 : denL c3 = denL (DC n gs tk mp))
    (hx : nx (.v (.slice none 0 0)) (.ext 191 X.emp :: .ext 4 (MpA mp [] 0) :: .blk i3 d (DC n gs tk mp) 81 :: R)) : CallK ⟨Tryz.prog, TB, nn, W, S, r, TBok⟩ 25 [.v (pv d)] H nx :=
  CallK.frL (v := fun _ : Unit => .slice none 0 0) (L0 := [.ext 4 (MpA mp [] 0), .blk 3 d (DC n gs tk mp) 81]) hs (HSub.ext (fun _ _ h => h) (HSub.keep e3 HSub.nil)) (fun _ w _ => waitingE25 w)
    (M' := fun _ => [.ext 191 X.emp, .ext 4 (MpA mp [] 0), .blk i3 d (DC n gs tk mp) 81]) (fun _ => HSub.addE' (HSub.ext (fun _ _ h => h) (HSub.keep rfl HSub.nil))) (fun _ => hx)
theorem tickEndsCall {nn : Nat} {W : World} {S : Nat → Prop} {r : Option Nat} {H R : List Blk} {nx : K1} {dt : ByteArray} {d mp bi bx i1 i1' ib i3 i4 : Nat} {c1 cb c3 : List SV} (hdt : dt.size ≤ 65536) (hl : (encEnd 64 dt).length ≤ 65536)
    (hs : Sel H [.blk i1 bi c1 48, .blk ib bx cb 9, .ext i4 (MpA mp [] 0), .blk i3 d c3 81] R) (e1 : denL c1 = denL [.v (.int .i64 0), .v (.int .i64 0), .v (.int .i64 0), .v (.int .i64 64), .v (.bool true), .v (.int .i64 7)]) (eb : denL cb = denL [.v (.string dt)]) (e3 : denL c3 = denL (DC 7 8 1 mp))
    (hx : ∀ z : Option Addr × Nat, nx (.v (.slice z.1 1 z.2)) (.ext 192 (SlA 26 9 z.1 1 z.2 [.int .i64 10, .int .i64 0, .int .i64 ((49 : Nat) : Int), .int .i64 0, .int .i64 0, .int .i64 0, .int .i64 ((1680728 : Nat) : Int), .string ⟨(encEnd 64 dt).toArray⟩, .slice none 0 0]) :: .blk i3 d (DC 7 8 2 mp) 81 :: R)) : CallK ⟨Tryz.prog, TB, nn, W, S, r, TBok⟩ 24 [.v (pv d), .v (.int .i64 0), .slc bi i1' 0 1 1, .v (.func (.func 23) #[] #[pv bx])] H nx :=
  CallK.frL (v := fun z : Option Addr × Nat => .slice z.1 1 z.2) (L0 := [.blk 9 bi [.v (.int .i64 0), .v (.int .i64 0), .v (.int .i64 0), .v (.int .i64 64), .v (.bool true), .v (.int .i64 7)] 48, .blk 8 bx [.v (.string dt)] 9, .ext 4 (MpA mp [] 0), .blk 3 d (DC 7 8 1 mp) 81]) hs (HSub.keep e1 (HSub.keep eb (HSub.ext (fun _ _ h => h) (HSub.keep e3 HSub.nil)))) (fun _ w _ => tickEnds24 (m := 64) (g := 7) (num := 1680728) (tk := 1) (clk := 0) (by decide) (by decide) hdt hl (by decide) (by decide) (by decide) (by decide) (by decide) w)
    (M' := fun z => [.ext 192 (SlA 26 9 z.1 1 z.2 [.int .i64 10, .int .i64 0, .int .i64 ((49 : Nat) : Int), .int .i64 0, .int .i64 0, .int .i64 0, .int .i64 ((1680728 : Nat) : Int), .string ⟨(encEnd 64 dt).toArray⟩, .slice none 0 0]), .blk i3 d (DC 7 8 2 mp) 81]) (fun z => HSub.ext (fun _ _ h => h) (HSub.drop (HSub.drop (HSub.drop (HSub.keep rfl HSub.nil))))) hx
theorem xsEx : ∃ xs : ByteArray, xs.size = 65536 ∧ ∀ w, Pu Tryz.prog 21 #[.string ⟨#[120]⟩, .int .i64 65536] w (.string xs) :=
  ⟨⟨(List.replicate 65536 (120 : UInt8)).toArray⟩, by show (List.replicate 65536 (120 : UInt8)).toArray.size = 65536; rw [List.size_toArray, List.length_replicate], fun w => repeat21 (c := 65536) (by decide) w⟩
theorem encEnd_gt {x : ByteArray} (h : x.size = 65536) : (encEnd 64 x).length > 65536 := by
  have h1 := uvar_pos 4
  have h2 := str_len x
  unfold encEnd
  simp only [List.length_append]
  omega
theorem encEnd_le {x : ByteArray} (h : x.size = 60000) : (encEnd 64 x).length ≤ 65536 := by
  have hu0 := uvar_len64 (n := 4) (by omega)
  have hu1 := uvar_len64 (n := 64) (by omega)
  have hu2 := uvar_len64 (n := (ByteArray.mk #[]).size) (by decide)
  have hu4 := uvar_len64 (n := x.size) (by omega)
  have he2 := str_len (ByteArray.mk #[])
  have he1 : (ByteArray.mk #[]).size = 0 := rfl
  have h2 := str_len x
  unfold encEnd
  simp only [List.length_append, List.length_nil]
  omega
theorem encEnd_eq {m : Nat} {x : ByteArray} : (encEnd m x).toArray.toList = uvar 4 ++ (uvar m ++ (uvar (ByteArray.mk #[]).size ++ (ByteArray.mk #[]).data.toList ++ (uvar (ByteArray.mk #[]).size ++ (ByteArray.mk #[]).data.toList ++ (uvar x.size ++ x.data.toList ++ [])))) := by
  simp [encEnd]
theorem driveEnds4 {w : World} (hka : KAt w) : Pu Tryz.prog 4 #[] w (.bool true) := by
  obtain ⟨xs, hxs, hrep⟩ := xsEx
  have hys : (xs.extract (Int.toNat 0) (Int.toNat 60000)).size = 60000 := by rw [ByteArray.size_extract, hxs]; rfl
  have hzs : (xs.extract (Int.toNat 0) (Int.toNat 65000)).size = 65000 := by rw [ByteArray.size_extract, hxs]; rfl
  have hxx : (xs ++ ⟨#[120]⟩).size = 65537 := by rw [ByteArray.size_append, hxs]; rfl
  have hg1 := encEnd_gt hxs
  have hg2 := encEnd_le hys
  have hok7 : ItemOk 0 0 0 64 true 7 := okIn (m := 64) (g := 7) (f1 := ⟨#[97]⟩) (x := ⟨#[]⟩) (by decide) (by decide) hk97 (by decide) (by decide)
  have hz0 : NumOk 0 := by unfold NumOk; omega
  have hq := @fun d mp w' (hd : DAt w' d 7 8 2 mp) (hka' : KAt w') => questionE41 (m := 64) (g := 7) (x := (xs.extract (Int.toNat 0) (Int.toNat 60000))) (f := 0) (tq := 49) (num := 1680728) (v := ⟨(encEnd 64 (xs.extract (Int.toNat 0) (Int.toNat 60000))).toArray⟩) (by decide) (by decide) (by omega) hd hka' (by decide) (by decide) (by decide) (by decide) (by decide) (by decide) (by decide) encEnd_eq hg2
  have hrl1 : (uvar 0 ++ uvar (zigN 0) ++ uvar xs.size ++ xs.data.toList).length > 65536 := by
    have h1 := uvar_pos 0; have h2 := str_len xs
    simp only [List.length_append]; omega
  have hrl2 : (uvar 0 ++ uvar (zigN 0) ++ uvar (xs.extract (Int.toNat 0) (Int.toNat 65000)).size ++ (xs.extract (Int.toNat 0) (Int.toNat 65000)).data.toList).length ≤ 65536 ∧ 65000 < (uvar 0 ++ uvar (zigN 0) ++ uvar (xs.extract (Int.toNat 0) (Int.toNat 65000)).size ++ (xs.extract (Int.toNat 0) (Int.toNat 65000)).data.toList).length := by
    have h1 := uvar_pos 0; have h2 := str_len (xs.extract (Int.toNat 0) (Int.toNat 65000))
    have hu0 := uvar_len64 (n := 0) (by omega)
    have hu1 := uvar_len64 (n := zigN 0) (by decide)
    have hu4 := uvar_len64 (n := (xs.extract (Int.toNat 0) (Int.toNat 65000)).size) (by omega)
    simp only [List.length_append]; omega
  have hbig : (65000 : Int) < ((ByteArray.mk (uvar 0 ++ uvar (zigN 0) ++ uvar (xs.extract (Int.toNat 0) (Int.toNat 65000)).size ++ (xs.extract (Int.toNat 0) (Int.toNat 65000)).data.toList).toArray).size : Int) := by
    have : (ByteArray.mk (uvar 0 ++ uvar (zigN 0) ++ uvar (xs.extract (Int.toNat 0) (Int.toNat 65000)).size ++ (xs.extract (Int.toNat 0) (Int.toNat 65000)).data.toList).toArray).size = (uvar 0 ++ uvar (zigN 0) ++ uvar (xs.extract (Int.toNat 0) (Int.toNat 65000)).size ++ (xs.extract (Int.toNat 0) (Int.toNat 65000)).data.toList).length := by show ((uvar 0 ++ uvar (zigN 0) ++ uvar (xs.extract (Int.toNat 0) (Int.toNat 65000)).size ++ (xs.extract (Int.toNat 0) (Int.toNat 65000)).data.toList)).toArray.size = _; rw [List.size_toArray]
    omega
  have haA := @fun d mp w hd hka => answerToX18 (w := w) (d := d) (mp := mp) (e := 0) (rn := 0) (rx := xs) (er := 11) hd (hq d mp) hka (fun w => replyLong46 (e := 0) (by decide) hz0 (by omega) hrl1 w) (by decide)
  have haB := @fun d mp w hd hka => answerToX18 (w := w) (d := d) (mp := mp) (e := 0) (rn := 0) (rx := xs ++ ⟨#[120]⟩) (er := 2) hd (hq d mp) hka (fun w => replyBad46 (by rintro ⟨-, -, h⟩; omega) w) (by decide)
  have haC := @fun d mp w hd hka => answerToX18 (w := w) (d := d) (mp := mp) (e := 19) (rn := 0) (rx := ⟨#[]⟩) (er := 2) hd (hq d mp) hka (fun w => replyBad46 (by rintro ⟨h, -, -⟩; omega) w) (by decide)
  have haD := @fun d mp w hd hka => answerToG18 (w := w) (d := d) (mp := mp) (e := 0) (rn := 0) (rx := (xs.extract (Int.toNat 0) (Int.toNat 65000))) hd (hq d mp) hka (by decide) hz0 (by omega) hrl2.1
  clear hq
  refine enter_sound TBok Tryz.func4 rfl rfl Tryz.ntmps4 [] (Kn.start w noS) rfl rfl ?_
  conv => whnf
  repeat' (first
    | (with_reducible refine r_stop 21 ?_)
    | ((with_reducible refine r_seq (fun KS hS => ?_)))
    | ((with_reducible refine r_region ?_); conv => whnf)
    | ((with_reducible refine r_cond (fun KA hA KB hB => ?_)); conv => whnf)
    | ((with_reducible refine hS _ _ ?_); clear hS KS)
    | ((with_reducible refine hA _ ?_); clear hA KA)
    | ((with_reducible refine hB _ ?_); clear hB KB)
    | ((with_reducible refine r_block ?_))
    | ((with_reducible refine r_ret ?_); conv => whnf)
    | ((with_reducible refine r_skip ?_); conv => whnf)
    | ((with_reducible refine r_exit ?_); conv => whnf)
    | ((with_reducible refine WrapK.i64 ?_ ?_); (focus omega); conv => whnf)
    | ((with_reducible refine And.intro rfl ?_); conv => whnf)
    | ((with_reducible intro b); conv => whnf)
    | ((with_reducible refine CallK.at 11 ?_); refine CallK.pu (fun w => newBad11 (by omega) w) ?_; conv => whnf)
    | (refine newCall (n := 7) (gs := 8) (by omega) (by omega) (fun z => ?_); conv => whnf)
    | (refine newCall (n := 1) (gs := 3) (by omega) (by omega) (fun zs => ?_); conv => whnf)
    | ((with_reducible refine CallK.at 20 ?_); refine CallK.puW (fun ms w hk => target20 (hk.got (by repeat (first | constructor | apply List.Mem.tail))) hok7 (by omega) (by omega) (by omega)) ?_; conv => whnf)
    | ((with_reducible refine CallK.at 20 ?_); refine CallK.puW (fun ms w hk => targetBad20 (hk.got (by repeat (first | constructor | apply List.Mem.tail))) hok7 (by omega)) ?_; conv => whnf)
    | ((with_reducible refine CallK.at 20 ?_); refine CallK.puW (fun ms w hk => targetItem20 (hk.got (by repeat (first | constructor | apply List.Mem.tail))) (by omega) (by omega)) ?_; conv => whnf)
    | ((with_reducible refine CallK.id ?_); refine CallK.pu (fun w => hrep w) ?_; conv => whnf)
    | ((with_reducible refine OpK.id ?_); refine OpK.ixL rfl rfl rfl rfl rfl rfl (by omega) (by show _ < (2 : Int); omega) ?_; conv => whnf)
    | ((with_reducible apply OpK.more); (focus refine sok); (conv => whnf); fail_if_success guard_target =ₛ False)
    | ((with_reducible refine Rounds.step (fun KL hL => ?_)))
    | ((with_reducible refine hL _ _ ?_); clear hL KL)
    | ((with_reducible refine r_rounds 100 ?_))
    | ((with_reducible refine InAt.mk (fun K' hK => ?_)); conv => whnf)
    | ((with_reducible refine AnyAt.mk (fun K' hK => ?_)); conv => whnf)
    | ((with_reducible refine hK _ ?_); clear hK K'; conv => whnf)
    | ((with_reducible refine hK _ _ ?_); clear hK K'; conv => whnf)
    | ((refine And.intro ?_ ?_); all_goals (conv => whnf))
    | (apply r_quiet; refine mixed; kernel_rfl; kernel_rfl; kernel_rfl; conv => whnf)
    | ((refine if_t ?_ ?_); (focus decide); conv => whnf)
    | ((refine if_f ?_ ?_); (focus decide); conv => whnf)
    | ((refine if_decT ?_ ?_); (focus omega); conv => whnf)
    | ((refine if_decF ?_ ?_); (focus omega); conv => whnf)
    | ((refine if_ndecT ?_ ?_); (focus omega); conv => whnf)
    | ((refine if_ndecF ?_ ?_); (focus omega); conv => whnf)
    | ((refine if_dec (fun h => ?_) (fun h => ?_)); all_goals (conv => whnf))
    | ((refine if_ndec (fun h => ?_) (fun h => ?_)); all_goals (conv => whnf))
    | ((refine if_cond (fun h => ?_) (fun h => ?_)); all_goals (conv => whnf))
    | ((with_reducible apply_assumption -symm -exfalso)))
  refine ⟨?_⟩
  refine r_seq (fun KS hS => ?_)
  refine r_par (β := Nat) (id := 21) [⟨0, [], none, fun _ _ => .v (pv z.1), fun _ _ => []⟩, ⟨1, [], none, fun _ _ => .agg [.v (.int .i64 0), .v (.int .i64 0), .v (.int .i64 0), .v (.int .i64 64), .v (.bool true), .v (.int .i64 7)], fun _ _ => []⟩, ⟨2, [1], none, fun _ q => .slc q 85 0 1 1, fun _ q => [.blk 85 q [.v (.int .i64 0), .v (.int .i64 0), .v (.int .i64 0), .v (.int .i64 64), .v (.bool true), .v (.int .i64 7)] 48]⟩, ⟨3, [], none, fun _ _ => .fn 22 [], fun _ _ => []⟩, ⟨4, [], none, fun _ _ => .v (.string xs), fun _ _ => []⟩, ⟨5, [3, 4], none, fun _ q => .v (.func (.func 23) #[] #[pv q]), fun _ q => [.blk 86 q [.v (.string xs)] 9]⟩] [] 9 _ mixed (by kernel_rfl) (by kernel_rfl) (HSub.refl _) ?_ ?_
  · conv => whnf
    repeat' (first | ((with_reducible refine And.intro ?_ ?_); all_goals (conv => whnf)) | ((with_reducible intro zz AA KP hP); conv => whnf))
    repeat' (first
    | ((with_reducible refine r_seq (fun KS hS => ?_)))
    | ((with_reducible refine r_region ?_); conv => whnf)
    | ((with_reducible refine r_cond (fun KA hA KB hB => ?_)); conv => whnf)
    | ((with_reducible refine hS _ _ ?_); clear hS KS)
    | ((with_reducible refine hA _ ?_); clear hA KA)
    | ((with_reducible refine hB _ ?_); clear hB KB)
    | ((with_reducible refine r_block ?_))
    | ((with_reducible refine r_ret ?_); conv => whnf)
    | ((with_reducible refine r_skip ?_); conv => whnf)
    | ((with_reducible refine r_exit ?_); conv => whnf)
    | ((with_reducible refine WrapK.i64 ?_ ?_); (focus omega); conv => whnf)
    | ((with_reducible refine And.intro rfl ?_); conv => whnf)
    | ((with_reducible intro b); conv => whnf)
    | (refine closeCall (fun b => ?_); conv => whnf)
    | ((with_reducible apply hP); all_goals (first | exact (0 : Nat) | ((repeat' (first | exact SubD.nil | (refine SubD.cons rfl rfl ?_))); done) | ((try dsimp only [mapZ, List.cons_append, List.nil_append, den, denL]); refine SelI.spec ?_; repeat (first | apply SelI.nil | refine SelI.blk (by repeat (first | with_reducible apply Rm.head | apply Rm.tail)) ?_ | refine SelI.ext (by repeat (first | with_reducible apply Rm.head | apply Rm.tail)) ?_ | (refine SelI.blk' (by repeat (first | with_reducible apply Rm.head | apply Rm.tail)) ?_ ?_; focus rfl) | (refine SelI.ext' (by repeat (first | with_reducible apply Rm.head | apply Rm.tail)) ?_ ?_; focus rfl)))))
    | ((with_reducible apply OpK.more); (focus refine sok); (conv => whnf); fail_if_success guard_target =ₛ False)
    | ((with_reducible refine InAt.mk (fun K' hK => ?_)); conv => whnf)
    | ((with_reducible refine AnyAt.mk (fun K' hK => ?_)); conv => whnf)
    | ((with_reducible refine hK _ ?_); clear hK K'; conv => whnf)
    | ((with_reducible refine hK _ _ ?_); clear hK K'; conv => whnf)
    | ((refine And.intro ?_ ?_); all_goals (conv => whnf))
    | (apply r_quiet; refine mixed; kernel_rfl; kernel_rfl; kernel_rfl; conv => whnf)
    | ((refine if_t ?_ ?_); (focus decide); conv => whnf)
    | ((refine if_f ?_ ?_); (focus decide); conv => whnf)
    | ((refine if_decT ?_ ?_); (focus omega); conv => whnf)
    | ((refine if_decF ?_ ?_); (focus omega); conv => whnf)
    | ((refine if_ndecT ?_ ?_); (focus omega); conv => whnf)
    | ((refine if_ndecF ?_ ?_); (focus omega); conv => whnf)
    | ((refine if_dec (fun h => ?_) (fun h => ?_)); all_goals (conv => whnf))
    | ((refine if_ndec (fun h => ?_) (fun h => ?_)); all_goals (conv => whnf))
    | ((refine if_cond (fun h => ?_) (fun h => ?_)); all_goals (conv => whnf))
    | ((with_reducible apply_assumption -symm -exfalso)))
  conv => whnf
  intro zz
  conv => whnf
  try dsimp only
  repeat' (first
    | (with_reducible refine r_stop 23 ?_)
    | ((with_reducible refine r_seq (fun KS hS => ?_)))
    | ((with_reducible refine r_region ?_); conv => whnf)
    | ((with_reducible refine r_cond (fun KA hA KB hB => ?_)); conv => whnf)
    | ((with_reducible refine hS _ _ ?_); clear hS KS)
    | ((with_reducible refine hA _ ?_); clear hA KA)
    | ((with_reducible refine hB _ ?_); clear hB KB)
    | ((with_reducible refine r_block ?_))
    | ((with_reducible refine r_ret ?_); conv => whnf)
    | ((with_reducible refine r_skip ?_); conv => whnf)
    | ((with_reducible refine r_exit ?_); conv => whnf)
    | ((with_reducible refine WrapK.i64 ?_ ?_); (focus omega); conv => whnf)
    | ((with_reducible refine And.intro rfl ?_); conv => whnf)
    | ((with_reducible intro b); conv => whnf)
    | (refine tickLongCall (dt := xs) (mp := z.2) (by omega) hg1 (Sel.cons (by repeat (first | with_reducible apply Rm.head | apply Rm.tail)) (Sel.cons (by repeat (first | with_reducible apply Rm.head | apply Rm.tail)) (Sel.cons (by repeat (first | with_reducible apply Rm.head | apply Rm.tail)) (Sel.cons (by repeat (first | with_reducible apply Rm.head | apply Rm.tail)) Sel.nil)))) ?_ ?_ ?_ (fun y => ?_); rfl; rfl; rfl; conv => whnf)
    | (refine waitCall (mp := z.2) (n := 7) (gs := 8) (tk := 1) (Sel.cons (by repeat (first | with_reducible apply Rm.head | apply Rm.tail)) (Sel.cons (by repeat (first | with_reducible apply Rm.head | apply Rm.tail)) Sel.nil)) ?_ ?_; rfl; conv => whnf)
    | ((with_reducible apply OpK.more); (focus refine sok); (conv => whnf); fail_if_success guard_target =ₛ False)
    | ((with_reducible refine InAt.mk (fun K' hK => ?_)); conv => whnf)
    | ((with_reducible refine AnyAt.mk (fun K' hK => ?_)); conv => whnf)
    | ((with_reducible refine hK _ ?_); clear hK K'; conv => whnf)
    | ((with_reducible refine hK _ _ ?_); clear hK K'; conv => whnf)
    | ((refine And.intro ?_ ?_); all_goals (conv => whnf))
    | (apply r_quiet; refine mixed; kernel_rfl; kernel_rfl; kernel_rfl; conv => whnf)
    | ((refine if_t ?_ ?_); (focus decide); conv => whnf)
    | ((refine if_f ?_ ?_); (focus decide); conv => whnf)
    | ((refine if_decT ?_ ?_); (focus omega); conv => whnf)
    | ((refine if_decF ?_ ?_); (focus omega); conv => whnf)
    | ((refine if_ndecT ?_ ?_); (focus omega); conv => whnf)
    | ((refine if_ndecF ?_ ?_); (focus omega); conv => whnf)
    | ((refine if_dec (fun h => ?_) (fun h => ?_)); all_goals (conv => whnf))
    | ((refine if_ndec (fun h => ?_) (fun h => ?_)); all_goals (conv => whnf))
    | ((refine if_cond (fun h => ?_) (fun h => ?_)); all_goals (conv => whnf))
    | ((with_reducible apply_assumption -symm -exfalso)))
  refine ⟨?_⟩
  refine r_seq (fun KS hS => ?_)
  refine r_par (β := Nat) (id := 23) [⟨0, [], none, fun _ _ => .v (pv z.1), fun _ _ => []⟩, ⟨1, [], none, fun _ _ => .agg [.v (.int .i64 0), .v (.int .i64 0), .v (.int .i64 0), .v (.int .i64 64), .v (.bool true), .v (.int .i64 7)], fun _ _ => []⟩, ⟨2, [1], none, fun _ q => .slc q 85 0 1 1, fun _ q => [.blk 85 q [.v (.int .i64 0), .v (.int .i64 0), .v (.int .i64 0), .v (.int .i64 64), .v (.bool true), .v (.int .i64 7)] 48]⟩, ⟨3, [], none, fun _ _ => .fn 22 [], fun _ _ => []⟩, ⟨4, [], none, fun _ _ => .v (.string xs), fun _ _ => []⟩, ⟨5, [4], none, fun _ _ => .v (.string (xs.extract (Int.toNat 0) (Int.toNat 60000))), fun _ _ => []⟩, ⟨6, [3, 5], none, fun _ q => .v (.func (.func 23) #[] #[pv q]), fun _ q => [.blk 86 q [.v (.string (xs.extract (Int.toNat 0) (Int.toNat 60000)))] 9]⟩] [] 2 _ mixed (by kernel_rfl) (by kernel_rfl) (HSub.refl _) ?_ ?_
  · conv => whnf
    repeat' (first | ((with_reducible refine And.intro ?_ ?_); all_goals (conv => whnf)) | ((with_reducible intro zz AA KP hP); conv => whnf))
    repeat' (first
    | ((with_reducible refine r_seq (fun KS hS => ?_)))
    | ((with_reducible refine r_region ?_); conv => whnf)
    | ((with_reducible refine r_cond (fun KA hA KB hB => ?_)); conv => whnf)
    | ((with_reducible refine hS _ _ ?_); clear hS KS)
    | ((with_reducible refine hA _ ?_); clear hA KA)
    | ((with_reducible refine hB _ ?_); clear hB KB)
    | ((with_reducible refine r_block ?_))
    | ((with_reducible refine r_ret ?_); conv => whnf)
    | ((with_reducible refine r_skip ?_); conv => whnf)
    | ((with_reducible refine r_exit ?_); conv => whnf)
    | ((with_reducible refine WrapK.i64 ?_ ?_); (focus omega); conv => whnf)
    | ((with_reducible refine And.intro rfl ?_); conv => whnf)
    | ((with_reducible intro b); conv => whnf)
    | ((with_reducible refine OpK.id ?_); refine OpK.slS rfl rfl rfl rfl ?_; (conv => whnf); refine ⟨by omega, by omega, by omega, ?_⟩; (conv => whnf))
    | (refine closeCall (fun b => ?_); conv => whnf)
    | ((with_reducible apply hP); all_goals (first | exact (0 : Nat) | ((repeat' (first | exact SubD.nil | (refine SubD.cons rfl rfl ?_))); done) | ((try dsimp only [mapZ, List.cons_append, List.nil_append, den, denL]); refine SelI.spec ?_; repeat (first | apply SelI.nil | refine SelI.blk (by repeat (first | with_reducible apply Rm.head | apply Rm.tail)) ?_ | refine SelI.ext (by repeat (first | with_reducible apply Rm.head | apply Rm.tail)) ?_ | (refine SelI.blk' (by repeat (first | with_reducible apply Rm.head | apply Rm.tail)) ?_ ?_; focus rfl) | (refine SelI.ext' (by repeat (first | with_reducible apply Rm.head | apply Rm.tail)) ?_ ?_; focus rfl)))))
    | ((with_reducible apply OpK.more); (focus refine sok); (conv => whnf); fail_if_success guard_target =ₛ False)
    | ((with_reducible refine InAt.mk (fun K' hK => ?_)); conv => whnf)
    | ((with_reducible refine AnyAt.mk (fun K' hK => ?_)); conv => whnf)
    | ((with_reducible refine hK _ ?_); clear hK K'; conv => whnf)
    | ((with_reducible refine hK _ _ ?_); clear hK K'; conv => whnf)
    | ((refine And.intro ?_ ?_); all_goals (conv => whnf))
    | (apply r_quiet; refine mixed; kernel_rfl; kernel_rfl; kernel_rfl; conv => whnf)
    | ((refine if_t ?_ ?_); (focus decide); conv => whnf)
    | ((refine if_f ?_ ?_); (focus decide); conv => whnf)
    | ((refine if_decT ?_ ?_); (focus omega); conv => whnf)
    | ((refine if_decF ?_ ?_); (focus omega); conv => whnf)
    | ((refine if_ndecT ?_ ?_); (focus omega); conv => whnf)
    | ((refine if_ndecF ?_ ?_); (focus omega); conv => whnf)
    | ((refine if_dec (fun h => ?_) (fun h => ?_)); all_goals (conv => whnf))
    | ((refine if_ndec (fun h => ?_) (fun h => ?_)); all_goals (conv => whnf))
    | ((refine if_cond (fun h => ?_) (fun h => ?_)); all_goals (conv => whnf))
    | ((with_reducible apply_assumption -symm -exfalso)))
  conv => whnf
  intro zz2
  conv => whnf
  try dsimp only
  repeat' (first
    | (with_reducible refine r_stop 26 ?_)
    | ((with_reducible refine r_seq (fun KS hS => ?_)))
    | ((with_reducible refine r_region ?_); conv => whnf)
    | ((with_reducible refine r_cond (fun KA hA KB hB => ?_)); conv => whnf)
    | ((with_reducible refine hS _ _ ?_); clear hS KS)
    | ((with_reducible refine hA _ ?_); clear hA KA)
    | ((with_reducible refine hB _ ?_); clear hB KB)
    | ((with_reducible refine r_block ?_))
    | ((with_reducible refine r_ret ?_); conv => whnf)
    | ((with_reducible refine r_skip ?_); conv => whnf)
    | ((with_reducible refine r_exit ?_); conv => whnf)
    | ((with_reducible refine WrapK.i64 ?_ ?_); (focus omega); conv => whnf)
    | ((with_reducible refine And.intro rfl ?_); conv => whnf)
    | ((with_reducible intro b); conv => whnf)
    | (refine tickEndsCall (dt := (xs.extract (Int.toNat 0) (Int.toNat 60000))) (mp := z.2) (by omega) hg2 (Sel.cons (by repeat (first | with_reducible apply Rm.head | apply Rm.tail)) (Sel.cons (by repeat (first | with_reducible apply Rm.head | apply Rm.tail)) (Sel.cons (by repeat (first | with_reducible apply Rm.head | apply Rm.tail)) (Sel.cons (by repeat (first | with_reducible apply Rm.head | apply Rm.tail)) Sel.nil)))) ?_ ?_ ?_ (fun y => ?_); rfl; rfl; rfl; conv => whnf)
    | ((with_reducible apply OpK.more); (focus refine sok); (conv => whnf); fail_if_success guard_target =ₛ False)
    | ((with_reducible refine InAt.mk (fun K' hK => ?_)); conv => whnf)
    | ((with_reducible refine AnyAt.mk (fun K' hK => ?_)); conv => whnf)
    | ((with_reducible refine hK _ ?_); clear hK K'; conv => whnf)
    | ((with_reducible refine hK _ _ ?_); clear hK K'; conv => whnf)
    | ((refine And.intro ?_ ?_); all_goals (conv => whnf))
    | (apply r_quiet; refine mixed; kernel_rfl; kernel_rfl; kernel_rfl; conv => whnf)
    | ((refine if_t ?_ ?_); (focus decide); conv => whnf)
    | ((refine if_f ?_ ?_); (focus decide); conv => whnf)
    | ((refine if_decT ?_ ?_); (focus omega); conv => whnf)
    | ((refine if_decF ?_ ?_); (focus omega); conv => whnf)
    | ((refine if_ndecT ?_ ?_); (focus omega); conv => whnf)
    | ((refine if_ndecF ?_ ?_); (focus omega); conv => whnf)
    | ((refine if_dec (fun h => ?_) (fun h => ?_)); all_goals (conv => whnf))
    | ((refine if_ndec (fun h => ?_) (fun h => ?_)); all_goals (conv => whnf))
    | ((refine if_cond (fun h => ?_) (fun h => ?_)); all_goals (conv => whnf))
    | ((with_reducible apply_assumption -symm -exfalso)))
  refine ⟨?_⟩
  obtain ⟨y1, acap⟩ := y
  refine Run.slAddr (by repeat (first | with_reducible apply At.head | apply At.tail)) (by decide) (fun ab ao hab => ?_)
  dsimp only at hab
  subst hab
  dsimp only
  repeat' (first
    | (with_reducible refine r_stop 29 ?_)
    | ((with_reducible refine r_seq (fun KS hS => ?_)))
    | ((with_reducible refine r_region ?_); conv => whnf)
    | ((with_reducible refine r_cond (fun KA hA KB hB => ?_)); conv => whnf)
    | ((with_reducible refine hS _ _ ?_); clear hS KS)
    | ((with_reducible refine hA _ ?_); clear hA KA)
    | ((with_reducible refine hB _ ?_); clear hB KB)
    | ((with_reducible refine r_block ?_))
    | ((with_reducible refine r_ret ?_); conv => whnf)
    | ((with_reducible refine r_skip ?_); conv => whnf)
    | ((with_reducible refine r_exit ?_); conv => whnf)
    | ((with_reducible refine WrapK.i64 ?_ ?_); (focus omega); conv => whnf)
    | ((with_reducible refine And.intro rfl ?_); conv => whnf)
    | ((with_reducible intro b); conv => whnf)
    | ((with_reducible refine OpK.id ?_); refine OpK.idxA (k := 9) rfl rfl rfl rfl rfl rfl rfl (by omega) (by omega) ?_; conv => whnf)
    | ((with_reducible refine QK.id ?_); refine QK.idxA (k := 9) rfl rfl rfl rfl rfl rfl rfl (by omega) (by omega) ?_; conv => whnf)
    | ((with_reducible refine OpK.id ?_); refine OpK.ldp rfl rfl (PC.sl (Int.toNat 0) (by repeat (first | with_reducible apply At.head | apply At.tail)) i9Q) (List.cons_ne_nil _ _) ?_; conv => whnf)
    | ((with_reducible refine QK.id ?_); refine QK.ldp rfl rfl (PC.sl (Int.toNat 0) (by repeat (first | with_reducible apply At.head | apply At.tail)) i9Q) ?_ ?_; exact List.cons_ne_nil _ _; conv => whnf)
    | ((with_reducible refine OpK.id ?_); refine OpK.cat rfl rfl rfl (by rw [hxs]; decide) ?_; conv => whnf)
    | ((with_reducible refine CallK.id ?_); refine CallK.puW (fun ms w hkn => haA _ _ _ (hkn.got (by repeat (first | constructor | apply List.Mem.tail))) (hka.now (fun h => h) hkn)) ?_; conv => whnf)
    | ((with_reducible refine CallK.id ?_); refine CallK.puW (fun ms w hkn => haB _ _ _ (hkn.got (by repeat (first | constructor | apply List.Mem.tail))) (hka.now (fun h => h) hkn)) ?_; conv => whnf)
    | ((with_reducible refine CallK.id ?_); refine CallK.puW (fun ms w hkn => haC _ _ _ (hkn.got (by repeat (first | constructor | apply List.Mem.tail))) (hka.now (fun h => h) hkn)) ?_; conv => whnf)
    | ((with_reducible apply OpK.more); (focus refine sok); (conv => whnf); fail_if_success guard_target =ₛ False)
    | ((with_reducible refine InAt.mk (fun K' hK => ?_)); conv => whnf)
    | ((with_reducible refine AnyAt.mk (fun K' hK => ?_)); conv => whnf)
    | ((with_reducible refine hK _ ?_); clear hK K'; conv => whnf)
    | ((with_reducible refine hK _ _ ?_); clear hK K'; conv => whnf)
    | ((refine And.intro ?_ ?_); all_goals (conv => whnf))
    | (apply r_quiet; refine mixed; kernel_rfl; kernel_rfl; kernel_rfl; conv => whnf)
    | ((refine if_t ?_ ?_); (focus decide); conv => whnf)
    | ((refine if_f ?_ ?_); (focus decide); conv => whnf)
    | ((refine if_decT ?_ ?_); (focus omega); conv => whnf)
    | ((refine if_decF ?_ ?_); (focus omega); conv => whnf)
    | ((refine if_ndecT ?_ ?_); (focus omega); conv => whnf)
    | ((refine if_ndecF ?_ ?_); (focus omega); conv => whnf)
    | ((refine if_dec (fun h => ?_) (fun h => ?_)); all_goals (conv => whnf))
    | ((refine if_ndec (fun h => ?_) (fun h => ?_)); all_goals (conv => whnf))
    | ((refine if_cond (fun h => ?_) (fun h => ?_)); all_goals (conv => whnf))
    | ((with_reducible apply_assumption -symm -exfalso)))
  refine ⟨?_⟩
  refine r_seq (fun KS hS => ?_)
  refine r_par (β := Nat) (id := 29) [⟨0, [], none, fun _ _ => .v (pv z.1), fun _ _ => []⟩, ⟨1, [], none, fun _ _ => .v (.slice (some ⟨ab, ao, none⟩) 1 acap), fun _ _ => []⟩, ⟨2, [1], none, fun _ _ => .v (.pointer (some ⟨ab, ao + Int.toNat 0 * 9, none⟩)), fun _ _ => []⟩, ⟨3, [2], none, fun _ _ => .agg [.v (.int .i64 10), .v (.int .i64 0), .v (.int .i64 ((49 : Nat) : Int)), .v (.int .i64 0), .v (.int .i64 0), .v (.int .i64 0), .v (.int .i64 ((1680728 : Nat) : Int)), .v (.string ⟨(encEnd 64 (xs.extract (Int.toNat 0) (Int.toNat 60000))).toArray⟩), .v (.slice none 0 0)], fun _ _ => []⟩, ⟨4, [], none, fun _ _ => .v (.string xs), fun _ _ => []⟩, ⟨5, [4], none, fun _ _ => .v (.string (xs.extract (Int.toNat 0) (Int.toNat 65000))), fun _ _ => []⟩, ⟨6, [5], none, fun _ _ => .agg [.v (.int .i64 0), .v (.int .i64 0), .v (.string (xs.extract (Int.toNat 0) (Int.toNat 65000)))], fun _ _ => []⟩, ⟨7, [0, 3, 6], none, fun _ _ => .v (.tuple #[.agg #[.int .i64 11, .int .i64 ((49 : Nat) : Int), .int .i64 0, .int .i64 0, .int .i64 0, .int .i64 0, .int .i64 ((1680728 : Nat) : Int), .string ⟨(uvar 0 ++ uvar (zigN 0) ++ uvar (xs.extract (Int.toNat 0) (Int.toNat 65000)).size ++ (xs.extract (Int.toNat 0) (Int.toNat 65000)).data.toList).toArray⟩, .slice none 0 0], .int .i64 0]), fun _ _ => []⟩, ⟨8, [7], none, fun _ _ => .v (.tuple #[.agg #[.int .i64 11, .int .i64 ((49 : Nat) : Int), .int .i64 0, .int .i64 0, .int .i64 0, .int .i64 0, .int .i64 ((1680728 : Nat) : Int), .string ⟨(uvar 0 ++ uvar (zigN 0) ++ uvar (xs.extract (Int.toNat 0) (Int.toNat 65000)).size ++ (xs.extract (Int.toNat 0) (Int.toNat 65000)).data.toList).toArray⟩, .slice none 0 0], .int .i64 0]), fun _ _ => []⟩, ⟨9, [8], none, fun _ _ => .v (.agg #[.int .i64 11, .int .i64 ((49 : Nat) : Int), .int .i64 0, .int .i64 0, .int .i64 0, .int .i64 0, .int .i64 ((1680728 : Nat) : Int), .string ⟨(uvar 0 ++ uvar (zigN 0) ++ uvar (xs.extract (Int.toNat 0) (Int.toNat 65000)).size ++ (xs.extract (Int.toNat 0) (Int.toNat 65000)).data.toList).toArray⟩, .slice none 0 0]), fun _ _ => []⟩, ⟨10, [8], none, fun _ _ => .v (.int .i64 0), fun _ _ => []⟩, ⟨11, [], none, fun _ q => .loc q 95 0, fun _ q => [.blk 95 q [.v (.int .i64 0), .v (.int .i64 0), .v (.int .i64 0), .v (.int .i64 0), .v (.int .i64 0), .v (.int .i64 0), .v (.int .i64 0), .v (.string ⟨#[]⟩), .v (.slice none 0 0)] 26]⟩, ⟨12, [9, 11], some 11, fun _ _ => .v undef, fun l _ => match l with | [_, q] => [.blk 95 q [.v (.int .i64 11), .v (.int .i64 ((49 : Nat) : Int)), .v (.int .i64 0), .v (.int .i64 0), .v (.int .i64 0), .v (.int .i64 0), .v (.int .i64 ((1680728 : Nat) : Int)), .v (.string ⟨(uvar 0 ++ uvar (zigN 0) ++ uvar (xs.extract (Int.toNat 0) (Int.toNat 65000)).size ++ (xs.extract (Int.toNat 0) (Int.toNat 65000)).data.toList).toArray⟩), .v (.slice none 0 0)] 26] | _ => []⟩, ⟨13, [10], none, fun _ _ => .v (.int .i64 0), fun _ _ => []⟩] [] 0 _ mixed (by kernel_rfl) (by kernel_rfl) (HSub.refl _) ?_ ?_
  · conv => whnf
    repeat' (first | ((with_reducible refine And.intro ?_ ?_); all_goals (conv => whnf)) | ((with_reducible intro zz AA KP hP); conv => whnf))
    repeat' (first
    | ((with_reducible refine r_seq (fun KS hS => ?_)))
    | ((with_reducible refine r_region ?_); conv => whnf)
    | ((with_reducible refine r_cond (fun KA hA KB hB => ?_)); conv => whnf)
    | ((with_reducible refine hS _ _ ?_); clear hS KS)
    | ((with_reducible refine hA _ ?_); clear hA KA)
    | ((with_reducible refine hB _ ?_); clear hB KB)
    | ((with_reducible refine r_block ?_))
    | ((with_reducible refine r_ret ?_); conv => whnf)
    | ((with_reducible refine r_skip ?_); conv => whnf)
    | ((with_reducible refine r_exit ?_); conv => whnf)
    | ((with_reducible refine WrapK.i64 ?_ ?_); (focus omega); conv => whnf)
    | ((with_reducible refine And.intro rfl ?_); conv => whnf)
    | ((with_reducible intro b); conv => whnf)
    | ((with_reducible refine OpK.id ?_); refine OpK.slS rfl rfl rfl rfl ?_; (conv => whnf); refine ⟨by omega, by omega, by omega, ?_⟩; (conv => whnf))
    | ((with_reducible refine OpK.id ?_); refine OpK.idxA (k := 9) rfl rfl rfl rfl rfl rfl rfl (by omega) (by omega) ?_; conv => whnf)
    | ((with_reducible refine QK.id ?_); refine QK.idxA (k := 9) rfl rfl rfl rfl rfl rfl rfl (by omega) (by omega) ?_; conv => whnf)
    | ((with_reducible refine OpK.id ?_); refine OpK.ldp rfl rfl (PC.sl (Int.toNat 0) (by repeat (first | with_reducible apply At.head | apply At.tail)) i9Q) (List.cons_ne_nil _ _) ?_; conv => whnf)
    | ((with_reducible refine QK.id ?_); refine QK.ldp rfl rfl (PC.sl (Int.toNat 0) (by repeat (first | with_reducible apply At.head | apply At.tail)) i9Q) ?_ ?_; exact List.cons_ne_nil _ _; conv => whnf)
    | ((with_reducible refine CallK.id ?_); refine CallK.puW (fun ms w hkn => haD _ _ _ (hkn.got (by repeat (first | constructor | apply List.Mem.tail))) (hka.now (fun h => h) hkn)) ?_; conv => whnf)
    | ((with_reducible apply hP); all_goals (first | exact (0 : Nat) | ((repeat' (first | exact SubD.nil | (refine SubD.cons rfl rfl ?_))); done) | ((try dsimp only [mapZ, List.cons_append, List.nil_append, den, denL]); refine SelI.spec ?_; repeat (first | apply SelI.nil | refine SelI.blk (by repeat (first | with_reducible apply Rm.head | apply Rm.tail)) ?_ | refine SelI.ext (by repeat (first | with_reducible apply Rm.head | apply Rm.tail)) ?_ | (refine SelI.blk' (by repeat (first | with_reducible apply Rm.head | apply Rm.tail)) ?_ ?_; focus rfl) | (refine SelI.ext' (by repeat (first | with_reducible apply Rm.head | apply Rm.tail)) ?_ ?_; focus rfl)))))
    | ((with_reducible apply OpK.more); (focus refine sok); (conv => whnf); fail_if_success guard_target =ₛ False)
    | ((with_reducible refine InAt.mk (fun K' hK => ?_)); conv => whnf)
    | ((with_reducible refine AnyAt.mk (fun K' hK => ?_)); conv => whnf)
    | ((with_reducible refine hK _ ?_); clear hK K'; conv => whnf)
    | ((with_reducible refine hK _ _ ?_); clear hK K'; conv => whnf)
    | ((refine And.intro ?_ ?_); all_goals (conv => whnf))
    | (apply r_quiet; refine mixed; kernel_rfl; kernel_rfl; kernel_rfl; conv => whnf)
    | ((refine if_t ?_ ?_); (focus decide); conv => whnf)
    | ((refine if_f ?_ ?_); (focus decide); conv => whnf)
    | ((refine if_decT ?_ ?_); (focus omega); conv => whnf)
    | ((refine if_decF ?_ ?_); (focus omega); conv => whnf)
    | ((refine if_ndecT ?_ ?_); (focus omega); conv => whnf)
    | ((refine if_ndecF ?_ ?_); (focus omega); conv => whnf)
    | ((refine if_dec (fun h => ?_) (fun h => ?_)); all_goals (conv => whnf))
    | ((refine if_ndec (fun h => ?_) (fun h => ?_)); all_goals (conv => whnf))
    | ((refine if_cond (fun h => ?_) (fun h => ?_)); all_goals (conv => whnf))
    | ((with_reducible apply_assumption -symm -exfalso)))
  conv => whnf
  intro zz3
  conv => whnf
  try dsimp only
  repeat' (first
    | ((with_reducible refine r_seq (fun KS hS => ?_)))
    | ((with_reducible refine r_region ?_); conv => whnf)
    | ((with_reducible refine r_cond (fun KA hA KB hB => ?_)); conv => whnf)
    | ((with_reducible refine hS _ _ ?_); clear hS KS)
    | ((with_reducible refine hA _ ?_); clear hA KA)
    | ((with_reducible refine hB _ ?_); clear hB KB)
    | ((with_reducible refine r_block ?_))
    | ((with_reducible refine r_ret ?_); conv => whnf)
    | ((with_reducible refine r_skip ?_); conv => whnf)
    | ((with_reducible refine r_exit ?_); conv => whnf)
    | ((with_reducible refine WrapK.i64 ?_ ?_); (focus omega); conv => whnf)
    | ((with_reducible refine And.intro rfl ?_); conv => whnf)
    | ((with_reducible intro b); conv => whnf)
    | (refine if_decT hbig ?_; conv => whnf)
    | ((with_reducible refine CallK.at 10 ?_); refine CallK.puW (fun ms w hk => works10 (hka.now (fun h => h) hk)) ?_; conv => whnf)
    | ((with_reducible refine CallQ.at 10 ?_); refine CallQ.puW (fun ms w hk => works10 (hka.now (fun h => h) hk)) ?_; conv => whnf)
    | ((with_reducible apply OpK.more); (focus refine sok); (conv => whnf); fail_if_success guard_target =ₛ False)
    | ((with_reducible refine InAt.mk (fun K' hK => ?_)); conv => whnf)
    | ((with_reducible refine AnyAt.mk (fun K' hK => ?_)); conv => whnf)
    | ((with_reducible refine hK _ ?_); clear hK K'; conv => whnf)
    | ((with_reducible refine hK _ _ ?_); clear hK K'; conv => whnf)
    | ((refine And.intro ?_ ?_); all_goals (conv => whnf))
    | (apply r_quiet; refine mixed; kernel_rfl; kernel_rfl; kernel_rfl; conv => whnf)
    | ((refine if_t ?_ ?_); (focus decide); conv => whnf)
    | ((refine if_f ?_ ?_); (focus decide); conv => whnf)
    | ((refine if_decT ?_ ?_); (focus omega); conv => whnf)
    | ((refine if_decF ?_ ?_); (focus omega); conv => whnf)
    | ((refine if_ndecT ?_ ?_); (focus omega); conv => whnf)
    | ((refine if_ndecF ?_ ?_); (focus omega); conv => whnf)
    | ((refine if_dec (fun h => ?_) (fun h => ?_)); all_goals (conv => whnf))
    | ((refine if_ndec (fun h => ?_) (fun h => ?_)); all_goals (conv => whnf))
    | ((refine if_cond (fun h => ?_) (fun h => ?_)); all_goals (conv => whnf))
    | ((with_reducible apply_assumption -symm -exfalso)))
  exact FinK.pu rfl
end Go.Proofs.YtbgnoibellfojaaGreatDoor
