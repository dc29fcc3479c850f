/- Contracts and lemmas for the claim (part 9); no condition of its own. -/
import Derived.Test.YtjkmpaggfbghiaaGreatDoorYQC1008
import Derived.Test.YtjkmpaggfbghiaaGreatDoorYQC1006
import Derived.Test.YtjkmpaggfbghiaaGreatDoorYQC1005
set_option linter.all false
set_option maxRecDepth 100000
set_option maxHeartbeats 0
set_option linter.unusedVariables false
set_option linter.unusedSimpArgs false
set_option linter.unnecessarySimpa false
namespace Go.Proofs.YtjkmpaggfbghiaaGreatDoor
open Go Go.X
def cutL : List UInt8 := [97, 98, 99, 100, 101, 102, 103, 104, 105, 106, 107, 108, 109, 110, 111, 112, 113, 114, 115, 116, 117, 118, 119, 120, 121, 122, 48, 49, 50, 51, 52, 53, 54, 55, 56, 57]
def cutS : ByteArray := ⟨#[97, 98, 99, 100, 101, 102, 103, 104, 105, 106, 107, 108, 109, 110, 111, 112, 113, 114, 115, 116, 117, 118, 119, 120, 121, 122, 48, 49, 50, 51, 52, 53, 54, 55, 56, 57]⟩
def setL (k : Nat) : List SV := (List.range 256).map fun i => .v (.bool ((cutL.take k).contains (UInt8.ofNat i)))
theorem setL_get {k i : Nat} (h : i < 256) : (setL k)[i]? = some (.v (.bool ((cutL.take k).contains (UInt8.ofNat i)))) := by
  unfold setL
  rw [List.getElem?_map, List.getElem?_range h]
  rfl
theorem setL_len (k : Nat) : (setL k).length = 256 := by simp [setL]
theorem setL_succ {k : Nat} (hk : k < 36) : setL (k + 1) = (setL k).set (cutL.getD k 0).toNat (.v (.bool true)) := by
  have hlen : cutL.length = 36 := rfl
  have ht : cutL.take (k + 1) = cutL.take k ++ [cutL.getD k 0] := by
    rw [List.take_add_one, List.getElem?_eq_getElem (by omega)]
    simp [List.getD, List.getElem?_eq_getElem (show k < cutL.length by omega)]
  have hlt := (cutL.getD k 0).toNat_lt
  apply List.ext_getElem?
  intro i
  by_cases hi : i < 256
  · rw [setL_get hi, List.getElem?_set, setL_len]
    by_cases h : (cutL.getD k 0).toNat = i
    · subst h
      rw [if_pos rfl, if_pos hi, ht]
      simp
    · rw [if_neg h, setL_get hi, ht]
      have hne' : ¬ UInt8.ofNat i = cutL.getD k 0 := by
        intro e
        apply h
        rw [← e]
        simp
        omega
      simp
      intro e
      exact absurd e hne'
  · rw [List.getElem?_eq_none (by rw [setL_len]; omega), List.getElem?_eq_none (by rw [List.length_set, setL_len]; omega)]
theorem cut_lt : ∀ k, k < 36 → (cutL.getD k 0).toNat < 128 := by decide
theorem mkset317 (w : World) : Pu Tryz.prog 179 #[.string cutS] w (.tuple #[.agg (denL (setL 36)).toArray, .bool true]) := by
  refine enter_sound TBok Tryz.func179 rfl rfl Tryz.ntmps179 [.v (.string cutS)] (Kn.start w noS) rfl rfl ?_
  conv => whnf
  repeat' (first
 | with_reducible ((first | refine r_seq (fun KS hS => ?_) | (refine hS _ _ ?_; clear hS KS) | refine r_block ?_))
 | ((with_reducible (first | refine r_region ?_ | intro b)); conv => whnf))
  refine r_loop (α := Nat) (fun k => [(0, .v (.string cutS)), (2, .loc b 0 0), (4, .v (.int .i64 k))]) (fun k => [.blk 0 b (setL k) 258]) (fun k => k ≤ 36) (fun k => 36 - k) 0 (Nat.zero_le _) ?_ (HSub.keep rfl HSub.nil) ?_
  · repeat' (first | exact Sub.nil | (refine Sub.cons rfl rfl ?_))
  intro k hk KL hL
  by_cases hlt : k < 36
  · have hb : cutL[k]? = some (cutL.getD k 0) := by
      have hlen : cutL.length = 36 := rfl
      simp [List.getD, List.getElem?_eq_getElem (show k < cutL.length by omega)]
    have hc := cut_lt k hlt
    have hs := setL_succ hlt
    have hcs : cutS.size = 36 := rfl
    conv => whnf
    repeat' (first
 | with_reducible ((first | refine r_seq (fun KS hS => ?_) | (refine hS _ _ ?_; clear hS KS) | (refine hA _ ?_; clear hA KA) | (refine hB _ ?_; clear hB KB) | refine r_block ?_))
 | ((with_reducible (first | refine r_region ?_ | refine r_cond (fun KA hA KB hB => ?_) | refine r_skip ?_)); conv => whnf)
 | ((with_reducible refine WrapK.i64 ?_ ?_); (focus omega); conv => whnf)
 | ((with_reducible refine OpK.id ?_); (first | refine OpK.sIx (b := cutL.getD k 0) rfl rfl rfl rfl rfl (by omega) hb ?_ | (refine OpK.ixA rfl rfl rfl rfl rfl rfl (by omega) (by show _ < (256 : Int); omega) ?_) | (refine OpK.st1 rfl rfl rfl rfl rfl rfl atG (by rw [setL_len]; show 0 + (Int.toNat _) * 1 < 256; omega) ?_)); conv => whnf)
 | (refine hL (k + 1) _ _ ?_ ?_ ?_ ?_; omega; omega; (repeat' (first | exact Sub.nil | (refine Sub.cons rfl rfl ?_))); refine HSub.keep ?_ HSub.nil)
 | ((first | refine if_decT (by omega) ?_ | refine if_decF (by omega) ?_); conv => whnf)
 | with_reducible apply_assumption -symm -exfalso)
    rw [show 0 + (Int.toNat ((cutL.getD k 0).toNat : Int)) * TI.size ti4 = (cutL.getD k 0).toNat from by show 0 + (cutL.getD k 0).toNat * 1 = _; omega]
    exact hs.symm
  · obtain rfl : k = 36 := by omega
    conv => whnf
    repeat' (first
 | with_reducible ((first | refine r_seq (fun KS hS => ?_) | (refine hS _ _ ?_; clear hS KS) | (refine hB _ ?_; clear hB KB)))
 | ((with_reducible (first | refine r_region ?_ | refine r_cond (fun KA hA KB hB => ?_) | refine r_ret ?_ | refine r_exit ?_ | refine And.intro rfl ?_)); conv => whnf)
 | with_reducible apply_assumption -symm -exfalso)
    exact FinK.pu rfl
def alnum (c : UInt8) : Bool := cutL.contains c
def SetAt (w : World) (p : Nat) : Prop := p < w.heap.size ∧ ∃ C t f, w.heap[p]? = some (.cells C t f) ∧ ∀ c : UInt8, C[c.toNat]? = some (.bool (alnum c))
theorem SetAt.pc {w : World} {p n : Nat} {r : Option Nat} {H : List Blk} (h : SetAt w p) (c : UInt8) : PC ⟨Tryz.prog, TB, n, w, noS, r, TBok⟩ H p c.toNat [.v (.bool (alnum c))] := by
  obtain ⟨hp, C, t, f, h1, h2⟩ := h
  intro ms w' hk
  refine ⟨C, t, f, by rw [Kn0.old hk p hp id]; exact h1, fun j v hj => ?_⟩
  cases j with
  | zero => simp only [denL, den, List.getElem?_cons_zero] at hj; rw [Nat.add_zero, h2 c]; exact hj
  | succ j => simp [denL] at hj
theorem SetAt.pc' {w : World} {p n : Nat} {r : Option Nat} {H : List Blk} (h : SetAt w p) (c : UInt8) : PC ⟨Tryz.prog, TB, n, w, noS, r, TBok⟩ H p (0 + (Int.toNat (c.toNat : Int)) * TI.size ti4) [.v (.bool (alnum c))] := by
  have e : 0 + (Int.toNat (c.toNat : Int)) * TI.size ti4 = c.toNat := by show 0 + c.toNat * 1 = _; omega
  rw [e]
  exact h.pc c
theorem str_ext {a b : ByteArray} (h : a.data.toList = b.data.toList) : a = b := by
  cases a; cases b
  simp only at h
  congr 1
  exact Array.ext' h
theorem str_len (s : ByteArray) : s.data.toList.length = s.size := by rw [Array.length_toList]; rfl
def rstrip (l : List UInt8) : List UInt8 := (l.reverse.dropWhile alnum).reverse
theorem rstrip_snoc (l : List UInt8) (c : UInt8) : rstrip (l ++ [c]) = if alnum c then rstrip l else l ++ [c] := by
  unfold rstrip
  rw [List.reverse_append]
  simp only [List.reverse_cons, List.reverse_nil, List.nil_append, List.singleton_append, List.dropWhile_cons]
  split
  · rfl
  · simp
theorem trimR319 {s : ByteArray} {p : Nat} {w : World} (h : SetAt w p) (hs : s.size ≤ 1099511627776) : Pu Tryz.prog 181 #[.string s, pv p] w (.string ⟨(rstrip s.data.toList).toArray⟩) := by
  refine enter_sound TBok Tryz.func181 rfl rfl Tryz.ntmps181 [.v (.string s), .v (pv p)] (Kn.start w noS) rfl rfl ?_
  conv => whnf
  repeat' (first
 | with_reducible ((first | refine r_seq (fun KS hS => ?_) | (refine hS _ _ ?_; clear hS KS) | refine r_block ?_))
 | ((with_reducible refine r_region ?_); conv => whnf))
  refine r_loop (α := ByteArray) (fun s => [(0, .v (.string s)), (1, .v (pv p))]) (fun k => []) (fun s' => s'.size ≤ 1099511627776 ∧ rstrip s'.data.toList = rstrip s.data.toList) (fun s => s.size) s ⟨hs, rfl⟩ ?_ (HSub.refl _) ?_
  · repeat' (first | exact Sub.nil | (refine Sub.cons rfl rfl ?_))
  rintro s' ⟨h1, h2⟩ KL hL
  have hsl := str_len s'
  rcases List.eq_nil_or_concat s'.data.toList with hn | ⟨l, c, hn⟩
  · have h0 : s'.size = 0 := by rw [← hsl, hn]; rfl
    conv => whnf
    repeat' (first
 | with_reducible ((first | refine r_seq (fun KS hS => ?_) | (refine hS _ _ ?_; clear hS KS) | (refine hB _ ?_; clear hB KB)))
 | ((with_reducible (first | refine r_region ?_ | refine r_cond (fun KA hA KB hB => ?_) | refine r_ret ?_ | refine r_exit ?_)); conv => whnf)
 | (refine if_decF (by omega) ?_; conv => whnf)
 | with_reducible apply_assumption -symm -exfalso)
    refine FinK.pu ?_
    show Value.string _ = _
    rw [← h2, hn]
    congr 1
    exact str_ext hn
  · have hn : s'.data.toList = l ++ [c] := by rw [hn]; simp
    have h0 : s'.size = l.length + 1 := by rw [← hsl, hn]; simp
    have hb : s'.data.toList[(Int.toNat ((s'.size : Int) - 1))]? = some c := by rw [show (Int.toNat ((s'.size : Int) - 1)) = l.length by omega, hn]; simp
    have hx : (s'.extract (Int.toNat 0) (Int.toNat ((s'.size : Int) - 1))).data.toList = l := by rw [show (Int.toNat ((s'.size : Int) - 1)) = l.length by omega, Lib.extract_data, hn]; simp
    have hxs : (s'.extract (Int.toNat 0) (Int.toNat ((s'.size : Int) - 1))).size = l.length := by rw [← str_len, hx]
    have hr := rstrip_snoc l c
    have hlt := c.toNat_lt
    by_cases hc : alnum c = true
    · rw [if_pos hc, ← hn] at hr
      conv => whnf
      repeat' (first
 | with_reducible ((first | refine r_seq (fun KS hS => ?_) | (refine hS _ _ ?_; clear hS KS) | (refine hA _ ?_; clear hA KA) | (refine hB _ ?_; clear hB KB) | refine r_block ?_))
 | ((with_reducible (first | refine r_region ?_ | refine r_cond (fun KA hA KB hB => ?_) | refine r_ret ?_ | refine r_skip ?_ | refine And.intro rfl ?_)); conv => whnf)
 | ((with_reducible refine WrapK.i64 ?_ ?_); (focus omega); conv => whnf)
 | (apply in331; rfl; rfl; rfl; intro A; conv => whnf)
 | ((with_reducible refine OpK.id ?_); (first | refine OpK.sIx (b := c) rfl rfl rfl rfl rfl (by omega) hb ?_ | (refine OpK.ixP rfl rfl rfl rfl rfl rfl (by omega) (by show _ < (256 : Int); omega) ?_) | (refine OpK.ldp rfl rfl (h.pc' c) (List.cons_ne_nil _ _) ?_; rw [hc]) | refine OpK.slS rfl rfl rfl rfl ?_); conv => whnf)
 | (refine ⟨by omega, by omega, by omega, ?_⟩; conv => whnf)
 | (refine hL (s'.extract (Int.toNat 0) (Int.toNat ((s'.size : Int) - 1))) _ _ ⟨by omega, by rw [hx, ← hr, h2]⟩ (by omega) ?_ (HSub.refl _); repeat' (first | exact Sub.nil | (refine Sub.cons rfl rfl ?_)))
 | (refine if_decT (by omega) ?_; conv => whnf)
 | with_reducible apply_assumption -symm -exfalso)
    · rw [if_neg hc, ← hn] at hr
      rw [Bool.not_eq_true] at hc
      conv => whnf
      repeat' (first
 | with_reducible ((first | refine r_seq (fun KS hS => ?_) | (refine hS _ _ ?_; clear hS KS) | (refine hA _ ?_; clear hA KA) | refine r_block ?_))
 | ((with_reducible (first | refine r_region ?_ | refine r_cond (fun KA hA KB hB => ?_) | refine r_ret ?_ | refine r_skip ?_ | refine r_exit ?_ | refine And.intro rfl ?_)); conv => whnf)
 | ((with_reducible refine WrapK.i64 ?_ ?_); (focus omega); conv => whnf)
 | (apply in331; rfl; rfl; rfl; intro A; conv => whnf)
 | ((with_reducible refine OpK.id ?_); (first | refine OpK.sIx (b := c) rfl rfl rfl rfl rfl (by omega) hb ?_ | (refine OpK.ixP rfl rfl rfl rfl rfl rfl (by omega) (by show _ < (256 : Int); omega) ?_) | (refine OpK.ldp rfl rfl (h.pc' c) (List.cons_ne_nil _ _) ?_; rw [hc])); conv => whnf)
 | (refine if_decT (by omega) ?_; conv => whnf)
 | with_reducible apply_assumption -symm -exfalso)
      refine FinK.pu ?_
      show Value.string _ = _
      rw [← h2, hr]
def lstrip (l : List UInt8) : List UInt8 := l.dropWhile alnum
theorem trimL318 {s : ByteArray} {p : Nat} {w : World} (h : SetAt w p) (hs : s.size ≤ 1099511627776) : Pu Tryz.prog 180 #[.string s, pv p] w (.string ⟨(lstrip s.data.toList).toArray⟩) := by
  refine enter_sound TBok Tryz.func180 rfl rfl Tryz.ntmps180 [.v (.string s), .v (pv p)] (Kn.start w noS) rfl rfl ?_
  conv => whnf
  repeat' (first
 | with_reducible ((first | refine r_seq (fun KS hS => ?_) | (refine hS _ _ ?_; clear hS KS) | refine r_block ?_))
 | ((with_reducible refine r_region ?_); conv => whnf))
  refine r_loop (α := ByteArray) (fun s => [(0, .v (.string s)), (1, .v (pv p))]) (fun k => []) (fun s' => s'.size ≤ 1099511627776 ∧ lstrip s'.data.toList = lstrip s.data.toList) (fun s => s.size) s ⟨hs, rfl⟩ ?_ (HSub.refl _) ?_
  · repeat' (first | exact Sub.nil | (refine Sub.cons rfl rfl ?_))
  rintro s' ⟨h1, h2⟩ KL hL
  have hsl := str_len s'
  rcases hn : s'.data.toList with _ | ⟨c, l⟩
  · have h0 : s'.size = 0 := by rw [← hsl, hn]; rfl
    conv => whnf
    repeat' (first
 | with_reducible ((first | refine r_seq (fun KS hS => ?_) | (refine hS _ _ ?_; clear hS KS) | (refine hB _ ?_; clear hB KB)))
 | ((with_reducible (first | refine r_region ?_ | refine r_cond (fun KA hA KB hB => ?_) | refine r_ret ?_ | refine r_exit ?_)); conv => whnf)
 | (refine if_decF (by omega) ?_; conv => whnf)
 | with_reducible apply_assumption -symm -exfalso)
    refine FinK.pu ?_
    show Value.string _ = _
    rw [← h2, hn]
    congr 1
    exact str_ext hn
  · have h0 : s'.size = l.length + 1 := by rw [← hsl, hn]; simp
    have hb : s'.data.toList[(Int.toNat 0)]? = some c := by rw [hn]; rfl
    have hx : (s'.extract (Int.toNat 1) (Int.toNat (s'.size : Int))).data.toList = l := by rw [Lib.extract_data, hn, h0]; simp
    have hxs : (s'.extract (Int.toNat 1) (Int.toNat (s'.size : Int))).size = l.length := by rw [← str_len, hx]
    have hr : lstrip (c :: l) = if alnum c then lstrip l else c :: l := by unfold lstrip; rw [List.dropWhile_cons]
    have hlt := c.toNat_lt
    by_cases hc : alnum c = true
    · rw [if_pos hc, ← hn] at hr
      conv => whnf
      repeat' (first
 | with_reducible ((first | refine r_seq (fun KS hS => ?_) | (refine hS _ _ ?_; clear hS KS) | (refine hA _ ?_; clear hA KA) | (refine hB _ ?_; clear hB KB) | refine r_block ?_))
 | ((with_reducible (first | refine r_region ?_ | refine r_cond (fun KA hA KB hB => ?_) | refine r_ret ?_ | refine r_skip ?_ | refine And.intro rfl ?_)); conv => whnf)
 | (apply in331; rfl; rfl; rfl; intro A; conv => whnf)
 | ((with_reducible refine OpK.id ?_); (first | refine OpK.sIx (b := c) rfl rfl rfl rfl rfl (by omega) hb ?_ | (refine OpK.ixP rfl rfl rfl rfl rfl rfl (by omega) (by show _ < (256 : Int); omega) ?_) | (refine OpK.ldp rfl rfl (h.pc' c) (List.cons_ne_nil _ _) ?_; rw [hc]) | refine OpK.slS rfl rfl rfl rfl ?_); conv => whnf)
 | (refine ⟨by omega, by omega, by omega, ?_⟩; conv => whnf)
 | (refine hL (s'.extract (Int.toNat 1) (Int.toNat (s'.size : Int))) _ _ ⟨by omega, by rw [hx, ← hr, h2]⟩ (by omega) ?_ (HSub.refl _); repeat' (first | exact Sub.nil | (refine Sub.cons rfl rfl ?_)))
 | (refine if_decT (by omega) ?_; conv => whnf)
 | with_reducible apply_assumption -symm -exfalso)
    · rw [if_neg hc, ← hn] at hr
      rw [Bool.not_eq_true] at hc
      conv => whnf
      repeat' (first
 | with_reducible ((first | refine r_seq (fun KS hS => ?_) | (refine hS _ _ ?_; clear hS KS) | (refine hA _ ?_; clear hA KA) | refine r_block ?_))
 | ((with_reducible (first | refine r_region ?_ | refine r_cond (fun KA hA KB hB => ?_) | refine r_ret ?_ | refine r_skip ?_ | refine r_exit ?_ | refine And.intro rfl ?_)); conv => whnf)
 | (apply in331; rfl; rfl; rfl; intro A; conv => whnf)
 | ((with_reducible refine OpK.id ?_); (first | refine OpK.sIx (b := c) rfl rfl rfl rfl rfl (by omega) hb ?_ | (refine OpK.ixP rfl rfl rfl rfl rfl rfl (by omega) (by show _ < (256 : Int); omega) ?_) | (refine OpK.ldp rfl rfl (h.pc' c) (List.cons_ne_nil _ _) ?_; rw [hc])); conv => whnf)
 | (refine if_decT (by omega) ?_; conv => whnf)
 | with_reducible apply_assumption -symm -exfalso)
      refine FinK.pu ?_
      show Value.string _ = _
      rw [← h2, hr]
theorem alnum_get (c : UInt8) : (denL (setL 36)).toArray[c.toNat]? = some (.bool (alnum c)) := by
  have hlt := c.toNat_lt
  rw [List.getElem?_toArray, denL_getElem?, setL_get (by omega)]
  simp only [Option.map_some, den, alnum]
  congr 3
  simp
theorem rstrip_len (l : List UInt8) : (rstrip l).length ≤ l.length := by
  unfold rstrip
  rw [List.length_reverse]
  exact Nat.le_trans (List.dropWhile_suffix _).length_le (by simp)
theorem SetAt.of {c : Cx} {ms : List Nat} {H : List Blk} {w : World} {i b : Nat} {cs : List SV} {t : Nat} (hk : Kn c.W c.S ms H w) (hm : .blk i b cs t ∈ H) (e : denL cs = denL (setL 36)) : SetAt w b := by
  have hg := hk.got hm
  rw [e] at hg
  exact ⟨(Array.getElem?_eq_some_iff.1 hg).1, _, _, _, hg, alnum_get⟩
theorem trim293 {s : ByteArray} (hs : s.size ≤ 1099511627776) (h0 : s.size ≠ 0) (w : World) : Pu Tryz.prog 118 #[.string s, .string cutS] w (.string ⟨(lstrip (rstrip s.data.toList)).toArray⟩) := by
  refine enter_sound TBok Tryz.func118 rfl rfl Tryz.ntmps118 [.v (.string s), .v (.string cutS)] (Kn.start w noS) rfl rfl ?_
  have hne : ¬ s = ⟨#[]⟩ := by rintro rfl; exact h0 rfl
  have hce : ¬ cutS = ⟨#[]⟩ := by intro e; have := congrArg ByteArray.size e; cases this
  have hcs : cutS.size = 36 := rfl
  have hrs : (ByteArray.mk (rstrip s.data.toList).toArray).size ≤ 1099511627776 := by
    have h1 := rstrip_len s.data.toList
    have h2 := str_len s
    show (rstrip s.data.toList).toArray.size ≤ _
    rw [List.size_toArray]
    omega
  conv => whnf
  repeat' (first
 | with_reducible ((first | refine r_seq (fun KS hS => ?_) | (refine hS _ _ ?_; clear hS KS) | (refine hA _ ?_; clear hA KA) | (refine hB _ ?_; clear hB KB)))
 | ((with_reducible (first | refine r_region ?_ | refine r_cond (fun KA hA KB hB => ?_) | refine r_ret ?_ | refine r_skip ?_ | refine And.intro rfl ?_ | intro b)); conv => whnf)
 | (refine if_decF hne ?_; conv => whnf)
 | ((with_reducible refine CallK.at 179 ?_); refine CallK.pu (fun w => mkset317 w) ?_; conv => whnf)
 | ((with_reducible refine CallK.at 181 ?_); refine CallK.puW (fun ms w hk => trimR319 (SetAt.of hk lmG rfl) hs) ?_; conv => whnf)
 | ((with_reducible refine CallK.at 180 ?_); refine CallK.puW (fun ms w hk => trimL318 (SetAt.of hk lmG rfl) hrs) ?_; conv => whnf)
 | with_reducible apply_assumption -symm -exfalso)
  exact FinK.pu rfl
theorem alnum_lt {c : UInt8} (h : alnum c = true) : c.toNat ≤ 122 := by
  have : ∀ n : Fin 256, cutL.contains (UInt8.ofNat n.val) = true → n.val ≤ 122 := by decide +kernel
  have h2 := this ⟨c.toNat, c.toNat_lt⟩
  simp only [UInt8.ofNat_toNat] at h2
  exact h2 h
theorem idx335 {s : ByteArray} (hs : s.size ≤ 1099511627776) (ha : ∀ c ∈ s.data.toList, alnum c = true) (w : World) : Pu Tryz.prog 266 #[.string s, .func (.func 120) #[] #[], .bool true] w (.int .i64 (-1)) := by
  refine enter_sound TBok Tryz.func266 rfl rfl Tryz.ntmps266 [.v (.string s), .fn 120 [], .v (.bool true)] (Kn.start w noS) rfl rfl ?_
  conv => whnf
  repeat' (first
 | with_reducible ((first | refine r_seq (fun KS hS => ?_) | (refine hS _ _ ?_; clear hS KS) | refine r_block ?_))
 | ((with_reducible (first | refine r_region ?_ | intro b)); conv => whnf)
 | ((with_reducible refine OpK.id ?_); refine OpK.rngS rfl rfl rfl rfl ?_; conv => whnf))
  refine r_loop (α := Nat) (fun _ => [(1, .fn 120 []), (2, .v (.bool true)), (10, .v (.pointer (some ⟨b, 0, none⟩)))]) (fun k => [.ext 0 (StrIt b s k)]) (fun k => k ≤ s.size) (fun k => s.size - k) 0 (Nat.zero_le _) ?_ (HSub.refl _) ?_
  · repeat' (first | exact Sub.nil | (refine Sub.cons rfl rfl ?_))
  intro k hk KL hL
  by_cases hlt : k < s.size
  · obtain ⟨ch, hch⟩ : ∃ ch, s.data.toList[k]? = some ch := ⟨_, List.getElem?_eq_getElem (by rw [str_len]; exact hlt)⟩
    have hal := ha ch (List.mem_of_getElem? hch)
    have hc := alnum_lt hal
    have hd := Go.X.decode_ascii hch (by omega)
    conv => whnf
    repeat' (first
 | with_reducible ((first | refine r_seq (fun KS hS => ?_) | (refine hS _ _ ?_; clear hS KS) | (refine hA _ ?_; clear hA KA) | (refine hB _ ?_; clear hB KB) | refine r_block ?_))
 | ((with_reducible (first | refine r_region ?_ | refine r_cond (fun KA hA KB hB => ?_) | refine r_ret ?_ | refine r_skip ?_ | refine And.intro rfl ?_)); conv => whnf)
 | (apply in295; rfl; rfl; rfl; intro A; conv => whnf)
 | ((with_reducible refine OpK.id ?_); refine OpK.nextS rfl rfl atG (fun _ => ?_) (fun h => absurd hlt h); rw [hd]; dsimp only; conv => whnf)
 | (refine if_f (by simp; omega) ?_; conv => whnf)
 | (refine hL (k + 1) _ _ (by omega) (by omega) ?_ (HSub.refl _); repeat' (first | exact Sub.nil | (refine Sub.cons rfl rfl ?_)))
 | ((with_reducible apply OpK.more); (focus refine sok); (conv => whnf); fail_if_success guard_target =ₛ False)
 | with_reducible apply_assumption -symm -exfalso)
  · conv => whnf
    repeat' (first
 | with_reducible ((first | refine r_seq (fun KS hS => ?_) | (refine hS _ _ ?_; clear hS KS) | (refine hB _ ?_; clear hB KB)))
 | ((with_reducible (first | refine r_region ?_ | refine r_cond (fun KA hA KB hB => ?_) | refine r_ret ?_ | refine r_exit ?_)); conv => whnf)
 | ((with_reducible refine OpK.id ?_); refine OpK.nextS rfl rfl atG (fun h => absurd h hlt) (fun h => ?_); conv => whnf)
 | with_reducible apply_assumption -symm -exfalso)
    exact FinK.pu rfl
def nameOk (s : ByteArray) : Bool := decide (1 ≤ s.size) && decide (s.size ≤ 16) && s.data.toList.all alnum
theorem dw_nil {p : UInt8 → Bool} : ∀ {l : List UInt8}, l.dropWhile p = [] ↔ ∀ c ∈ l, p c = true
  | [] => by simp
  | c :: l => by
    rw [List.dropWhile_cons]
    split
    · rename_i h
      rw [dw_nil]
      simp [h]
    · rename_i h
      simp [h]
theorem strip_nil (l : List UInt8) : lstrip (rstrip l) = [] ↔ ∀ c ∈ l, alnum c = true := by
  constructor
  · intro h
    have h1 : ∀ c ∈ rstrip l, alnum c = true := by
      have : lstrip (rstrip l) = [] := h
      unfold lstrip at this
      exact fun c hc => dw_nil.1 this c hc
    intro c hc
    have h2 : l.reverse.dropWhile alnum = [] := by
      by_cases he : l.reverse.dropWhile alnum = []
      · exact he
      · have hh := List.head_dropWhile_not (p := alnum) (l := l.reverse) he
        have hm : (l.reverse.dropWhile alnum).head he ∈ rstrip l := by
          unfold rstrip
          rw [List.mem_reverse]
          exact List.head_mem he
        rw [h1 _ hm] at hh
        cases hh
    exact dw_nil.1 h2 c (by simpa using hc)
  · intro h
    have : rstrip l = [] := by
      unfold rstrip
      rw [dw_nil.2 (fun c hc => h c (by simpa using hc))]
      rfl
    rw [this]
    rfl
theorem name218 {s : ByteArray} (hs : s.size ≤ 1099511627776) (w : World) : Pu Tryz.prog 59 #[.string s] w (.bool (nameOk s)) := by
  refine enter_sound TBok Tryz.func59 rfl rfl Tryz.ntmps59 [.v (.string s)] (Kn.start w noS) rfl rfl ?_
  by_cases h1 : 1 ≤ s.size
  · by_cases h2 : s.size ≤ 16
    · by_cases h3 : ∀ c ∈ s.data.toList, alnum c = true
      · have e : (⟨(lstrip (rstrip s.data.toList)).toArray⟩ : ByteArray) = ⟨#[]⟩ := by rw [(strip_nil _).2 h3]
        conv => whnf
        repeat' (first
 | with_reducible ((first | refine r_seq (fun KS hS => ?_) | (refine hS _ _ ?_; clear hS KS)))
 | ((with_reducible (first | refine r_region ?_ | refine r_ret ?_ | refine And.intro rfl ?_)); conv => whnf)
 | ((with_reducible refine CallK.id ?_); (first | apply in294 | apply in322); rfl; rfl; rfl; intro A; conv => whnf)
 | ((with_reducible refine CallK.at 118 ?_); refine CallK.pu (fun w => trim293 hs (by omega) w) ?_; conv => whnf)
 | (refine if_decT e ?_; conv => whnf)
 | ((with_reducible refine CallK.at 266 ?_); refine CallK.pu (fun w => idx335 hs h3 w) ?_; conv => whnf)
 | (refine if_decT (by omega) ?_; conv => whnf))
        refine FinK.pu ?_
        have h4 : s.data.toList.all alnum = true := List.all_eq_true.2 h3
        simp [den, nameOk, h1, h2, h4]
      · have e : ¬ (⟨(lstrip (rstrip s.data.toList)).toArray⟩ : ByteArray) = ⟨#[]⟩ := by
          intro e
          apply h3
          rw [← strip_nil]
          have := congrArg (fun a => a.data.toList) e
          simpa using this
        conv => whnf
        repeat' (first
 | with_reducible ((first | refine r_seq (fun KS hS => ?_) | (refine hS _ _ ?_; clear hS KS)))
 | ((with_reducible (first | refine r_region ?_ | refine r_ret ?_)); conv => whnf)
 | ((with_reducible refine CallK.at 118 ?_); refine CallK.pu (fun w => trim293 hs (by omega) w) ?_; conv => whnf)
 | (refine if_decF e ?_; conv => whnf)
 | (refine if_decT (by omega) ?_; conv => whnf))
        refine FinK.pu ?_
        have h4 : s.data.toList.all alnum = false := by
          rw [Bool.eq_false_iff]
          exact fun h => h3 (List.all_eq_true.1 h)
        simp [den, nameOk, h4]
    · conv => whnf
      repeat' (first
 | with_reducible ((first | refine r_seq (fun KS hS => ?_) | (refine hS _ _ ?_; clear hS KS)))
 | ((with_reducible (first | refine r_region ?_ | refine r_ret ?_)); conv => whnf)
 | ((first | refine if_decT (by omega) ?_ | refine if_decF (by omega) ?_); conv => whnf))
      refine FinK.pu ?_
      simp [den, nameOk, h2]
  · conv => whnf
    repeat' (first
 | with_reducible ((first | refine r_seq (fun KS hS => ?_) | (refine hS _ _ ?_; clear hS KS)))
 | ((with_reducible (first | refine r_region ?_ | refine r_ret ?_)); conv => whnf)
 | (refine if_decF (by omega) ?_; conv => whnf))
    refine FinK.pu ?_
    simp [den, nameOk, h1]
theorem lt_le' (a b : ByteArray) : ltS a b = !leS b a := by rw [← ltS_le]; simp
theorem le_eps (x : ByteArray) : leS x ⟨#[]⟩ = decide (x = ⟨#[]⟩) := by
  rw [← ltS_le]
  by_cases h : x = ⟨#[]⟩
  · subst h; simp [OM.lt_irrefl]
  · have : ltS ⟨#[]⟩ x = true := OM.eps_lt h
    simp [this, h]
theorem alnum_eq (c : UInt8) : OM.alnumB c = alnum c := by
  have h : ∀ n : Nat, n < 256 → OM.alnumB (UInt8.ofNat n) = alnum (UInt8.ofNat n) := by decide +kernel
  have := h c.toNat (UInt8.toNat_lt c)
  rwa [UInt8.ofNat_toNat] at this
theorem nm_eq (s : ByteArray) : OM.nmOk s = nameOk s := by
  unfold OM.nmOk nameOk
  have : OM.alnumB = alnum := funext alnum_eq
  rw [this]
theorem name1059 {s : ByteArray} (hs : s.size ≤ 1099511627776) (w : World) : Pu Tryz.prog 59 #[.string s] w (.bool (OM.nmOk s)) := by
  rw [nm_eq]; exact name218 hs w
def cmpE (x y : ByteArray) : Int := if x = y then 0 else if x = OM.eps then 1 else if y = OM.eps then -1 else cmpS x y
theorem cmpE_lt {x y : ByteArray} : cmpE x y < 0 ↔ OM.endLt x y = true := by
  rw [OM.endLt_iff]
  unfold cmpE OM.below cmpS
  by_cases h1 : x = y
  · subst h1
    rw [if_pos rfl, OM.lt_irrefl]
    constructor
    · intro h; exact absurd h (by decide)
    · rintro ⟨h2, h3 | h3⟩
      · exact absurd h3 h2
      · cases h3
  · rw [if_neg h1]
    by_cases h2 : x = OM.eps
    · rw [if_pos h2]
      exact ⟨fun h => absurd h (by decide), fun h => absurd h2 h.1⟩
    · rw [if_neg h2]
      by_cases h3 : y = OM.eps
      · rw [if_pos h3]
        exact ⟨fun _ => ⟨h2, .inl h3⟩, fun _ => by decide⟩
      · rw [if_neg h3]
        cases h4 : ltS x y with
        | true => rw [if_pos rfl]; exact ⟨fun _ => ⟨h2, .inr rfl⟩, fun _ => by decide⟩
        | false =>
          rw [if_neg (by simp)]
          constructor
          · intro h; split at h <;> exact absurd h (by decide)
          · rintro ⟨_, h | h⟩
            · exact absurd h h3
            · cases h
theorem endCmp1116 {x y : ByteArray} (w : World) : Pu Tryz.prog 116 #[.string x, .string y] w (.int .i64 (cmpE x y)) := by
  refine enter_sound TBok Tryz.func116 rfl rfl Tryz.ntmps116 [.v (.string x), .v (.string y)] (Kn.start w noS) rfl rfl ?_
  conv => whnf
  repeat' (first
 | with_reducible ((first | refine r_seq (fun KS hS => ?_) | (refine hS _ _ ?_; clear hS KS) | (refine hA _ ?_; clear hA KA) | (refine hB _ ?_; clear hB KB) | refine r_block ?_))
 | ((with_reducible (first | refine r_region ?_ | refine r_cond (fun KA hA KB hB => ?_) | refine r_ret ?_ | refine r_skip ?_)); conv => whnf)
 | ((with_reducible refine CallK.at 117 ?_); refine CallK.pu (fun w => compare1117 w) ?_; conv => whnf)
 | (refine if_dec (fun h => ?_) (fun h => ?_); all_goals (conv => whnf))
 | with_reducible apply_assumption -symm -exfalso)
  all_goals (refine FinK.pu ?_; first | (simp [den, cmpE, OM.eps, *]; done) | (simp [den, cmpE, OM.eps, *]; intro e; simp_all))
theorem check1115 {r : OM.Rg} (hlo : r.lo.size ≤ 1099511627776) (hhi : r.hi.size ≤ 1099511627776) (w : World) : Pu Tryz.prog 115 #[.agg #[.string r.lo, .string r.hi]] w (.int .i64 (if r.ok = true then 0 else 2)) := by
  refine enter_sound TBok Tryz.func115 rfl rfl Tryz.ntmps115 [.agg [.v (.string r.lo), .v (.string r.hi)]] (Kn.start w noS) rfl rfl ?_
  conv => whnf
  repeat' (first
 | with_reducible ((first | refine r_seq (fun KS hS => ?_) | (refine hS _ _ ?_; clear hS KS) | (refine hA _ ?_; clear hA KA) | (refine hB _ ?_; clear hB KB) | refine r_block ?_))
 | ((with_reducible (first | refine r_region ?_ | refine r_cond (fun KA hA KB hB => ?_) | refine r_ret ?_ | refine r_skip ?_ | refine r_exit ?_ | refine And.intro rfl ?_ | intro b)); conv => whnf)
 | ((with_reducible refine WrapK.i64 ?_ ?_); (focus omega); conv => whnf)
 | ((with_reducible refine CallK.at 59 ?_); (first | refine CallK.pu (fun w => name1059 hlo w) ?_ | refine CallK.pu (fun w => name1059 hhi w) ?_); conv => whnf)
 | ((with_reducible refine OpK.id ?_); refine OpK.leS rfl rfl rfl ?_; conv => whnf)
 | ((with_reducible apply OpK.more); (focus refine sok); (conv => whnf); fail_if_success guard_target =ₛ False)
 | with_reducible (first | refine Rounds.step (fun KL hL => ?_) | refine r_rounds 100 ?_)
 | ((first | refine if_ndecT (by omega) ?_ | refine if_ndecF (by omega) ?_); conv => whnf)
 | ((first | refine if_ndec (fun h => ?_) (fun h => ?_) | refine if_cond (fun h => ?_) (fun h => ?_)); all_goals (conv => whnf))
 | with_reducible apply_assumption -symm -exfalso)
  all_goals (refine FinK.pu ?_; simp_all [den, OM.Rg.ok, OM.eqS, OM.eps, lt_le', le_eps])
theorem cmpE_dec {x y : ByteArray} : decide (cmpE x y < 0) = OM.endLt x y := by
  rw [Bool.eq_iff_iff, decide_eq_true_eq]; exact cmpE_lt
theorem in1058 : InSt 58 Tryz.f58 19 := InSt.mk' Tryz.func58 rfl Tryz.ntmps58
theorem has1023 {r : OM.Rg} {k : ByteArray} (hr : r.ok = true) (hlo : r.lo.size ≤ 1099511627776) (hhi : r.hi.size ≤ 1099511627776) (hk : k.size ≤ 1099511627776) (w : World) : Pu Tryz.prog 23 #[.agg #[.string r.lo, .string r.hi], .string k] w (.bool (r.has k)) := by
  have hc : ∀ w, Pu Tryz.prog 115 #[.agg #[.string r.lo, .string r.hi]] w (.int .i64 0) := fun w => by have := check1115 hlo hhi w; rwa [if_pos hr] at this
  refine enter_sound TBok Tryz.func23 rfl rfl Tryz.ntmps23 [.agg [.v (.string r.lo), .v (.string r.hi)], .v (.string k)] (Kn.start w noS) rfl rfl ?_
  conv => whnf
  repeat' (first
 | with_reducible ((first | refine r_seq (fun KS hS => ?_) | (refine hS _ _ ?_; clear hS KS) | (refine hA _ ?_; clear hA KA) | (refine hB _ ?_; clear hB KB) | refine r_block ?_))
 | ((with_reducible (first | refine r_region ?_ | refine r_cond (fun KA hA KB hB => ?_) | refine r_ret ?_ | refine r_skip ?_ | refine r_exit ?_ | refine And.intro rfl ?_ | intro b)); conv => whnf)
 | ((with_reducible refine WrapK.i64 ?_ ?_); (focus omega); conv => whnf)
 | (apply in1058; rfl; rfl; rfl; intro A; conv => whnf)
 | ((with_reducible refine CallK.id ?_); refine CallK.pu (fun w => hc w) ?_; conv => whnf)
 | ((with_reducible refine CallK.at 59 ?_); refine CallK.pu (fun w => name1059 hk w) ?_; conv => whnf)
 | ((with_reducible refine CallK.at 116 ?_); refine CallK.pu (fun w => endCmp1116 w) ?_; conv => whnf)
 | ((with_reducible refine OpK.id ?_); refine OpK.leS rfl rfl rfl ?_; conv => whnf)
 | ((with_reducible apply OpK.more); (focus refine sok); (conv => whnf); fail_if_success guard_target =ₛ False)
 | with_reducible (first | refine Rounds.step (fun KL hL => ?_) | refine r_rounds 100 ?_)
 | (refine if_cond (fun h => ?_) (fun h => ?_); all_goals (conv => whnf))
 | with_reducible apply_assumption -symm -exfalso)
  all_goals (refine FinK.pu ?_; simp_all [den, OM.Rg.has, cmpE_dec])
structure RSz (r : OM.Rg) : Prop where
  lo : r.lo.size ≤ 1099511627776
  hi : r.hi.size ≤ 1099511627776
theorem chk1115 {r : OM.Rg} (h : RSz r) {e : Int} (he : e = if r.ok = true then 0 else 2) (w : World) : Pu Tryz.prog 115 #[.agg #[.string r.lo, .string r.hi]] w (.int .i64 e) := by
  subst he; exact check1115 h.lo h.hi w
theorem max_sz {a b : ByteArray} (ha : a.size ≤ 1099511627776) (hb : b.size ≤ 1099511627776) : (if ltS a b = true then b else a).size ≤ 1099511627776 := by split <;> assumption
theorem meet1101 {a b : OM.Rg} (ha : a.ok = true) (hb : b.ok = true) (sa : RSz a) (sb : RSz b) (w : World) :
    Pu Tryz.prog 101 #[.agg #[.string a.lo, .string a.hi], .agg #[.string b.lo, .string b.hi]] w (.tuple #[.agg #[.string (if OM.meets a b = true then (OM.meet a b).lo else OM.eps), .string (if OM.meets a b = true then (OM.meet a b).hi else OM.eps)], .bool (OM.meets a b), .int .i64 0]) := by
  have hmt : OM.meets a b = (OM.meet a b).ok := by unfold OM.meets; rw [ha, hb]; simp
  rw [hmt]
  obtain ⟨m, hm⟩ : ∃ m, OM.meet a b = m := ⟨_, rfl⟩
  have hca : ∀ w, Pu Tryz.prog 115 #[.agg #[.string a.lo, .string a.hi]] w (.int .i64 0) := fun w => chk1115 sa (by rw [if_pos ha]) w
  have hcb : ∀ w, Pu Tryz.prog 115 #[.agg #[.string b.lo, .string b.hi]] w (.int .i64 0) := fun w => chk1115 sb (by rw [if_pos hb]) w
  have hml : m.lo = if ltS a.lo b.lo = true then b.lo else a.lo := by rw [← hm]; rfl
  have hmh : m.hi = if OM.endLt b.hi a.hi = true then b.hi else a.hi := by rw [← hm]; rfl
  have sm : RSz m := ⟨by rw [hml]; exact max_sz sa.lo sb.lo, by rw [hmh]; split <;> first | exact sb.hi | exact sa.hi⟩
  rw [hm]
  refine enter_sound TBok Tryz.func101 rfl rfl Tryz.ntmps101 [.agg [.v (.string a.lo), .v (.string a.hi)], .agg [.v (.string b.lo), .v (.string b.hi)]] (Kn.start w noS) rfl rfl ?_
  conv => whnf
  cases he : OM.endLt b.hi a.hi with
  | true =>
    rw [he, if_pos rfl] at hmh
    have hlt := cmpE_lt.2 he
    cases hok : m.ok with
    | true =>
      have hcm : ∀ w, Pu Tryz.prog 115 #[.agg #[.string (if ltS a.lo b.lo = true then b.lo else a.lo), .string b.hi]] w (.int .i64 0) := fun w => by rw [← hml, ← hmh]; exact chk1115 sm (by rw [hok]; rfl) w
      repeat' (first
 | with_reducible ((first | refine r_seq (fun KS hS => ?_) | (refine hS _ _ ?_; clear hS KS) | (refine hA _ ?_; clear hA KA) | (refine hB _ ?_; clear hB KB) | refine r_block ?_))
 | ((with_reducible (first | refine r_region ?_ | refine r_cond (fun KA hA KB hB => ?_) | refine r_ret ?_ | refine r_skip ?_ | refine r_exit ?_ | refine And.intro rfl ?_ | intro b)); conv => whnf)
 | ((with_reducible refine WrapK.i64 ?_ ?_); (focus omega); conv => whnf)
 | (apply in1058; rfl; rfl; rfl; intro A; conv => whnf)
 | ((with_reducible refine CallK.id ?_); (first | refine CallK.pu (fun w => hca w) ?_ | refine CallK.pu (fun w => hcb w) ?_ | refine CallK.pu (fun w => hcm w) ?_); conv => whnf)
 | ((with_reducible refine CallK.at 116 ?_); refine CallK.pu (fun w => endCmp1116 w) ?_; conv => whnf)
 | ((with_reducible refine OpK.id ?_); refine OpK.maxS rfl rfl rfl ?_; conv => whnf)
 | ((with_reducible apply OpK.more); (focus refine sok); (conv => whnf); fail_if_success guard_target =ₛ False)
 | with_reducible (first | refine Rounds.step (fun KL hL => ?_) | refine r_rounds 100 ?_)
 | (refine if_decT (by omega) ?_; conv => whnf)
 | with_reducible apply_assumption -symm -exfalso)
      all_goals (refine FinK.pu ?_; simp [den, denL, hml, hmh, OM.eps])
    | false =>
      have hcm : ∀ w, Pu Tryz.prog 115 #[.agg #[.string (if ltS a.lo b.lo = true then b.lo else a.lo), .string b.hi]] w (.int .i64 2) := fun w => by rw [← hml, ← hmh]; exact chk1115 sm (by rw [hok]; rfl) w
      repeat' (first
 | with_reducible ((first | refine r_seq (fun KS hS => ?_) | (refine hS _ _ ?_; clear hS KS) | (refine hA _ ?_; clear hA KA) | (refine hB _ ?_; clear hB KB) | refine r_block ?_))
 | ((with_reducible (first | refine r_region ?_ | refine r_cond (fun KA hA KB hB => ?_) | refine r_ret ?_ | refine r_skip ?_ | refine r_exit ?_ | refine And.intro rfl ?_ | intro b)); conv => whnf)
 | ((with_reducible refine WrapK.i64 ?_ ?_); (focus omega); conv => whnf)
 | (apply in1058; rfl; rfl; rfl; intro A; conv => whnf)
 | ((with_reducible refine CallK.id ?_); (first | refine CallK.pu (fun w => hca w) ?_ | refine CallK.pu (fun w => hcb w) ?_ | refine CallK.pu (fun w => hcm w) ?_); conv => whnf)
 | ((with_reducible refine CallK.at 116 ?_); refine CallK.pu (fun w => endCmp1116 w) ?_; conv => whnf)
 | ((with_reducible refine OpK.id ?_); refine OpK.maxS rfl rfl rfl ?_; conv => whnf)
 | ((with_reducible apply OpK.more); (focus refine sok); (conv => whnf); fail_if_success guard_target =ₛ False)
 | with_reducible (first | refine Rounds.step (fun KL hL => ?_) | refine r_rounds 100 ?_)
 | (refine if_decT (by omega) ?_; conv => whnf)
 | with_reducible apply_assumption -symm -exfalso)
      all_goals (refine FinK.pu ?_; simp [den, denL, hml, hmh, OM.eps])
  | false =>
    rw [he, if_neg (by simp)] at hmh
    have hlt : ¬ cmpE b.hi a.hi < 0 := fun h => by rw [cmpE_lt.1 h] at he; cases he
    cases hok : m.ok with
    | true =>
      have hcm : ∀ w, Pu Tryz.prog 115 #[.agg #[.string (if ltS a.lo b.lo = true then b.lo else a.lo), .string a.hi]] w (.int .i64 0) := fun w => by rw [← hml, ← hmh]; exact chk1115 sm (by rw [hok]; rfl) w
      repeat' (first
 | with_reducible ((first | refine r_seq (fun KS hS => ?_) | (refine hS _ _ ?_; clear hS KS) | (refine hA _ ?_; clear hA KA) | (refine hB _ ?_; clear hB KB) | refine r_block ?_))
 | ((with_reducible (first | refine r_region ?_ | refine r_cond (fun KA hA KB hB => ?_) | refine r_ret ?_ | refine r_skip ?_ | refine r_exit ?_ | refine And.intro rfl ?_ | intro b)); conv => whnf)
 | ((with_reducible refine WrapK.i64 ?_ ?_); (focus omega); conv => whnf)
 | (apply in1058; rfl; rfl; rfl; intro A; conv => whnf)
 | ((with_reducible refine CallK.id ?_); (first | refine CallK.pu (fun w => hca w) ?_ | refine CallK.pu (fun w => hcb w) ?_ | refine CallK.pu (fun w => hcm w) ?_); conv => whnf)
 | ((with_reducible refine CallK.at 116 ?_); refine CallK.pu (fun w => endCmp1116 w) ?_; conv => whnf)
 | ((with_reducible refine OpK.id ?_); refine OpK.maxS rfl rfl rfl ?_; conv => whnf)
 | ((with_reducible apply OpK.more); (focus refine sok); (conv => whnf); fail_if_success guard_target =ₛ False)
 | with_reducible (first | refine Rounds.step (fun KL hL => ?_) | refine r_rounds 100 ?_)
 | (refine if_decF (by omega) ?_; conv => whnf)
 | with_reducible apply_assumption -symm -exfalso)
      all_goals (refine FinK.pu ?_; simp [den, denL, hml, hmh, OM.eps])
    | false =>
      have hcm : ∀ w, Pu Tryz.prog 115 #[.agg #[.string (if ltS a.lo b.lo = true then b.lo else a.lo), .string a.hi]] w (.int .i64 2) := fun w => by rw [← hml, ← hmh]; exact chk1115 sm (by rw [hok]; rfl) w
      repeat' (first
 | with_reducible ((first | refine r_seq (fun KS hS => ?_) | (refine hS _ _ ?_; clear hS KS) | (refine hA _ ?_; clear hA KA) | (refine hB _ ?_; clear hB KB) | refine r_block ?_))
 | ((with_reducible (first | refine r_region ?_ | refine r_cond (fun KA hA KB hB => ?_) | refine r_ret ?_ | refine r_skip ?_ | refine r_exit ?_ | refine And.intro rfl ?_ | intro b)); conv => whnf)
 | ((with_reducible refine WrapK.i64 ?_ ?_); (focus omega); conv => whnf)
 | (apply in1058; rfl; rfl; rfl; intro A; conv => whnf)
 | ((with_reducible refine CallK.id ?_); (first | refine CallK.pu (fun w => hca w) ?_ | refine CallK.pu (fun w => hcb w) ?_ | refine CallK.pu (fun w => hcm w) ?_); conv => whnf)
 | ((with_reducible refine CallK.at 116 ?_); refine CallK.pu (fun w => endCmp1116 w) ?_; conv => whnf)
 | ((with_reducible refine OpK.id ?_); refine OpK.maxS rfl rfl rfl ?_; conv => whnf)
 | ((with_reducible apply OpK.more); (focus refine sok); (conv => whnf); fail_if_success guard_target =ₛ False)
 | with_reducible (first | refine Rounds.step (fun KL hL => ?_) | refine r_rounds 100 ?_)
 | (refine if_decF (by omega) ?_; conv => whnf)
 | with_reducible apply_assumption -symm -exfalso)
      all_goals (refine FinK.pu ?_; simp [den, denL, hml, hmh, OM.eps])
def EffOk (s t p : Int) : Prop := 1 ≤ s ∧ s ≤ 9999 ∧ 0 ≤ t ∧ t < 8 ∧ 1 ≤ p ∧ p ≤ 3
instance (s t p : Int) : Decidable (EffOk s t p) := inferInstanceAs (Decidable (_ ∧ _))
def ItemOk (s t p m : Int) (i : Bool) (g : Int) : Prop := 1 ≤ g ∧ g ≤ 7 ∧ ((m = 0 ∧ i = false ∧ EffOk s t p) ∨ (1 ≤ m ∧ m ≤ 64 ∧ s = 0 ∧ t = 0 ∧ p = 0))
instance (s t p m : Int) (i : Bool) (g : Int) : Decidable (ItemOk s t p m i g) := inferInstanceAs (Decidable (_ ∧ _))
theorem effOk94 {s t p : Int} (h : EffOk s t p) (w : World) : Pu Tryz.prog 130 #[.agg #[.int .i64 s, .int .i64 t, .int .i64 p]] w (.int .i64 0) := by
  obtain ⟨h1, h2, h3, h4, h5, h6⟩ := h
  refine enter_sound TBok Tryz.func130 rfl rfl Tryz.ntmps130 [.agg [.v (.int .i64 s), .v (.int .i64 t), .v (.int .i64 p)]] (Kn.start w noS) rfl rfl ?_
  conv => whnf
  repeat' (first
 | with_reducible ((first | refine r_seq (fun KS hS => ?_) | (refine hS _ _ ?_; clear hS KS) | (refine hB _ ?_; clear hB KB)))
 | ((with_reducible (first | refine r_region ?_ | refine r_cond (fun KA hA KB hB => ?_) | refine r_ret ?_ | refine r_skip ?_ | refine And.intro rfl ?_ | intro b)); conv => whnf)
 | (refine if_decF (by omega) ?_; conv => whnf)
 | with_reducible apply_assumption -symm -exfalso)
  exact FinK.pu rfl
theorem itemOk50 {s t p m : Int} {i : Bool} {g : Int} (h : ItemOk s t p m i g) (w : World) : Pu Tryz.prog 69 #[.agg #[.int .i64 s, .int .i64 t, .int .i64 p, .int .i64 m, .bool i, .int .i64 g]] w (.int .i64 0) := by
  obtain ⟨h1, h2, h3⟩ := h
  refine enter_sound TBok Tryz.func69 rfl rfl Tryz.ntmps69 [.agg [.v (.int .i64 s), .v (.int .i64 t), .v (.int .i64 p), .v (.int .i64 m), .v (.bool i), .v (.int .i64 g)]] (Kn.start w noS) rfl rfl ?_
  rcases h3 with ⟨rfl, rfl, h3⟩ | ⟨h3, h4, rfl, rfl, rfl⟩
  · conv => whnf
    repeat' (first
 | with_reducible ((first | refine r_seq (fun KS hS => ?_) | (refine hS _ _ ?_; clear hS KS) | (refine hA _ ?_; clear hA KA) | (refine hB _ ?_; clear hB KB) | refine r_block ?_))
 | ((with_reducible (first | refine r_region ?_ | refine r_cond (fun KA hA KB hB => ?_) | refine r_ret ?_ | refine And.intro rfl ?_ | intro b)); conv => whnf)
 | ((with_reducible refine CallK.at 130 ?_); refine CallK.pu (fun w => effOk94 h3 w) ?_; conv => whnf)
 | (refine if_decF (by omega) ?_; conv => whnf))
    exact FinK.pu rfl
  · conv => whnf
    repeat' (first
 | with_reducible ((first | refine r_seq (fun KS hS => ?_) | (refine hS _ _ ?_; clear hS KS) | (refine hB _ ?_; clear hB KB) | refine r_block ?_))
 | ((with_reducible (first | refine r_region ?_ | refine r_cond (fun KA hA KB hB => ?_) | refine r_ret ?_ | refine r_skip ?_ | refine And.intro rfl ?_ | intro b)); conv => whnf)
 | ((with_reducible apply OpK.more); (focus refine sok); (conv => whnf); fail_if_success guard_target =ₛ False)
 | (refine if_decF (by omega) ?_; conv => whnf)
 | with_reducible apply_assumption -symm -exfalso)
    exact FinK.pu rfl
def itemNum (s t p m : Int) (i : Bool) (g : Int) : Int := if m = 0 then (((s - 1) * 8 + t) * 3 + p - 1) * 7 + g else if i then (239976 + 2 * m - 1) * 7 + g else (239976 + 2 * m - 2) * 7 + g
def NumOk (a : Int) : Prop := -1152921504606846976 ≤ a ∧ a ≤ 1152921504606846976
theorem numOk131 {a : Int} (h : NumOk a) (w : World) : Pu Tryz.prog 191 #[.int .i64 a] w (.int .i64 0) := by
  unfold NumOk at h
  refine enter_sound TBok Tryz.func191 rfl rfl Tryz.ntmps191 [.v (.int .i64 a)] (Kn.start w noS) rfl rfl ?_
  conv => whnf
  repeat' (first
 | with_reducible ((first | refine r_seq (fun KS hS => ?_) | (refine hS _ _ ?_; clear hS KS) | (refine hB _ ?_; clear hB KB)))
 | ((with_reducible (first | refine r_region ?_ | refine r_cond (fun KA hA KB hB => ?_) | refine r_ret ?_ | refine r_skip ?_)); conv => whnf)
 | (refine if_decF (by omega) ?_; conv => whnf)
 | with_reducible apply_assumption -symm -exfalso)
  exact FinK.pu rfl
theorem _root_.Go.X.OldC.of_got {w : World} {b off : Nat} {cs : List SV} {t : TypeId} {f : Nat × Nat} {c : SV} (h : w.heap[b]? = some (.cells (denL cs).toArray t f)) (hc : cs[off]? = some c) : OldC w b off [c] := by
  refine ⟨_, _, _, h, fun j v hj => ?_⟩
  match j, hj with
  | 0, hj =>
    have : den c = v := by simpa [denL] using hj
    subst this
    rw [denL_eq, List.getElem?_toArray, List.getElem?_map, Nat.add_zero, hc]; rfl
  | j + 1, hj => simp [denL] at hj
theorem sameKey1190 {x k : ByteArray} {dl : Int} {q : Nat} {w : World} (hne : x ≠ k) (h : OldC w q 0 [.v (.string k)]) : Pu Tryz.prog 190 #[.agg #[.string x, .int .i64 dl], pv q] w (.bool false) := by
  refine enter_sound TBok Tryz.func190 rfl rfl Tryz.ntmps190 [.agg [.v (.string x), .v (.int .i64 dl)], .v (pv q)] (Kn.start w noS) rfl rfl ?_
  conv => whnf
  repeat' (first
 | with_reducible ((first | refine r_seq (fun KS hS => ?_) | (refine hS _ _ ?_; clear hS KS)))
 | ((with_reducible (first | refine r_region ?_ | refine r_ret ?_ | refine And.intro rfl ?_ | intro b)); conv => whnf)
 | ((with_reducible refine OpK.id ?_); (first | refine OpK.fap rfl rfl (h.pc id) ?_ | refine OpK.ldp rfl rfl (h.pc id) (List.cons_ne_nil _ _) ?_); conv => whnf))
  exact FinK.pu (by simp [den, hne])
theorem notIn1269 {L : List OM.Stp} {a : Option Addr} {cap q : Nat} {k : ByteArray} {w : World} (hr : RdS w 80 2 a L.length cap (stepCells L)) (hq : OldC w q 0 [.v (.string k)]) (hne : ∀ x ∈ L, x.key ≠ k) (hl : L.length ≤ 1000) :
    Pu Tryz.prog 269 #[.slice a L.length cap, .func (.func 190) #[] #[pv q]] w (.int .i64 (-1)) := by
  have hs := fun n' r H => Sees.old (c := ⟨Tryz.prog, TB, n', w, noS, r, TBok⟩) (H := H) hr.old
  refine enter_sound TBok Tryz.func269 rfl rfl Tryz.ntmps269 [.v (.slice a L.length cap), .fn 190 [.v (pv q)]] (Kn.start w noS) rfl rfl ?_
  conv => whnf
  repeat' (first
 | with_reducible ((first | refine r_seq (fun KS hS => ?_) | (refine hS _ _ ?_; clear hS KS) | refine r_block ?_))
 | ((with_reducible refine r_region ?_); conv => whnf))
  refine r_loop (α := Nat) (fun i => [(0, .v (.slice a L.length cap)), (1, .fn 190 [.v (pv q)]), (7, .v (.int .i64 (L.length : Nat))), (8, .v (.int .i64 (i : Nat)))]) (fun _ => []) (fun i => i ≤ L.length) (fun i => L.length - i) 0 (Nat.zero_le _) suG (HSub.none _) ?_
  intro i hi KL hL
  by_cases hlt : i < L.length
  · obtain ⟨y, hy⟩ : ∃ y, L[i]? = some y := ⟨_, List.getElem?_eq_getElem hlt⟩
    have hyk := hne y (List.mem_of_getElem? hy)
    repeat' (first
 | with_reducible ((first | refine r_seq (fun KS hS => ?_) | (refine hS _ _ ?_; clear hS KS) | (refine hA _ ?_; clear hA KA) | (refine hB _ ?_; clear hB KB) | refine r_block ?_))
 | ((with_reducible (first | refine r_region ?_ | refine r_cond (fun KA hA KB hB => ?_) | refine r_skip ?_)); conv => whnf)
 | ((with_reducible refine WrapK.i64 ?_ ?_); (focus omega); conv => whnf)
 | ((with_reducible refine OpK.id ?_); (first | refine OpK.idx (k := 2) rfl rfl rfl rfl rfl rfl rfl (hs _ _ _) (by omega) (by omega) (at_step hy) (fun b off hp => ?_) | refine OpK.ldp rfl rfl hp (List.cons_ne_nil _ _) ?_); conv => whnf)
 | ((with_reducible refine CallK.at 190 ?_); refine CallK.puW (fun ms w hk => sameKey1190 hyk (PC.oldC (hq.pc id) hk)) ?_; conv => whnf)
 | (refine hL (i + 1) _ _ (by show i + 1 ≤ _; omega) (by show L.length - (i + 1) < L.length - i; omega) suG (HSub.none _))
 | (refine if_decT (by omega) ?_; conv => whnf)
 | with_reducible apply_assumption -symm -exfalso)
  · obtain rfl : i = L.length := by omega
    repeat' (first
 | with_reducible ((first | refine r_seq (fun KS hS => ?_) | (refine hS _ _ ?_; clear hS KS) | (refine hB _ ?_; clear hB KB)))
 | ((with_reducible (first | refine r_region ?_ | refine r_cond (fun KA hA KB hB => ?_) | refine r_ret ?_ | refine r_exit ?_)); conv => whnf)
 | (refine if_decF (by omega) ?_; conv => whnf)
 | with_reducible apply_assumption -symm -exfalso)
    exact FinK.pu rfl
theorem in1188 : InSt 188 Tryz.f188 12 := InSt.mk' Tryz.func188 rfl Tryz.ntmps188
theorem notIn1189 {L : List OM.Stp} {a : Option Addr} {cap q : Nat} {k : ByteArray} {w : World} (hr : RdS w 80 2 a L.length cap (stepCells L)) (hq : OldC w q 0 [.v (.string k)]) (hne : ∀ x ∈ L, x.key ≠ k) (hl : L.length ≤ 1000) :
    Pu Tryz.prog 189 #[.slice a L.length cap, .func (.func 190) #[] #[pv q]] w (.bool false) := by
  have hs := fun n' r H => Sees.old (c := ⟨Tryz.prog, TB, n', w, noS, r, TBok⟩) (H := H) hr.old
  refine enter_sound TBok Tryz.func189 rfl rfl Tryz.ntmps189 [.v (.slice a L.length cap), .fn 190 [.v (pv q)]] (Kn.start w noS) rfl rfl ?_
  conv => whnf
  repeat' (first
 | with_reducible ((first | refine r_seq (fun KS hS => ?_) | (refine hS _ _ ?_; clear hS KS)))
 | ((with_reducible (first | refine r_region ?_ | refine r_ret ?_)); conv => whnf)
 | ((with_reducible refine CallK.at 269 ?_); refine CallK.puW (fun ms w hk => notIn1269 (Sees.rd (hs _ _ _) hk) (PC.oldC (hq.pc id) hk) hne hl) ?_; conv => whnf))
  exact FinK.pu rfl
theorem defn1127 {d : OM.Dfn} {a : Option Addr} {cap : Nat} {w : World} (hd : d.ok = true) (hr : RdS w 80 2 a d.steps.length cap (stepCells d.steps)) :
    Pu Tryz.prog 127 #[.agg #[.string d.name, .int .i64 d.retries, .int .i64 d.deadline, .slice a d.steps.length cap]] w (.int .i64 0) := by
  have hs := fun n' r H => Sees.old (c := ⟨Tryz.prog, TB, n', w, noS, r, TBok⟩) (H := H) hr.old
  obtain ⟨d1, d2, d3, d4, d5, d6, d7, d8⟩ := OM.Dfn.steps_pos hd
  have hnm : ∀ {s : ByteArray}, OM.nmOk s = true → ∀ w, Pu Tryz.prog 59 #[.string s] w (.bool true) := fun {s} h w => by
    have hsz : s.size ≤ 1099511627776 := by
      unfold OM.nmOk at h
      simp only [Bool.and_eq_true, decide_eq_true_eq] at h
      omega
    have := name1059 hsz w
    rwa [h] at this
  refine enter_sound TBok Tryz.func127 rfl rfl Tryz.ntmps127 [.agg [.v (.string d.name), .v (.int .i64 d.retries), .v (.int .i64 d.deadline), .v (.slice a d.steps.length cap)]] (Kn.start w noS) rfl rfl ?_
  conv => whnf
  repeat' (first
 | with_reducible ((first | refine r_seq (fun KS hS => ?_) | (refine hS _ _ ?_; clear hS KS) | (refine hB _ ?_; clear hB KB) | refine r_block ?_))
 | ((with_reducible (first | refine r_region ?_ | refine r_cond (fun KA hA KB hB => ?_) | refine r_ret ?_ | refine r_skip ?_ | refine And.intro rfl ?_ | intro b)); conv => whnf)
 | ((with_reducible refine WrapK.i64 ?_ ?_); (focus omega); conv => whnf)
 | (apply in1188; rfl; rfl; rfl; intro A; conv => whnf)
 | ((with_reducible refine CallK.id ?_); refine CallK.pu (fun w => hnm (s := d.name) d7 w) ?_; conv => whnf)
 | ((first | refine if_decT (by omega) ?_ | refine if_ndecF (by omega) ?_); conv => whnf)
 | with_reducible apply_assumption -symm -exfalso)
  refine r_loop (α := Nat) (fun i => [(33, .v (.int .i64 (i : Nat))), (32, .v (.int .i64 d.steps.length)), (31, .v (.slice a d.steps.length cap)), (1, .loc b 0 0)]) (fun i => [.blk 0 b [.v (.string d.name), .v (.int .i64 d.retries), .v (.int .i64 d.deadline), .v (.slice a d.steps.length cap)] 40]) (fun i => i ≤ d.steps.length) (fun i => d.steps.length - i) 0 (Nat.zero_le _) suG seG ?_
  intro i hi KL hL
  by_cases hlt : i < d.steps.length
  · obtain ⟨y, hy⟩ : ∃ y, d.steps[i]? = some y := ⟨_, List.getElem?_eq_getElem hlt⟩
    obtain ⟨y1, y2, y3, y4, y5⟩ := stepsOk_at d8 hy
    have hlen : (d.steps.take i).length = i := by rw [List.length_take]; omega
    repeat' (first
 | with_reducible ((first | refine r_seq (fun KS hS => ?_) | (refine hS _ _ ?_; clear hS KS) | (refine hA _ ?_; clear hA KA) | (refine hB _ ?_; clear hB KB) | refine r_block ?_))
 | ((with_reducible (first | refine r_region ?_ | refine r_cond (fun KA hA KB hB => ?_) | refine r_skip ?_ | refine And.intro rfl ?_ | intro b)); conv => whnf)
 | ((with_reducible refine WrapK.i64 ?_ ?_); (focus omega); conv => whnf)
 | ((with_reducible refine OpK.id ?_); (first | refine OpK.idx (k := 2) rfl rfl rfl rfl rfl rfl rfl (hs _ _ _) (by omega) (by omega) (at_step hy) (fun b off hp => ?_) | refine OpK.ldp rfl rfl hp (List.cons_ne_nil _ _) ?_ | refine OpK.slRF (k := 2) rfl rfl rfl rfl rfl rfl rfl (hs _ _ _) hi (fun a2 hs2 => ?_)); conv => whnf)
 | ((with_reducible refine CallK.id ?_); (first | (refine CallK.puW (fun ms w hk => by have h9 := notIn1189 (L := d.steps.take i) (a := a2) (cap := cap) (k := y.key) (w := w) (by rw [hlen, ← step_take]; exact hs2.rd hk) (OldC.of_got (hk.got lmG) rfl) (fun x hx => y1 x (by simpa using hx)) (by omega); rwa [hlen] at h9) ?_) | refine CallK.pu (fun w => hnm (s := y.key) y2 w) ?_); conv => whnf)
 | ((with_reducible refine CallK.at 191 ?_); refine CallK.pu (fun w => numOk131 ⟨y4, y5⟩ w) ?_; conv => whnf)
 | (refine hL (i + 1) _ _ (by show i + 1 ≤ _; omega) (by show d.steps.length - (i + 1) < d.steps.length - i; omega) suG seG)
 | ((first | refine if_decT (by omega) ?_ | refine if_decF (by omega) ?_); conv => whnf)
 | with_reducible apply_assumption -symm -exfalso)
  · obtain rfl : i = d.steps.length := by omega
    repeat' (first
 | with_reducible ((first | refine r_seq (fun KS hS => ?_) | (refine hS _ _ ?_; clear hS KS) | (refine hB _ ?_; clear hB KB)))
 | ((with_reducible (first | refine r_region ?_ | refine r_cond (fun KA hA KB hB => ?_) | refine r_ret ?_ | refine r_exit ?_)); conv => whnf)
 | (refine if_decF (by omega) ?_; conv => whnf)
 | with_reducible apply_assumption -symm -exfalso)
    exact FinK.pu rfl
abbrev sgc (s : OM.Sg) (a : Option Addr) (cap : Nat) : List SV := [.v (.string s.d.name), .v (.int .i64 s.d.retries), .v (.int .i64 s.d.deadline), .v (.slice a s.d.steps.length cap), .v (.int .i64 s.st), .v (.int .i64 s.at_), .v (.bool s.cancel), .v (.int .i64 s.tried), .v (.int .i64 s.began), .v (.int .i64 s.err)]
theorem in1067 : InSt 67 Tryz.f67 6 := InSt.mk' Tryz.func67 rfl Tryz.ntmps67
theorem in1128 : InSt 128 Tryz.f128 8 := InSt.mk' Tryz.func128 rfl Tryz.ntmps128
theorem in1192 : InSt 192 Tryz.f192 5 := InSt.mk' Tryz.func192 rfl Tryz.ntmps192
theorem budget1129 {t b : Int} (ht : 0 ≤ t ∧ t ≤ 21) (hb : 0 ≤ b ∧ b ≤ 2147483648) (w : World) : Pu Tryz.prog 129 #[.agg #[.int .i64 t, .int .i64 b]] w (.int .i64 0) := by
  refine enter_sound TBok Tryz.func129 rfl rfl Tryz.ntmps129 [.agg [.v (.int .i64 t), .v (.int .i64 b)]] (Kn.start w noS) rfl rfl ?_
  conv => whnf
  repeat' (first
 | with_reducible ((first | refine r_seq (fun KS hS => ?_) | (refine hS _ _ ?_; clear hS KS) | (refine hB _ ?_; clear hB KB)))
 | ((with_reducible (first | refine r_region ?_ | refine r_cond (fun KA hA KB hB => ?_) | refine r_ret ?_ | refine r_skip ?_ | refine And.intro rfl ?_ | intro b)); conv => whnf)
 | (apply in1192; rfl; rfl; rfl; intro A; conv => whnf)
 | ((first | refine if_decT (by omega) ?_ | refine if_ndecF (by omega) ?_); conv => whnf)
 | with_reducible apply_assumption -symm -exfalso)
  all_goals exact FinK.pu rfl
theorem saga1066 {s : OM.Sg} (h : OM.SOk s) {a : Option Addr} {cap : Nat} {w : World} (hr : RdS w 80 2 a s.d.steps.length cap (stepCells s.d.steps)) :
    Pu Tryz.prog 66 #[.agg (denL (sgc s a cap)).toArray] w (.int .i64 0) := by
  have hs := fun n' r H => Sees.old (c := ⟨Tryz.prog, TB, n', w, noS, r, TBok⟩) (H := H) hr.old
  have hd := OM.Dfn.steps_pos h.d
  have k1 := h.st
  have k2 := h.at0
  have k3 := h.atE
  have k4 := h.at1
  have k5 := h.can
  have k6 := h.err
  have k7 := h.err0
  refine enter_sound TBok Tryz.func66 rfl rfl Tryz.ntmps66 [.agg (sgc s a cap)] (Kn.start w noS) rfl rfl ?_
  conv => whnf
  have e : s.st = 1 ∨ s.st = 2 ∨ s.st = 3 ∨ s.st = 4 ∨ s.st = 5 := by omega
  have k8 : s.cancel = false ∨ (s.st ≠ 2 ∧ s.st ≠ 4) := by
    cases hc : s.cancel with
    | false => exact .inl rfl
    | true => exact .inr (k5 hc)
  clear k5
  cases hc : s.cancel
  all_goals rw [hc] at k8
  all_goals (rcases k8 with k8 | k8)
  all_goals (try (exact absurd k8 (by decide)))
  all_goals (rcases e with e | e | e | e | e)
  all_goals (
  repeat' (first
 | with_reducible ((first | refine r_seq (fun KS hS => ?_) | (refine hS _ _ ?_; clear hS KS) | (refine hA _ ?_; clear hA KA) | (refine hB _ ?_; clear hB KB) | refine r_block ?_))
 | ((with_reducible (first | refine r_region ?_ | refine r_cond (fun KA hA KB hB => ?_) | refine r_ret ?_ | refine r_skip ?_ | refine And.intro rfl ?_ | intro b)); conv => whnf)
 | ((with_reducible refine WrapK.i64 ?_ ?_); (focus omega); conv => whnf)
 | ((with_reducible refine CallK.id ?_); (first | apply in1067 | apply in1128); rfl; rfl; rfl; intro A; conv => whnf)
 | ((with_reducible refine CallK.at 127 ?_); refine CallK.puW (fun ms w hk => defn1127 h.d (Sees.rd (hs _ _ _) hk)) ?_; conv => whnf)
 | ((with_reducible refine CallK.at 129 ?_); refine CallK.pu (fun w => budget1129 h.tried h.began w) ?_; conv => whnf)
 | ((first | refine if_decT (by omega) ?_ | refine if_decF (by omega) ?_ | refine if_ndecT (by omega) ?_ | refine if_ndecF (by omega) ?_); conv => whnf)
 | (refine if_cond (fun h => ?_) (fun h => ?_); all_goals (conv => whnf))
 | with_reducible apply_assumption -symm -exfalso)
  )
  all_goals first | exact FinK.pu rfl | (exfalso; omega) | (exfalso; simp_all; done)
theorem big_ok {n m b : Nat} (h : n + m ≤ 1000000) (hb : b ≤ 100000) : (n + m) * (b + 1) ≤ 140737488355328 :=
  Nat.le_trans (Nat.mul_le_mul h (Nat.add_le_add_right hb 1)) (by decide)
theorem big1 {m b : Nat} (h : m ≤ 1000000) (hb : b ≤ 100000) : m * (b + 1) ≤ 140737488355328 :=
  Nat.le_trans (Nat.mul_le_mul h (Nat.add_le_add_right hb 1)) (by decide)
theorem cmpE_or (x y : ByteArray) : (cmpE x y < 0 ∧ OM.endLt x y = true) ∨ (¬ cmpE x y < 0 ∧ OM.endLt x y = false) := by
  cases h : OM.endLt x y with
  | true => exact .inl ⟨cmpE_lt.2 h, rfl⟩
  | false => exact .inr ⟨fun h' => (by rw [cmpE_lt.1 h'] at h; cases h), rfl⟩
theorem _root_.Go.X.HSub.addSl {i e k : Nat} {L' L : List Blk} (h : HSub L' L) : HSub (.ext i (SlA e k Option.none 0 0 []) :: L') L := fun w S hS =>
  let ⟨S', h1, h2⟩ := h w S hS
  ⟨fun k => False ∨ S' k, .cons (x := .ext i (SlA e k Option.none 0 0 [])) (S := fun _ => False) (.inl ⟨rfl, rfl, rfl, rfl⟩) (fun _ h => h.elim) h1 (fun _ h => h.elim), fun k hk => hk.elim False.elim (h2 k)⟩
def rgCells (L : List OM.Rg) : List Value := L.flatMap fun r => [.string r.lo, .string r.hi]
theorem without1158 {a b : OM.Rg} (ha : a.ok = true) (hb : b.ok = true) (sa : RSz a) (sb : RSz b) (w : World) :
    FrZ Tryz.prog 158 #[.agg #[.string a.lo, .string a.hi], .agg #[.string b.lo, .string b.hi]] w emp (fun z : Option Addr × Nat => .tuple #[.slice z.1 (OM.without a b).length z.2, .int .i64 0]) (fun z => SlA 37 2 z.1 (OM.without a b).length z.2 (rgCells (OM.without a b))) := by
  have hca : ∀ w, Pu Tryz.prog 115 #[.agg #[.string a.lo, .string a.hi]] w (.int .i64 0) := fun w => chk1115 sa (by rw [if_pos ha]) w
  have hcb : ∀ w, Pu Tryz.prog 115 #[.agg #[.string b.lo, .string b.hi]] w (.int .i64 0) := fun w => chk1115 sb (by rw [if_pos hb]) w
  have e1 := cmpE_or a.hi b.lo
  have e2 := cmpE_or b.hi a.hi
  obtain ⟨L, hL⟩ : ∃ L, OM.without a b = L := ⟨_, rfl⟩
  rw [hL]
  unfold OM.without OM.maxS at hL
  cases h1 : ltS a.lo b.lo
  all_goals rw [h1] at hL
  all_goals (rcases e1 with ⟨e1, h2⟩ | ⟨e1, h2⟩)
  all_goals (rcases e2 with ⟨e2, h3⟩ | ⟨e2, h3⟩)
  all_goals (rw [h2, h3] at hL; simp only [Bool.false_eq_true, if_false, if_true, List.nil_append, List.append_nil, List.cons_append] at hL; subst hL)
  all_goals (simp only [rgCells, List.length_cons, List.length_nil, List.flatMap_cons, List.flatMap_nil, List.cons_append, List.nil_append, List.append_nil, Nat.zero_add, Nat.reduceAdd])
  all_goals (refine enter_frZ TBok (H := []) emp_foot Tryz.func158 rfl rfl Tryz.ntmps158 [.agg [.v (.string a.lo), .v (.string a.hi)], .agg [.v (.string b.lo), .v (.string b.hi)]] rfl rfl ?_; intro S _ _; conv => whnf)
  all_goals (
  repeat' (first
 | with_reducible ((first | refine r_seq (fun KS hS => ?_) | (refine hS _ _ ?_; clear hS KS) | (refine hA _ ?_; clear hA KA) | (refine hB _ ?_; clear hB KB) | refine r_block ?_))
 | ((with_reducible (first | refine r_region ?_ | refine r_cond (fun KA hA KB hB => ?_) | refine r_ret ?_ | refine r_skip ?_ | refine r_exit ?_ | refine And.intro rfl ?_ | intro b)); conv => whnf)
 | ((with_reducible refine WrapK.i64 ?_ ?_); (focus omega); conv => whnf)
 | (apply in1058; rfl; rfl; rfl; intro A; conv => whnf)
 | ((with_reducible refine CallK.id ?_); (first | refine CallK.pu (fun w => hca w) ?_ | refine CallK.pu (fun w => hcb w) ?_); conv => whnf)
 | ((with_reducible refine CallK.at 116 ?_); refine CallK.pu (fun w => endCmp1116 w) ?_; conv => whnf)
 | ((with_reducible refine OpK.id ?_); (first | refine OpK.maxS rfl rfl rfl ?_ | (refine OpK.ltS rfl rfl rfl ?_; rw [h1]) | refine OpK.app0 (k := 2) rfl rfl rfl rfl rfl rfl rfl rfl (SrcK.slc rfl rfl lmG (Nat.le_refl _) rfl) (big1 (by omega) (by decide)) ?_); conv => whnf)
 | ((with_reducible refine OpK.id ?_); refine OpK.app (k := 2) rfl rfl rfl rfl rfl rfl rfl rfl atG (SrcK.slc rfl rfl lmG (Nat.le_refl _) rfl) (big_ok (by omega) (by decide)) (fun a3 cap3 => ?_); conv => whnf)
 | ((with_reducible apply OpK.more); (focus refine sok); (conv => whnf); fail_if_success guard_target =ₛ False)
 | with_reducible (first | refine Rounds.step (fun KL hL => ?_) | refine r_rounds 100 ?_)
 | ((first | refine if_decT (by omega) ?_ | refine if_decF (by omega) ?_); conv => whnf)
 | with_reducible apply_assumption -symm -exfalso)
  )
  all_goals (refine FinK.frZ (i := 0) (?_, ?_) ?_ ?_; rotate_left 2; rfl; first | exact HSub.addSl (HSub.none _) | (refine HSub.trans (HSub.ext (i := 0) (fun _ _ hx => ?_) HSub.nil) (HSub.pick atG); exact hx))
end Go.Proofs.YtjkmpaggfbghiaaGreatDoor

namespace Go.X
open Go
theorem one_steps {L : List OM.Stp} : ∀ u ∈ stepCells L, u.oneCell' = true := by
  intro u hu
  obtain ⟨x, _, hx⟩ := List.mem_flatMap.1 hu
  simp only [List.mem_cons, List.not_mem_nil, or_false] at hx
  rcases hx with rfl | rfl <;> rfl
end Go.X
namespace Go.Proofs.YtjkmpaggfbghiaaGreatDoor
open Go Go.X
theorem clone1261 {L : List OM.Stp} {a : Option Addr} {cap : Nat} {w : World} (hr : RdS w 80 2 a L.length cap (stepCells L)) (hlen : L.length ≤ 1000) :
    FrZ Tryz.prog 261 #[.slice a L.length cap] w emp (fun z : Option Addr × Nat => .slice z.1 L.length z.2) (fun z => SlA 80 2 z.1 L.length z.2 (stepCells L)) := by
  refine enter_frZ TBok (H := []) emp_foot Tryz.func261 rfl rfl Tryz.ntmps261 [.v (.slice a L.length cap)] rfl rfl ?_
  intro S hS _
  have sa := fun n' r H => Sees.old (c := ⟨Tryz.prog, TB, n', w, S, r, TBok⟩) (H := H) (hr.oldE hS)
  cases a with
  | none =>
    have h0 : L.length = 0 := by
      obtain ⟨T, h, _⟩ := hr
      rcases h with ⟨_, h, _⟩ | ⟨b, _, pre, post, fr, h, _⟩
      · exact h
      · cases h
    have hX : L = [] := List.eq_nil_of_length_eq_zero h0
    subst hX
    conv => whnf
    repeat' (first
 | with_reducible ((first | refine r_seq (fun KS hS => ?_) | (refine hS _ _ ?_; clear hS KS) | (refine hA _ ?_; clear hA KA)))
 | ((with_reducible (first | refine r_region ?_ | refine r_cond (fun KA hA KB hB => ?_) | refine r_ret ?_)); conv => whnf)
 | ((with_reducible refine OpK.id ?_); refine OpK.slNil rfl rfl rfl rfl rfl (.inl ⟨rfl, rfl⟩) ?_; conv => whnf))
    exact FinK.frZ (i := 0) (Option.none, 0) rfl (HSub.addSl (HSub.none _))
  | some ad =>
    conv => whnf
    repeat' (first
 | with_reducible ((first | refine r_seq (fun KS hS => ?_) | (refine hS _ _ ?_; clear hS KS) | (refine hB _ ?_; clear hB KB)))
 | ((with_reducible (first | refine r_region ?_ | refine r_cond (fun KA hA KB hB => ?_) | refine r_ret ?_ | refine r_skip ?_ | intro b)); conv => whnf)
 | ((with_reducible refine OpK.id ?_); (first | refine OpK.slNil rfl rfl rfl rfl rfl (.inl ⟨rfl, rfl⟩) ?_ | refine OpK.appS (k := 2) rfl rfl rfl rfl rfl rfl rfl rfl atG rfl (SrcK.sees rfl rfl (sa _ _ _) one_steps) (big_ok (by omega) (by decide)) (fun a2 cap2 => ?_)); conv => whnf)
 | with_reducible apply_assumption -symm -exfalso)
    exact FinK.frZ (i := 0) (a2, cap2) (by show Value.slice a2 (0 + L.length) cap2 = _; rw [Nat.zero_add]) (HSub.ext (fun _ _ hx => by rw [Nat.zero_add] at hx; exact hx) HSub.nil)
theorem dcopy1173 {d : OM.Dfn} {a : Option Addr} {cap : Nat} {w : World} (hr : RdS w 80 2 a d.steps.length cap (stepCells d.steps)) (hlen : d.steps.length ≤ 1000) :
    FrZ Tryz.prog 173 #[.agg #[.string d.name, .int .i64 d.retries, .int .i64 d.deadline, .slice a d.steps.length cap]] w emp (fun z : Option Addr × Nat => .agg #[.string d.name, .int .i64 d.retries, .int .i64 d.deadline, .slice z.1 d.steps.length z.2]) (fun z => SlA 80 2 z.1 d.steps.length z.2 (stepCells d.steps)) := by
  refine enter_frZ TBok (H := []) emp_foot Tryz.func173 rfl rfl Tryz.ntmps173 [.agg [.v (.string d.name), .v (.int .i64 d.retries), .v (.int .i64 d.deadline), .v (.slice a d.steps.length cap)]] rfl rfl ?_
  intro S hS _
  have sa := fun n' r H => Sees.old (c := ⟨Tryz.prog, TB, n', w, S, r, TBok⟩) (H := H) (hr.oldE hS)
  conv => whnf
  repeat' (first
 | with_reducible ((first | refine r_seq (fun KS hS => ?_) | (refine hS _ _ ?_; clear hS KS)))
 | ((with_reducible (first | refine r_region ?_ | refine r_ret ?_ | refine And.intro rfl ?_ | intro b)); conv => whnf)
 | ((with_reducible refine CallK.id ?_); refine CallK.fresh (fun ms w' hk => clone1261 (Sees.rd (sa _ _ _) hk) hlen) ?_; conv => whnf))
  refine FinK.frZ (i := 0) (?_, ?_) ?_ ?_
  rotate_left 2
  rfl
  refine HSub.trans (HSub.ext (i := 0) (fun _ _ hx => ?_) HSub.nil) (HSub.pick atG)
  exact hx
theorem scopy1113 {s : OM.Sg} {a : Option Addr} {cap : Nat} {w : World} (hr : RdS w 80 2 a s.d.steps.length cap (stepCells s.d.steps)) (hlen : s.d.steps.length ≤ 1000) :
    FrZ Tryz.prog 113 #[.agg (denL (sgc s a cap)).toArray] w emp (fun z : Option Addr × Nat => .agg (denL (sgc s z.1 z.2)).toArray) (fun z => SlA 80 2 z.1 s.d.steps.length z.2 (stepCells s.d.steps)) := by
  refine enter_frZ TBok (H := []) emp_foot Tryz.func113 rfl rfl Tryz.ntmps113 [.agg (sgc s a cap)] rfl rfl ?_
  intro S hS _
  have sa := fun n' r H => Sees.old (c := ⟨Tryz.prog, TB, n', w, S, r, TBok⟩) (H := H) (hr.oldE hS)
  conv => whnf
  repeat' (first
 | with_reducible ((first | refine r_seq (fun KS hS => ?_) | (refine hS _ _ ?_; clear hS KS)))
 | ((with_reducible (first | refine r_region ?_ | refine r_ret ?_ | refine And.intro rfl ?_ | intro b)); conv => whnf)
 | ((with_reducible refine CallK.id ?_); refine CallK.fresh (fun ms w' hk => dcopy1173 (d := s.d) (Sees.rd (sa _ _ _) hk) hlen) ?_; conv => whnf))
  refine FinK.frZ (i := 0) (?_, ?_) ?_ ?_
  rotate_left 2
  rfl
  refine HSub.trans (HSub.ext (i := 0) (fun _ _ hx => ?_) HSub.nil) (HSub.pick atG)
  exact hx
theorem in1271 : InSt 271 Tryz.f271 18 := InSt.mk' Tryz.func271 rfl Tryz.ntmps271
theorem in1272 : InSt 272 Tryz.f272 4 := InSt.mk' Tryz.func272 rfl Tryz.ntmps272
theorem in1273 : InSt 273 Tryz.f273 4 := InSt.mk' Tryz.func273 rfl Tryz.ntmps273
theorem in1314 : InSt 314 Tryz.f314 5 := InSt.mk' Tryz.func314 rfl Tryz.ntmps314
theorem in1315 : InSt 315 Tryz.f315 9 := InSt.mk' Tryz.func315 rfl Tryz.ntmps315
theorem bstart1200 {d : OM.Dfn} {now : Int} {a : Option Addr} {cap : Nat} {w : World} (hd : d.ok = true) (hr : RdS w 80 2 a d.steps.length cap (stepCells d.steps)) (hn : 0 ≤ now ∧ now ≤ 2147483648) :
    Pu Tryz.prog 200 #[.agg #[.string d.name, .int .i64 d.retries, .int .i64 d.deadline, .slice a d.steps.length cap], .int .i64 now] w (.tuple #[.agg #[.int .i64 0, .int .i64 now], .int .i64 0]) := by
  have hs := fun n' r H => Sees.old (c := ⟨Tryz.prog, TB, n', w, noS, r, TBok⟩) (H := H) hr.old
  refine enter_sound TBok Tryz.func200 rfl rfl Tryz.ntmps200 [.agg [.v (.string d.name), .v (.int .i64 d.retries), .v (.int .i64 d.deadline), .v (.slice a d.steps.length cap)], .v (.int .i64 now)] (Kn.start w noS) rfl rfl ?_
  conv => whnf
  repeat' (first
 | with_reducible ((first | refine r_seq (fun KS hS => ?_) | (refine hS _ _ ?_; clear hS KS) | (refine hA _ ?_; clear hA KA) | (refine hB _ ?_; clear hB KB) | refine r_block ?_))
 | ((with_reducible (first | refine r_region ?_ | refine r_cond (fun KA hA KB hB => ?_) | refine r_ret ?_ | refine r_skip ?_ | refine r_exit ?_ | refine And.intro rfl ?_ | intro b)); conv => whnf)
 | ((with_reducible refine WrapK.i64 ?_ ?_); (focus omega); conv => whnf)
 | ((with_reducible refine CallK.id ?_); (first | apply in1271 | apply in1272 | apply in1273 | apply in1314 | apply in1315 | apply in1192); rfl; rfl; rfl; intro A; conv => whnf)
 | ((with_reducible refine CallK.at 127 ?_); refine CallK.puW (fun ms w hk => defn1127 hd (Sees.rd (hs _ _ _) hk)) ?_; conv => whnf)
 | ((with_reducible apply OpK.more); (focus refine sok); (conv => whnf); fail_if_success guard_target =ₛ False)
 | with_reducible (first | refine Rounds.step (fun KL hL => ?_) | refine r_rounds 100 ?_)
 | ((first | refine if_decT (by omega) ?_ | refine if_ndecF (by omega) ?_); conv => whnf)
 | with_reducible apply_assumption -symm -exfalso)
  all_goals exact FinK.pu rfl
theorem start1151 {d : OM.Dfn} {now : Int} {a : Option Addr} {cap : Nat} {w : World} (hd : d.ok = true) (hr : RdS w 80 2 a d.steps.length cap (stepCells d.steps)) (hn : 0 ≤ now ∧ now ≤ 2147483648) :
    FrZ Tryz.prog 151 #[.agg #[.string d.name, .int .i64 d.retries, .int .i64 d.deadline, .slice a d.steps.length cap], .int .i64 now] w emp (fun z : Option Addr × Nat => .tuple #[.agg (denL (sgc ⟨d, 1, 0, false, 0, now, 0⟩ z.1 z.2)).toArray, .int .i64 0]) (fun z => SlA 80 2 z.1 d.steps.length z.2 (stepCells d.steps)) := by
  have hlen := (OM.Dfn.steps_pos hd).2.1
  refine enter_frZ TBok (H := []) emp_foot Tryz.func151 rfl rfl Tryz.ntmps151 [.agg [.v (.string d.name), .v (.int .i64 d.retries), .v (.int .i64 d.deadline), .v (.slice a d.steps.length cap)], .v (.int .i64 now)] rfl rfl ?_
  intro S hS _
  have hs := fun n' r H => Sees.old (c := ⟨Tryz.prog, TB, n', w, S, r, TBok⟩) (H := H) (hr.oldE hS)
  conv => whnf
  repeat' (first
 | with_reducible ((first | refine r_seq (fun KS hS => ?_) | (refine hS _ _ ?_; clear hS KS) | (refine hB _ ?_; clear hB KB)))
 | ((with_reducible (first | refine r_region ?_ | refine r_cond (fun KA hA KB hB => ?_) | refine r_ret ?_ | refine r_skip ?_ | refine And.intro rfl ?_ | intro b)); conv => whnf)
 | ((with_reducible refine CallK.at 127 ?_); refine CallK.puW (fun ms w hk => defn1127 hd (Sees.rd (hs _ _ _) hk)) ?_; conv => whnf)
 | ((with_reducible refine CallK.at 200 ?_); refine CallK.puW (fun ms w hk => bstart1200 hd (Sees.rd (hs _ _ _) hk) hn) ?_; conv => whnf)
 | ((with_reducible refine CallK.id ?_); refine CallK.fresh (fun ms w' hk => dcopy1173 (d := d) (Sees.rd (hs _ _ _) hk) (by omega)) ?_; conv => whnf)
 | ((with_reducible refine IK.id ?_); refine IK.bld rfl ?_; conv => whnf)
 | (apply r_any (id := 8); refine mixed; kernel_rfl; kernel_rfl; conv => whnf)
 | ((with_reducible ((first | refine InAt.mk (fun K' hK => ?_) | refine AnyAt.mk (fun K' hK => ?_) | (refine hK _ ?_; clear hK K') | (refine hK _ _ ?_; clear hK K')))); conv => whnf)
 | (refine And.intro ?_ ?_; all_goals (conv => whnf))
 | (refine if_decF (by omega) ?_; conv => whnf)
 | with_reducible apply_assumption -symm -exfalso)
  all_goals (refine FinK.frZ (i := 0) (?_, ?_) ?_ ?_; rotate_left 2; rfl; refine HSub.trans (HSub.ext (i := 0) (fun _ _ hx => ?_) HSub.nil) (HSub.pick atG); exact hx)
theorem cancel1152 {s : OM.Sg} (h : OM.SOk s) (h1 : s.st = 1) {a : Option Addr} {cap : Nat} {w : World} (hr : RdS w 80 2 a s.d.steps.length cap (stepCells s.d.steps)) :
    FrZ Tryz.prog 152 #[.agg (denL (sgc s a cap)).toArray] w emp (fun z : Option Addr × Nat => .tuple #[.agg (denL (sgc { s with cancel := true } z.1 z.2)).toArray, .int .i64 0]) (fun z => SlA 80 2 z.1 s.d.steps.length z.2 (stepCells s.d.steps)) := by
  have hlen := (OM.Dfn.steps_pos h.d).2.1
  refine enter_frZ TBok (H := []) emp_foot Tryz.func152 rfl rfl Tryz.ntmps152 [.agg (sgc s a cap)] rfl rfl ?_
  intro S hS _
  have hs := fun n' r H => Sees.old (c := ⟨Tryz.prog, TB, n', w, S, r, TBok⟩) (H := H) (hr.oldE hS)
  conv => whnf
  repeat' (first
 | with_reducible ((first | refine r_seq (fun KS hS => ?_) | (refine hS _ _ ?_; clear hS KS) | (refine hB _ ?_; clear hB KB)))
 | ((with_reducible (first | refine r_region ?_ | refine r_cond (fun KA hA KB hB => ?_) | refine r_ret ?_ | refine r_skip ?_ | refine And.intro rfl ?_ | intro b)); conv => whnf)
 | ((with_reducible refine CallK.at 66 ?_); refine CallK.puW (fun ms w hk => saga1066 h (Sees.rd (hs _ _ _) hk)) ?_; conv => whnf)
 | ((with_reducible refine CallK.id ?_); refine CallK.fresh (fun ms w' hk => scopy1113 (s := s) (Sees.rd (hs _ _ _) hk) (by omega)) ?_; conv => whnf)
 | (refine if_ndecF (by omega) ?_; conv => whnf)
 | with_reducible apply_assumption -symm -exfalso)
  all_goals (refine FinK.frZ (i := 0) (?_, ?_) ?_ ?_; rotate_left 2; rfl; refine HSub.trans (HSub.ext (i := 0) (fun _ _ hx => ?_) HSub.nil) (HSub.pick atG); exact hx)
theorem noCancel1152 {s : OM.Sg} (h : OM.SOk s) (h1 : s.st ≠ 1) {a : Option Addr} {cap : Nat} {w : World} (hr : RdS w 80 2 a s.d.steps.length cap (stepCells s.d.steps)) :
    Pu Tryz.prog 152 #[.agg (denL (sgc s a cap)).toArray] w (.tuple #[.agg #[.string ⟨#[]⟩, .int .i64 0, .int .i64 0, .slice none 0 0, .int .i64 0, .int .i64 0, .bool false, .int .i64 0, .int .i64 0, .int .i64 0], .int .i64 9]) := by
  have hs := fun n' r H => Sees.old (c := ⟨Tryz.prog, TB, n', w, noS, r, TBok⟩) (H := H) hr.old
  refine enter_sound TBok Tryz.func152 rfl rfl Tryz.ntmps152 [.agg (sgc s a cap)] (Kn.start w noS) rfl rfl ?_
  conv => whnf
  repeat' (first
 | with_reducible ((first | refine r_seq (fun KS hS => ?_) | (refine hS _ _ ?_; clear hS KS) | (refine hA _ ?_; clear hA KA) | (refine hB _ ?_; clear hB KB)))
 | ((with_reducible (first | refine r_region ?_ | refine r_cond (fun KA hA KB hB => ?_) | refine r_ret ?_ | refine r_skip ?_ | refine And.intro rfl ?_ | intro b)); conv => whnf)
 | ((with_reducible refine CallK.at 66 ?_); refine CallK.puW (fun ms w hk => saga1066 h (Sees.rd (hs _ _ _) hk)) ?_; conv => whnf)
 | (refine if_ndecT (by omega) ?_; conv => whnf)
 | with_reducible apply_assumption -symm -exfalso)
  all_goals exact FinK.pu rfl
theorem in1375 : InSt 375 Tryz.f375 4 := InSt.mk' Tryz.func375 rfl Tryz.ntmps375
theorem in1377 : InSt 377 Tryz.f377 4 := InSt.mk' Tryz.func377 rfl Tryz.ntmps377
theorem late1371 {s : OM.Sg} (h : OM.SOk s) {now : Int} {a : Option Addr} {cap : Nat} {w : World} (hr : RdS w 80 2 a s.d.steps.length cap (stepCells s.d.steps)) (hn : 0 ≤ now ∧ now ≤ 2147483648) :
    Pu Tryz.prog 371 #[.agg #[.int .i64 s.tried, .int .i64 s.began], .agg #[.string s.d.name, .int .i64 s.d.retries, .int .i64 s.d.deadline, .slice a s.d.steps.length cap], .int .i64 now] w (.tuple #[.bool (s.late now), .int .i64 0]) := by
  have hs := fun n' r H => Sees.old (c := ⟨Tryz.prog, TB, n', w, noS, r, TBok⟩) (H := H) hr.old
  have hd := OM.Dfn.steps_pos h.d
  have k1 := h.began
  have k2 := h.tried
  (refine enter_sound TBok Tryz.func371 rfl rfl Tryz.ntmps371 [.agg [.v (.int .i64 s.tried), .v (.int .i64 s.began)], .agg [.v (.string s.d.name), .v (.int .i64 s.d.retries), .v (.int .i64 s.d.deadline), .v (.slice a s.d.steps.length cap)], .v (.int .i64 now)] (Kn.start w noS) rfl rfl ?_; conv => whnf)
  all_goals (
  repeat' (first
 | with_reducible ((first | refine r_seq (fun KS hS => ?_) | (refine hS _ _ ?_; clear hS KS) | (refine hA _ ?_; clear hA KA) | (refine hB _ ?_; clear hB KB) | refine r_block ?_))
 | ((with_reducible (first | refine r_region ?_ | refine r_cond (fun KA hA KB hB => ?_) | refine r_ret ?_ | refine r_skip ?_ | refine r_exit ?_ | refine And.intro rfl ?_ | intro b)); conv => whnf)
 | ((with_reducible refine WrapK.i64 ?_ ?_); (focus omega); conv => whnf)
 | (apply r_any (id := 1); refine mixed; kernel_rfl; kernel_rfl; conv => whnf)
 | ((with_reducible refine CallK.id ?_); (first | apply in1271 | apply in1272 | apply in1273 | apply in1314 | apply in1315 | apply in1192 | apply in1375 | apply in1377); rfl; rfl; rfl; intro A; conv => whnf)
 | ((with_reducible refine CallK.at 127 ?_); refine CallK.puW (fun ms w hk => defn1127 h.d (Sees.rd (hs _ _ _) hk)) ?_; conv => whnf)
 | ((with_reducible refine CallK.at 129 ?_); refine CallK.pu (fun w => budget1129 h.tried h.began w) ?_; conv => whnf)
 | ((with_reducible apply OpK.more); (focus refine sok); (conv => whnf); fail_if_success guard_target =ₛ False)
 | with_reducible (first | refine Rounds.step (fun KL hL => ?_) | refine r_rounds 100 ?_)
 | ((with_reducible ((first | refine InAt.mk (fun K' hK => ?_) | refine AnyAt.mk (fun K' hK => ?_) | (refine hK _ ?_; clear hK K') | (refine hK _ _ ?_; clear hK K')))); conv => whnf)
 | (refine And.intro ?_ ?_; all_goals (conv => whnf))
 | ((first | refine if_decT (by omega) ?_ | refine if_ndecF (by omega) ?_); conv => whnf)
 | with_reducible apply_assumption -symm -exfalso)
  )
  all_goals (conv => whnf)
  all_goals (
  repeat' (first
 | with_reducible ((first | refine r_seq (fun KS hS => ?_) | (refine hS _ _ ?_; clear hS KS) | (refine hB _ ?_; clear hB KB)))
 | ((with_reducible (first | refine r_region ?_ | refine r_cond (fun KA hA KB hB => ?_) | refine r_ret ?_ | refine r_skip ?_ | refine And.intro rfl ?_)); conv => whnf)
 | ((with_reducible refine WrapK.i64 ?_ ?_); (focus omega); conv => whnf)
 | ((with_reducible ((first | refine InAt.mk (fun K' hK => ?_) | (refine hK _ ?_; clear hK K')))); conv => whnf)
 | (refine if_dec (fun h => ?_) (fun h => ?_); all_goals (conv => whnf))
 | with_reducible apply_assumption -symm -exfalso)
  )
  all_goals exact FinK.pu (by simp only [den, denL, Value.tuple.injEq, Array.mk.injEq, List.cons.injEq, Value.bool.injEq, and_true]; unfold OM.Sg.late; simp [*])
def againV (s : OM.Sg) : Value := if s.d.retries < s.tried then .tuple #[.agg #[.int .i64 0, .int .i64 0], .bool false, .int .i64 9] else .tuple #[.agg #[.int .i64 (s.tried + 1), .int .i64 s.began], .bool (decide (s.tried + 1 ≤ s.d.retries)), .int .i64 0]
theorem again1372 {s : OM.Sg} (h : OM.SOk s) {now : Int} {a : Option Addr} {cap : Nat} {w : World} (hr : RdS w 80 2 a s.d.steps.length cap (stepCells s.d.steps)) (hn : 0 ≤ now ∧ now ≤ 2147483648) (hl : s.late now = false) :
    Pu Tryz.prog 372 #[.agg #[.int .i64 s.tried, .int .i64 s.began], .agg #[.string s.d.name, .int .i64 s.d.retries, .int .i64 s.d.deadline, .slice a s.d.steps.length cap], .int .i64 now] w (againV s) := by
  have hs := fun n' r H => Sees.old (c := ⟨Tryz.prog, TB, n', w, noS, r, TBok⟩) (H := H) hr.old
  have hd := OM.Dfn.steps_pos h.d
  have k1 := h.began
  have k2 := h.tried
  obtain ⟨L, hL⟩ : ∃ L, againV s = L := ⟨_, rfl⟩
  rw [hL]
  unfold againV at hL
  have hlate1371 := fun w hr => late1371 (w := w) h hr hn (a := a) (cap := cap)
  rw [hl] at hlate1371
  rcases (by omega : s.d.retries < s.tried ∨ (¬ s.d.retries < s.tried ∧ s.tried + 1 ≤ s.d.retries) ∨ (¬ s.d.retries < s.tried ∧ ¬ s.tried + 1 ≤ s.d.retries)) with h1 | ⟨h1, h2⟩ | ⟨h1, h2⟩
  all_goals (first | rw [if_pos h1] at hL | (rw [if_neg h1] at hL; simp only [h2, decide_true, decide_false] at hL))
  all_goals subst hL
  all_goals (refine enter_sound TBok Tryz.func372 rfl rfl Tryz.ntmps372 [.agg [.v (.int .i64 s.tried), .v (.int .i64 s.began)], .agg [.v (.string s.d.name), .v (.int .i64 s.d.retries), .v (.int .i64 s.d.deadline), .v (.slice a s.d.steps.length cap)], .v (.int .i64 now)] (Kn.start w noS) rfl rfl ?_; conv => whnf)
  all_goals (
  repeat' (first
 | with_reducible ((first | refine r_seq (fun KS hS => ?_) | (refine hS _ _ ?_; clear hS KS) | (refine hA _ ?_; clear hA KA) | (refine hB _ ?_; clear hB KB)))
 | ((with_reducible (first | refine r_region ?_ | refine r_cond (fun KA hA KB hB => ?_) | refine r_ret ?_ | refine r_skip ?_ | refine And.intro rfl ?_ | intro b)); conv => whnf)
 | ((with_reducible refine WrapK.i64 ?_ ?_); (focus omega); conv => whnf)
 | ((with_reducible refine CallK.at 371 ?_); refine CallK.puW (fun ms w hk => hlate1371 w (Sees.rd (hs _ _ _) hk)) ?_; conv => whnf)
 | ((first | refine if_decT (by omega) ?_ | refine if_decF (by omega) ?_); conv => whnf)
 | with_reducible apply_assumption -symm -exfalso)
  )
  all_goals exact FinK.pu rfl
end Go.Proofs.YtjkmpaggfbghiaaGreatDoor
