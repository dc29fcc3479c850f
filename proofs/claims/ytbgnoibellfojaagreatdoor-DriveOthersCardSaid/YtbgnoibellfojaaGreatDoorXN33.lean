/- Contracts and lemmas for the claim (part XN33); no condition of its own. -/
import Derived.Test.YtbgnoibellfojaaGreatDoorXN32
import Derived.Test.YtbgnoibellfojaaGreatDoorXN7
import Derived.Test.YtbgnoibellfojaaGreatDoorXE36
set_option linter.all false
set_option linter.unusedVariables false
set_option linter.unusedSimpArgs false
set_option linter.unnecessarySimpa false
namespace Go.Proofs.YtbgnoibellfojaaGreatDoor
open Go Go.X
set_option maxRecDepth 100000
set_option maxHeartbeats 0
theorem r_stopB {c : Cx} {l : Array Oper} {d : Bool} {x y : Code} {E : Env} {H : List Blk} {k : KC} (h : StopR (Run c (.seq (.seq (.region 12 l d) x) y) E H k)) : Run c (.seq (.seq (.region 12 l d) x) y) E H k := h.get
theorem IK.catS {c : Cx} {o : Oper} {E : Env} {k : SV → Prop} {t t' : Nat} {x y : Operand} (ho : o.op = .binOp .add t x y t') {a b : ByteArray} (hx : opd E x = some (.v (.string a))) (hy : opd E y = some (.v (.string b))) (hb : a.size + b.size ≤ 9223372036854775807)
    (h : k (.v (.string (a ++ b)))) : IK c o E k := by
  refine ⟨.v (.string (a ++ b)), fun ms ac ha w => ?_, h⟩
  have e1 := ha.opd hx
  have e2 := ha.opd hy
  simp only [den] at e1 e2
  have hb' : ¬ ((9223372036854775807 : Int) < (a.size : Int) + (b.size : Int)) := by omega
  simp [execOp, ho, e1, e2, eqGuard, Go.binOp, Op.stringOp, IntKind.max, IntKind.bits, IntKind.signed, hb', den]
/-- a question that no driver takes, and an answer that no driver takes -/
structure BadQA (s t p m : Int) (i : Bool) (g : Int) (k0 k1 k2 k5 k6 : Int) (v : ByteArray) (j0 j1 j2 j5 j6 : Int) (u : ByteArray) : Prop where
  question : ∃ (x1 x2 x3 x4 : Int) (x5 : Bool) (x6 : Int), ∀ {w : World} {d : Nat} {mp : Nat}, DAt w d 3 3 1 mp → KAt w → Pu Tryz.prog 41 #[pv d, .agg #[.int .i64 k0, .int .i64 k1, .int .i64 k2, .int .i64 0, .int .i64 0, .int .i64 k5, .int .i64 k6, .string v, .slice none 0 0]] w (.tuple #[.agg #[.int .i64 x1, .int .i64 x2, .int .i64 x3, .int .i64 x4, .bool x5, .int .i64 x6], .agg #[.int .i64 0, .int .i64 0, .int .i64 0, .int .i64 0, .int .i64 0, .int .i64 0, .string ⟨#[]⟩, .int .i64 0, .int .i64 0, .string ⟨#[]⟩, .string ⟨#[]⟩, .int .i64 0, .string ⟨#[]⟩, .int .i64 0, .int .i64 0, .slice none 0 0, .int .i64 0, .int .i64 0, .int .i64 0, .int .i64 0, .bool false, .int .i64 0, .int .i64 0, .string ⟨#[]⟩], .bool false])
  answer : ∀ {w : World} {d bi : Nat} {mp : Nat} {S0 : Nat → Prop}, Rdd w [.blk 9 bi [.v (.int .i64 s), .v (.int .i64 t), .v (.int .i64 p), .v (.int .i64 m), .v (.bool i), .v (.int .i64 g)] 48, .blk 3 d (DC 3 3 1 mp) 81] S0 → KAt w → Pu Tryz.prog 31 #[pv d, .agg #[.int .i64 j0, .int .i64 j1, .int .i64 j2, .int .i64 0, .int .i64 0, .int .i64 j5, .int .i64 j6, .string u, .slice none 0 0], .slice (some ⟨bi, 0, none⟩) 1 1] w (.tuple #[.agg #[.int .i64 0, .int .i64 0, .int .i64 0, .int .i64 0, .int .i64 0, .int .i64 0, .string ⟨#[]⟩, .int .i64 0, .int .i64 0, .string ⟨#[]⟩, .string ⟨#[]⟩, .int .i64 0, .string ⟨#[]⟩, .int .i64 0, .int .i64 0, .slice none 0 0, .int .i64 0, .int .i64 0, .int .i64 0, .int .i64 0, .bool false, .int .i64 0, .int .i64 0, .string ⟨#[]⟩], .bool false])
theorem num_leX {s t p m : Int} {i : Bool} {g : Int} {num : Nat} (h : ItemOk s t p m i g) (e : (num : Int) = itemNum s t p m i g) : 1 ≤ num ∧ num ≤ 1680728 := by
  unfold itemNum at e
  obtain ⟨h1, h2, h3⟩ := h
  rcases h3 with ⟨rfl, rfl, h3⟩ | ⟨h3, h4, rfl, rfl, rfl⟩
  · unfold EffOk at h3
    rw [if_pos rfl] at e
    omega
  · rw [if_neg (by omega)] at e
    cases i <;> simp at e <;> omega
theorem catZ (l : List UInt8) : ByteArray.mk l.toArray ++ ⟨#[0]⟩ = ⟨(l ++ [0]).toArray⟩ := by
  apply str_ext
  simp
theorem driveOthers7 {w : World} (hka : KAt w) {k how : Int} (hk : 0 ≤ k ∧ k ≤ 65535) (hhow : 0 ≤ how ∧ how ≤ 255) : Pu Tryz.prog 7 #[.int .u16 k, .int .u8 how] w (.bool true) := by
  obtain ⟨kd, key, dl, fr, data, num, enc, hC, hg2, hel, hB⟩ := itemForX hk
  have h26 := fun w => item26 (k := k) hk w
  generalize itS k = s at hC h26
  generalize itT k = t at hC h26
  generalize itP k = p at hC h26
  generalize itM k = m at hC h26
  generalize itI k = i at hC h26
  generalize itG k = g at hC h26 hg2
  have hI := hC.item
  have hN := hC.numEq
  have hg1 : 1 ≤ g := hI.1
  have hnb : 1 ≤ num ∧ num ≤ 1680728 := num_leX hI hN
  obtain ⟨to, hto⟩ : ∃ to : Nat, (to : Int) = g * 3 := ⟨(g * 3).toNat, by omega⟩
  have htog : (to : Int) / 3 = g := by omega
  obtain ⟨to2, hto2, hto2n, hto2b⟩ : ∃ to2 : Nat, ((to : Int) + 3).tmod 9 = (to2 : Int) ∧ (to2 : Int) / 3 ≠ g ∧ (to2 = 0 ∨ to2 = 6) := ⟨((to + 3) % 9), by rw [IntWalk.rem_in _ _ (by omega)]; omega, by omega, by omega⟩
  obtain ⟨r, hr, hrb⟩ : ∃ r : Int, how.tmod 6 = r ∧ 0 ≤ r ∧ r ≤ 5 := ⟨_, IntWalk.rem_in _ _ hhow.1, by omega, by omega⟩
  have hlen : (ByteArray.mk enc.toArray).size ≤ 65536 := hC.len
  have hlen4 : (ByteArray.mk (enc ++ [0]).toArray).size ≤ 65536 := by show (enc ++ [0]).length ≤ _; simp only [List.length_append, List.length_cons, List.length_nil]; omega
  have hzl : (ByteArray.mk (uvar 0 ++ uvar (zigN 0) ++ uvar (ByteArray.mk #[]).size ++ (ByteArray.mk #[]).data.toList).toArray).size ≤ 65536 := rlOk (e := 0) (rn := 0) (rx := ⟨#[]⟩) (by omega) (by omega) (by decide)
  have hzl4 : (uvar 0 ++ uvar (zigN 0) ++ uvar (ByteArray.mk #[]).size ++ (ByteArray.mk #[]).data.toList ++ [0]).length ≤ 65536 := by
    have h1 := uv1 (n := 0) (by omega)
    have h2 := uv1 (n := zigN 0) (by decide)
    have h3 : (ByteArray.mk #[]).size = 0 := rfl
    have h4 : (ByteArray.mk #[]).data.toList.length = 0 := rfl
    rw [h3]
    simp only [List.length_append, List.length_cons, List.length_nil, h4]; omega
  have hcat1 : (ByteArray.mk enc.toArray).size + (ByteArray.mk #[0]).size ≤ 9223372036854775807 := by
    have h1 : (ByteArray.mk #[0]).size = 1 := rfl
    omega
  have hcat2 : (ByteArray.mk (uvar 0 ++ uvar (zigN 0) ++ uvar (ByteArray.mk #[]).size ++ (ByteArray.mk #[]).data.toList).toArray).size + (ByteArray.mk #[0]).size ≤ 9223372036854775807 := by
    have h1 : (ByteArray.mk #[0]).size = 1 := rfl
    omega
  have hb0 : BadQA s t p m i g (11 : Int) (2 : Int) ((to : Nat) : Int) (0 : Int) ((num : Nat) : Int) ⟨enc.toArray⟩ (10 : Int) ((to : Nat) : Int) (2 : Int) (0 : Int) ((num : Nat) : Int) ⟨(uvar 0 ++ uvar (zigN 0) ++ uvar (ByteArray.mk #[]).size ++ (ByteArray.mk #[]).data.toList).toArray⟩ := ⟨⟨_, _, _, _, _, _, fun {w d mp} hd hka => by exact qbad0 (f := 2) hd hka hI hN⟩, fun {w d bi mp S0} hd hka => by exact abad0 (f := to) (to := 2) hd hka⟩
  have hb1 : BadQA s t p m i g (10 : Int) (2 : Int) ((to : Nat) : Int) (0 : Int) (1680729 : Int) ⟨enc.toArray⟩ (11 : Int) ((to : Nat) : Int) (2 : Int) (0 : Int) (1680729 : Int) ⟨(uvar 0 ++ uvar (zigN 0) ++ uvar (ByteArray.mk #[]).size ++ (ByteArray.mk #[]).data.toList).toArray⟩ := ⟨⟨_, _, _, _, _, _, fun {w d mp} hd hka => by exact qbad1 (f := 2) hd hka⟩, fun {w d bi mp S0} hd hka => by exact abad1 (f := to) (to := 2) hd hka hI hN (by omega) (by omega) (by omega) hnb hzl (by omega)⟩
  have hb2 : BadQA s t p m i g (10 : Int) (9 : Int) ((to : Nat) : Int) (0 : Int) ((num : Nat) : Int) ⟨enc.toArray⟩ (11 : Int) (0 : Int) (2 : Int) (0 : Int) ((num : Nat) : Int) ⟨(uvar 0 ++ uvar (zigN 0) ++ uvar (ByteArray.mk #[]).size ++ (ByteArray.mk #[]).data.toList).toArray⟩ := ⟨⟨_, _, _, _, _, _, fun {w d mp} hd hka => by exact qbad2 (f := 9) hd hka hI hN (by omega) (by omega) (by omega) hnb hlen (by omega)⟩, fun {w d bi mp S0} hd hka => by exact abad3 (f := 0) (to := 2) hd hka hI hN (by omega) (by omega) (by omega) hnb hzl (by omega) (by show (0 : Int) / 3 ≠ g; omega)⟩
  have hb3 : BadQA s t p m i g (10 : Int) (2 : Int) ((to2 : Nat) : Int) (0 : Int) ((num : Nat) : Int) ⟨enc.toArray⟩ (11 : Int) ((to2 : Nat) : Int) (2 : Int) (0 : Int) ((num : Nat) : Int) ⟨(uvar 0 ++ uvar (zigN 0) ++ uvar (ByteArray.mk #[]).size ++ (ByteArray.mk #[]).data.toList).toArray⟩ := ⟨⟨_, _, _, _, _, _, fun {w d mp} hd hka => by exact qbad3 (f := 2) (to := to2) hd hka hI hN (by omega) (by omega) (by omega) hnb hlen (by omega) (by omega) (by omega) hto2n⟩, fun {w d bi mp S0} hd hka => by exact abad3 (f := to2) (to := 2) hd hka hI hN (by omega) (by omega) (by omega) hnb hzl (by omega) hto2n⟩
  have hb4 : BadQA s t p m i g (10 : Int) (2 : Int) ((to : Nat) : Int) (0 : Int) ((num : Nat) : Int) (ByteArray.mk enc.toArray ++ ⟨#[0]⟩) (11 : Int) ((to : Nat) : Int) (2 : Int) (0 : Int) ((num : Nat) : Int) (ByteArray.mk (uvar 0 ++ uvar (zigN 0) ++ uvar (ByteArray.mk #[]).size ++ (ByteArray.mk #[]).data.toList).toArray ++ ⟨#[0]⟩) := ⟨⟨_, _, _, _, _, _, fun {w d mp} hd hka => by rw [catZ]; exact qbad4 (f := 2) (v := ⟨#[]⟩) hd hka hI hN (by omega) (by omega) (by omega) hnb hlen4 (by omega) (by omega) (by omega) htog hB⟩, fun {w d bi mp S0} hd hka => by rw [catZ]; exact abad4 (f := to) (to := 2) (e := 0) (rn := 0) (rx := ⟨#[]⟩) hd hka hI hN (by omega) (by omega) (by omega) hnb (by omega) htog (by omega) (by unfold NumOk; decide) (by decide) hzl4⟩
  have hb5 : BadQA s t p m i g (10 : Int) (2 : Int) ((to : Nat) : Int) (1 : Int) ((num : Nat) : Int) ⟨enc.toArray⟩ (11 : Int) ((to : Nat) : Int) (2 : Int) (1 : Int) ((num : Nat) : Int) ⟨(uvar 0 ++ uvar (zigN 0) ++ uvar (ByteArray.mk #[]).size ++ (ByteArray.mk #[]).data.toList).toArray⟩ := ⟨⟨_, _, _, _, _, _, fun {w d mp} hd hka => by exact qbad5 (f := 2) hd hka hI hN (by omega) (by omega) (by omega) hnb⟩, fun {w d bi mp S0} hd hka => by exact abad5 (f := to) (to := 2) hd hka hI hN (by omega) (by omega) (by omega) hnb⟩
  have hato := @fun w d mp hd hka => answerToC18 hC (e := 0) (rn := 0) (rx := ⟨#[]⟩) (w := w) (d := d) (f := 2) (to := to) (n := 3) (gs := 3) (tk := 1) (mp := mp) hd hka (by omega) (by omega) (by omega) htog (by omega) (by omega) (by omega) (by unfold NumOk; decide) (by decide) hzl
  refine enter_sound TBok Tryz.func7 rfl rfl Tryz.ntmps7 [.v (.int .u16 k), .v (.int .u8 how)] (Kn.start w noS) rfl rfl ?_
  conv => whnf
  repeat' (first
    | (with_reducible refine r_stopB ?_)
    | ((with_reducible refine r_seq (fun KS hS => ?_)))
    | ((with_reducible refine r_region ?_); conv => whnf)
    | ((with_reducible refine r_cond (fun KA hA KB hB => ?_)); conv => whnf)
    | ((with_reducible refine hS _ _ ?_); clear hS KS)
    | ((with_reducible refine hA _ ?_); clear hA KA)
    | ((with_reducible refine hB _ ?_); clear hB KB)
    | ((with_reducible refine r_block ?_))
    | ((with_reducible refine r_ret ?_); conv => whnf)
    | ((with_reducible refine r_skip ?_); conv => whnf)
    | ((with_reducible refine r_exit ?_); conv => whnf)
    | ((with_reducible refine WrapK.i64 ?_ ?_); (focus omega); conv => whnf)
    | ((with_reducible refine And.intro rfl ?_); conv => whnf)
    | ((with_reducible intro b); conv => whnf)
    | ((with_reducible refine CallK.at 26 ?_); refine CallK.pu (fun w => h26 w) ?_; conv => whnf)
    | (refine newCall (n := 3) (gs := 3) (by omega) (by omega) (fun z => ?_); conv => whnf)
    | (refine tickCall hC (n := 3) (gs := 3) (me := 2) (to := to) (by omega) (by omega) (by omega) hto (Sel.cons (by repeat (first | with_reducible apply Rm.head | apply Rm.tail)) (Sel.cons (by repeat (first | with_reducible apply Rm.head | apply Rm.tail)) (Sel.cons (by repeat (first | with_reducible apply Rm.head | apply Rm.tail)) Sel.nil))) ?_ ?_ (fun y => ?_); rfl; rfl; conv => whnf)
    | ((with_reducible refine CallK.id ?_); refine CallK.puW (fun ms w hkn => hato _ _ _ (hkn.got (by repeat (first | constructor | apply List.Mem.tail))) (hka.now (fun h => h) hkn)) ?_; conv => whnf)
    | ((with_reducible refine OpK.id ?_); refine OpK.idx (k := 9) rfl rfl rfl rfl rfl rfl rfl (Sees.ext (by repeat (first | with_reducible apply At.head | apply At.tail))) (by omega) (by omega) i9Q (fun b off hp => ?_); conv => whnf)
    | ((with_reducible refine QK.id ?_); refine QK.idx (k := 9) rfl rfl rfl rfl rfl rfl rfl (Sees.ext (by repeat (first | with_reducible apply At.head | apply At.tail))) (by omega) (by omega) i9Q (fun b off hp => ?_); conv => whnf)
    | ((with_reducible refine OpK.id ?_); refine OpK.fap rfl rfl (by assumption) ?_; conv => whnf)
    | ((with_reducible refine OpK.id ?_); refine OpK.ldp rfl rfl (by assumption) (List.cons_ne_nil _ _) ?_; conv => whnf)
    | ((with_reducible refine QK.id ?_); refine QK.ldp rfl rfl (by assumption) (List.cons_ne_nil _ _) ?_; conv => whnf)
    | ((with_reducible refine IK.id ?_); refine IK.fap rfl rfl ?_; conv => whnf)
    | ((with_reducible refine QK.id ?_); refine QK.ldp rfl rfl (PC.field _ (by assumption)) ?_ ?_; exact List.cons_ne_nil _ _; conv => whnf)
    | ((with_reducible refine QK.id ?_); refine QK.ldp rfl rfl (PC.drop (by assumption)) ?_ ?_; exact List.cons_ne_nil _ _; conv => whnf)
    | ((with_reducible refine OpK.id ?_); refine OpK.ldp rfl rfl (PC.field _ (by assumption)) ?_ ?_; exact List.cons_ne_nil _ _; conv => whnf)
    | ((with_reducible refine OpK.id ?_); refine OpK.ldp rfl rfl (PC.drop (by assumption)) ?_ ?_; exact List.cons_ne_nil _ _; conv => whnf)
    | ((with_reducible refine RemK.id ?_); refine RemK.eq (by omega) hr ?_; conv => whnf)
    | ((with_reducible apply OpK.more); (focus refine sok); (conv => whnf); fail_if_success guard_target =ₛ False)
    | ((with_reducible refine InAt.mk (fun K' hK => ?_)); conv => whnf)
    | ((with_reducible refine AnyAt.mk (fun K' hK => ?_)); conv => whnf)
    | ((with_reducible refine hK _ ?_); clear hK K'; conv => whnf)
    | ((with_reducible refine hK _ _ ?_); clear hK K'; conv => whnf)
    | ((refine And.intro ?_ ?_); all_goals (conv => whnf))
    | (apply r_quiet; refine mixed; kernel_rfl; kernel_rfl; kernel_rfl; conv => whnf)
    | ((refine if_t ?_ ?_); (focus decide); conv => whnf)
    | ((refine if_f ?_ ?_); (focus decide); conv => whnf)
    | ((refine if_decT ?_ ?_); (focus omega); conv => whnf)
    | ((refine if_decF ?_ ?_); (focus omega); conv => whnf)
    | ((refine if_ndecT ?_ ?_); (focus omega); conv => whnf)
    | ((refine if_ndecF ?_ ?_); (focus omega); conv => whnf)
    | ((refine if_dec (fun h => ?_) (fun h => ?_)); all_goals (conv => whnf))
    | ((refine if_ndec (fun h => ?_) (fun h => ?_)); all_goals (conv => whnf))
    | ((refine if_cond (fun h => ?_) (fun h => ?_)); all_goals (conv => whnf))
    | ((with_reducible apply_assumption -symm -exfalso)))
  refine ⟨?_⟩
  refine r_cutD (α := Nat × Nat × Nat × Int × Int × Int × Int × Int × ByteArray × Int × Int × Int × Int × Int × ByteArray) (fun x => match x with | (b5, b9, b10, k0, k1, k2, k5, k6, v, j0, j1, j2, j5, j6, u) => [(4, .v (.bool false)), (5, .loc b5 0 0), (6, .v (pv z.1)), (9, .loc b9 71 0), (10, .loc b10 72 0)]) (fun x => match x with | (b5, b9, b10, k0, k1, k2, k5, k6, v, j0, j1, j2, j5, j6, u) => [.blk 72 b10 [.v (.int .i64 j0), .v (.int .i64 j1), .v (.int .i64 j2), .v (.int .i64 0), .v (.int .i64 0), .v (.int .i64 j5), .v (.int .i64 j6), .v (.string u), .v (.slice none 0 0)] 26, .blk 71 b9 [.v (.int .i64 k0), .v (.int .i64 k1), .v (.int .i64 k2), .v (.int .i64 0), .v (.int .i64 0), .v (.int .i64 k5), .v (.int .i64 k6), .v (.string v), .v (.slice none 0 0)] 26, .blk 0 b5 [.v (.int .i64 s), .v (.int .i64 t), .v (.int .i64 p), .v (.int .i64 m), .v (.bool i), .v (.int .i64 g)] 48, .blk 3 z.1 (DC 3 3 1 z.2) 81]) (fun x => match x with | (b5, b9, b10, k0, k1, k2, k5, k6, v, j0, j1, j2, j5, j6, u) => BadQA s t p m i g k0 k1 k2 k5 k6 v j0 j1 j2 j5 j6 u) ?_ ?_
  · intro KL hL
    clear hato h26
    obtain rfl | rfl | rfl | rfl | rfl | rfl : r = 0 ∨ r = 1 ∨ r = 2 ∨ r = 3 ∨ r = 4 ∨ r = 5 := by omega
    · repeat' (first
    | ((with_reducible refine r_seq (fun KS hS => ?_)))
    | ((with_reducible refine r_region ?_); conv => whnf)
    | ((with_reducible refine r_cond (fun KA hA KB hB => ?_)); conv => whnf)
    | ((with_reducible refine hS _ _ ?_); clear hS KS)
    | ((with_reducible refine hA _ ?_); clear hA KA)
    | ((with_reducible refine hB _ ?_); clear hB KB)
    | ((with_reducible refine r_block ?_))
    | ((with_reducible refine r_ret ?_); conv => whnf)
    | ((with_reducible refine r_skip ?_); conv => whnf)
    | ((with_reducible refine r_exit ?_); conv => whnf)
    | ((with_reducible refine WrapK.i64 ?_ ?_); (focus omega); conv => whnf)
    | ((with_reducible refine And.intro rfl ?_); conv => whnf)
    | ((with_reducible intro b); conv => whnf)
    | ((with_reducible refine RemK.id ?_); refine RemK.eq (by omega) hr ?_; conv => whnf)
    | (refine if_t (by first | rfl | (simp; done) | (simp; omega)) ?_; conv => whnf)
    | (refine if_f (by first | rfl | (simp; done) | (simp; omega)) ?_; conv => whnf)
    | (refine hL (_, _, _, (11 : Int), (2 : Int), ((to : Nat) : Int), (0 : Int), ((num : Nat) : Int), ⟨enc.toArray⟩, (10 : Int), ((to : Nat) : Int), (2 : Int), (0 : Int), ((num : Nat) : Int), ⟨(uvar 0 ++ uvar (zigN 0) ++ uvar (ByteArray.mk #[]).size ++ (ByteArray.mk #[]).data.toList).toArray⟩) _ _ hb0 (by repeat' (first | exact SubD.nil | (refine SubD.cons rfl rfl ?_))) (by (try dsimp only [List.cons_append, List.nil_append, den, denL]); refine SelI.spec ?_; repeat (first | apply SelI.nil | refine SelI.blk (by repeat (first | with_reducible apply Rm.head | apply Rm.tail)) ?_ | refine SelI.ext (by repeat (first | with_reducible apply Rm.head | apply Rm.tail)) ?_ | (refine SelI.blk' (by repeat (first | with_reducible apply Rm.head | apply Rm.tail)) ?_ ?_; focus rfl) | (refine SelI.ext' (by repeat (first | with_reducible apply Rm.head | apply Rm.tail)) ?_ ?_; focus rfl))))
    | ((with_reducible apply OpK.more); (focus refine sok); (conv => whnf); fail_if_success guard_target =ₛ False)
    | ((with_reducible refine InAt.mk (fun K' hK => ?_)); conv => whnf)
    | ((with_reducible refine AnyAt.mk (fun K' hK => ?_)); conv => whnf)
    | ((with_reducible refine hK _ ?_); clear hK K'; conv => whnf)
    | ((with_reducible refine hK _ _ ?_); clear hK K'; conv => whnf)
    | ((refine And.intro ?_ ?_); all_goals (conv => whnf))
    | (apply r_quiet; refine mixed; kernel_rfl; kernel_rfl; kernel_rfl; conv => whnf)
    | ((refine if_t ?_ ?_); (focus decide); conv => whnf)
    | ((refine if_f ?_ ?_); (focus decide); conv => whnf)
    | ((refine if_decT ?_ ?_); (focus omega); conv => whnf)
    | ((refine if_decF ?_ ?_); (focus omega); conv => whnf)
    | ((refine if_ndecT ?_ ?_); (focus omega); conv => whnf)
    | ((refine if_ndecF ?_ ?_); (focus omega); conv => whnf)
    | ((refine if_dec (fun h => ?_) (fun h => ?_)); all_goals (conv => whnf))
    | ((refine if_ndec (fun h => ?_) (fun h => ?_)); all_goals (conv => whnf))
    | ((refine if_cond (fun h => ?_) (fun h => ?_)); all_goals (conv => whnf))
    | ((with_reducible apply_assumption -symm -exfalso)))
    · repeat' (first
    | ((with_reducible refine r_seq (fun KS hS => ?_)))
    | ((with_reducible refine r_region ?_); conv => whnf)
    | ((with_reducible refine r_cond (fun KA hA KB hB => ?_)); conv => whnf)
    | ((with_reducible refine hS _ _ ?_); clear hS KS)
    | ((with_reducible refine hA _ ?_); clear hA KA)
    | ((with_reducible refine hB _ ?_); clear hB KB)
    | ((with_reducible refine r_block ?_))
    | ((with_reducible refine r_ret ?_); conv => whnf)
    | ((with_reducible refine r_skip ?_); conv => whnf)
    | ((with_reducible refine r_exit ?_); conv => whnf)
    | ((with_reducible refine WrapK.i64 ?_ ?_); (focus omega); conv => whnf)
    | ((with_reducible refine And.intro rfl ?_); conv => whnf)
    | ((with_reducible intro b); conv => whnf)
    | ((with_reducible refine RemK.id ?_); refine RemK.eq (by omega) hr ?_; conv => whnf)
    | (refine if_t (by first | rfl | (simp; done) | (simp; omega)) ?_; conv => whnf)
    | (refine if_f (by first | rfl | (simp; done) | (simp; omega)) ?_; conv => whnf)
    | (refine hL (_, _, _, (10 : Int), (2 : Int), ((to : Nat) : Int), (0 : Int), (1680729 : Int), ⟨enc.toArray⟩, (11 : Int), ((to : Nat) : Int), (2 : Int), (0 : Int), (1680729 : Int), ⟨(uvar 0 ++ uvar (zigN 0) ++ uvar (ByteArray.mk #[]).size ++ (ByteArray.mk #[]).data.toList).toArray⟩) _ _ hb1 (by repeat' (first | exact SubD.nil | (refine SubD.cons rfl rfl ?_))) (by (try dsimp only [List.cons_append, List.nil_append, den, denL]); refine SelI.spec ?_; repeat (first | apply SelI.nil | refine SelI.blk (by repeat (first | with_reducible apply Rm.head | apply Rm.tail)) ?_ | refine SelI.ext (by repeat (first | with_reducible apply Rm.head | apply Rm.tail)) ?_ | (refine SelI.blk' (by repeat (first | with_reducible apply Rm.head | apply Rm.tail)) ?_ ?_; focus rfl) | (refine SelI.ext' (by repeat (first | with_reducible apply Rm.head | apply Rm.tail)) ?_ ?_; focus rfl))))
    | ((with_reducible apply OpK.more); (focus refine sok); (conv => whnf); fail_if_success guard_target =ₛ False)
    | ((with_reducible refine InAt.mk (fun K' hK => ?_)); conv => whnf)
    | ((with_reducible refine AnyAt.mk (fun K' hK => ?_)); conv => whnf)
    | ((with_reducible refine hK _ ?_); clear hK K'; conv => whnf)
    | ((with_reducible refine hK _ _ ?_); clear hK K'; conv => whnf)
    | ((refine And.intro ?_ ?_); all_goals (conv => whnf))
    | (apply r_quiet; refine mixed; kernel_rfl; kernel_rfl; kernel_rfl; conv => whnf)
    | ((refine if_t ?_ ?_); (focus decide); conv => whnf)
    | ((refine if_f ?_ ?_); (focus decide); conv => whnf)
    | ((refine if_decT ?_ ?_); (focus omega); conv => whnf)
    | ((refine if_decF ?_ ?_); (focus omega); conv => whnf)
    | ((refine if_ndecT ?_ ?_); (focus omega); conv => whnf)
    | ((refine if_ndecF ?_ ?_); (focus omega); conv => whnf)
    | ((refine if_dec (fun h => ?_) (fun h => ?_)); all_goals (conv => whnf))
    | ((refine if_ndec (fun h => ?_) (fun h => ?_)); all_goals (conv => whnf))
    | ((refine if_cond (fun h => ?_) (fun h => ?_)); all_goals (conv => whnf))
    | ((with_reducible apply_assumption -symm -exfalso)))
    · repeat' (first
    | ((with_reducible refine r_seq (fun KS hS => ?_)))
    | ((with_reducible refine r_region ?_); conv => whnf)
    | ((with_reducible refine r_cond (fun KA hA KB hB => ?_)); conv => whnf)
    | ((with_reducible refine hS _ _ ?_); clear hS KS)
    | ((with_reducible refine hA _ ?_); clear hA KA)
    | ((with_reducible refine hB _ ?_); clear hB KB)
    | ((with_reducible refine r_block ?_))
    | ((with_reducible refine r_ret ?_); conv => whnf)
    | ((with_reducible refine r_skip ?_); conv => whnf)
    | ((with_reducible refine r_exit ?_); conv => whnf)
    | ((with_reducible refine WrapK.i64 ?_ ?_); (focus omega); conv => whnf)
    | ((with_reducible refine And.intro rfl ?_); conv => whnf)
    | ((with_reducible intro b); conv => whnf)
    | ((with_reducible refine RemK.id ?_); refine RemK.eq (by omega) hr ?_; conv => whnf)
    | (refine if_t (by first | rfl | (simp; done) | (simp; omega)) ?_; conv => whnf)
    | (refine if_f (by first | rfl | (simp; done) | (simp; omega)) ?_; conv => whnf)
    | (refine hL (_, _, _, (10 : Int), (9 : Int), ((to : Nat) : Int), (0 : Int), ((num : Nat) : Int), ⟨enc.toArray⟩, (11 : Int), (0 : Int), (2 : Int), (0 : Int), ((num : Nat) : Int), ⟨(uvar 0 ++ uvar (zigN 0) ++ uvar (ByteArray.mk #[]).size ++ (ByteArray.mk #[]).data.toList).toArray⟩) _ _ hb2 (by repeat' (first | exact SubD.nil | (refine SubD.cons rfl rfl ?_))) (by (try dsimp only [List.cons_append, List.nil_append, den, denL]); refine SelI.spec ?_; repeat (first | apply SelI.nil | refine SelI.blk (by repeat (first | with_reducible apply Rm.head | apply Rm.tail)) ?_ | refine SelI.ext (by repeat (first | with_reducible apply Rm.head | apply Rm.tail)) ?_ | (refine SelI.blk' (by repeat (first | with_reducible apply Rm.head | apply Rm.tail)) ?_ ?_; focus rfl) | (refine SelI.ext' (by repeat (first | with_reducible apply Rm.head | apply Rm.tail)) ?_ ?_; focus rfl))))
    | ((with_reducible apply OpK.more); (focus refine sok); (conv => whnf); fail_if_success guard_target =ₛ False)
    | ((with_reducible refine InAt.mk (fun K' hK => ?_)); conv => whnf)
    | ((with_reducible refine AnyAt.mk (fun K' hK => ?_)); conv => whnf)
    | ((with_reducible refine hK _ ?_); clear hK K'; conv => whnf)
    | ((with_reducible refine hK _ _ ?_); clear hK K'; conv => whnf)
    | ((refine And.intro ?_ ?_); all_goals (conv => whnf))
    | (apply r_quiet; refine mixed; kernel_rfl; kernel_rfl; kernel_rfl; conv => whnf)
    | ((refine if_t ?_ ?_); (focus decide); conv => whnf)
    | ((refine if_f ?_ ?_); (focus decide); conv => whnf)
    | ((refine if_decT ?_ ?_); (focus omega); conv => whnf)
    | ((refine if_decF ?_ ?_); (focus omega); conv => whnf)
    | ((refine if_ndecT ?_ ?_); (focus omega); conv => whnf)
    | ((refine if_ndecF ?_ ?_); (focus omega); conv => whnf)
    | ((refine if_dec (fun h => ?_) (fun h => ?_)); all_goals (conv => whnf))
    | ((refine if_ndec (fun h => ?_) (fun h => ?_)); all_goals (conv => whnf))
    | ((refine if_cond (fun h => ?_) (fun h => ?_)); all_goals (conv => whnf))
    | ((with_reducible apply_assumption -symm -exfalso)))
    · repeat' (first
    | ((with_reducible refine r_seq (fun KS hS => ?_)))
    | ((with_reducible refine r_region ?_); conv => whnf)
    | ((with_reducible refine r_cond (fun KA hA KB hB => ?_)); conv => whnf)
    | ((with_reducible refine hS _ _ ?_); clear hS KS)
    | ((with_reducible refine hA _ ?_); clear hA KA)
    | ((with_reducible refine hB _ ?_); clear hB KB)
    | ((with_reducible refine r_block ?_))
    | ((with_reducible refine r_ret ?_); conv => whnf)
    | ((with_reducible refine r_skip ?_); conv => whnf)
    | ((with_reducible refine r_exit ?_); conv => whnf)
    | ((with_reducible refine WrapK.i64 ?_ ?_); (focus omega); conv => whnf)
    | ((with_reducible refine And.intro rfl ?_); conv => whnf)
    | ((with_reducible intro b); conv => whnf)
    | ((with_reducible refine RemK.id ?_); refine RemK.eq (by omega) hto2 ?_; conv => whnf)
    | ((with_reducible refine RemK.id ?_); refine RemK.eq (by omega) hr ?_; conv => whnf)
    | (refine if_t (by first | rfl | (simp; done) | (simp; omega)) ?_; conv => whnf)
    | (refine if_f (by first | rfl | (simp; done) | (simp; omega)) ?_; conv => whnf)
    | (refine hL (_, _, _, (10 : Int), (2 : Int), ((to2 : Nat) : Int), (0 : Int), ((num : Nat) : Int), ⟨enc.toArray⟩, (11 : Int), ((to2 : Nat) : Int), (2 : Int), (0 : Int), ((num : Nat) : Int), ⟨(uvar 0 ++ uvar (zigN 0) ++ uvar (ByteArray.mk #[]).size ++ (ByteArray.mk #[]).data.toList).toArray⟩) _ _ hb3 (by repeat' (first | exact SubD.nil | (refine SubD.cons rfl rfl ?_))) (by (try dsimp only [List.cons_append, List.nil_append, den, denL]); refine SelI.spec ?_; repeat (first | apply SelI.nil | refine SelI.blk (by repeat (first | with_reducible apply Rm.head | apply Rm.tail)) ?_ | refine SelI.ext (by repeat (first | with_reducible apply Rm.head | apply Rm.tail)) ?_ | (refine SelI.blk' (by repeat (first | with_reducible apply Rm.head | apply Rm.tail)) ?_ ?_; focus rfl) | (refine SelI.ext' (by repeat (first | with_reducible apply Rm.head | apply Rm.tail)) ?_ ?_; focus rfl))))
    | ((with_reducible apply OpK.more); (focus refine sok); (conv => whnf); fail_if_success guard_target =ₛ False)
    | ((with_reducible refine InAt.mk (fun K' hK => ?_)); conv => whnf)
    | ((with_reducible refine AnyAt.mk (fun K' hK => ?_)); conv => whnf)
    | ((with_reducible refine hK _ ?_); clear hK K'; conv => whnf)
    | ((with_reducible refine hK _ _ ?_); clear hK K'; conv => whnf)
    | ((refine And.intro ?_ ?_); all_goals (conv => whnf))
    | (apply r_quiet; refine mixed; kernel_rfl; kernel_rfl; kernel_rfl; conv => whnf)
    | ((refine if_t ?_ ?_); (focus decide); conv => whnf)
    | ((refine if_f ?_ ?_); (focus decide); conv => whnf)
    | ((refine if_decT ?_ ?_); (focus omega); conv => whnf)
    | ((refine if_decF ?_ ?_); (focus omega); conv => whnf)
    | ((refine if_ndecT ?_ ?_); (focus omega); conv => whnf)
    | ((refine if_ndecF ?_ ?_); (focus omega); conv => whnf)
    | ((refine if_dec (fun h => ?_) (fun h => ?_)); all_goals (conv => whnf))
    | ((refine if_ndec (fun h => ?_) (fun h => ?_)); all_goals (conv => whnf))
    | ((refine if_cond (fun h => ?_) (fun h => ?_)); all_goals (conv => whnf))
    | ((with_reducible apply_assumption -symm -exfalso)))
    · repeat' (first
    | ((with_reducible refine r_seq (fun KS hS => ?_)))
    | ((with_reducible refine r_region ?_); conv => whnf)
    | ((with_reducible refine r_cond (fun KA hA KB hB => ?_)); conv => whnf)
    | ((with_reducible refine hS _ _ ?_); clear hS KS)
    | ((with_reducible refine hA _ ?_); clear hA KA)
    | ((with_reducible refine hB _ ?_); clear hB KB)
    | ((with_reducible refine r_block ?_))
    | ((with_reducible refine r_ret ?_); conv => whnf)
    | ((with_reducible refine r_skip ?_); conv => whnf)
    | ((with_reducible refine r_exit ?_); conv => whnf)
    | ((with_reducible refine WrapK.i64 ?_ ?_); (focus omega); conv => whnf)
    | ((with_reducible refine And.intro rfl ?_); conv => whnf)
    | ((with_reducible intro b); conv => whnf)
    | (apply r_any (id := 24); refine mixed; kernel_rfl; kernel_rfl; conv => whnf)
    | ((with_reducible refine IK.id ?_); refine IK.catS rfl rfl rfl hcat1 ?_; conv => whnf)
    | ((with_reducible refine IK.id ?_); refine IK.catS rfl rfl rfl hcat2 ?_; conv => whnf)
    | ((with_reducible refine OpK.id ?_); refine OpK.cat rfl rfl rfl hcat1 ?_; conv => whnf)
    | ((with_reducible refine OpK.id ?_); refine OpK.cat rfl rfl rfl hcat2 ?_; conv => whnf)
    | ((with_reducible refine RemK.id ?_); refine RemK.eq (by omega) hr ?_; conv => whnf)
    | (refine if_t (by first | rfl | (simp; done) | (simp; omega)) ?_; conv => whnf)
    | (refine if_f (by first | rfl | (simp; done) | (simp; omega)) ?_; conv => whnf)
    | (refine hL (_, _, _, (10 : Int), (2 : Int), ((to : Nat) : Int), (0 : Int), ((num : Nat) : Int), (ByteArray.mk enc.toArray ++ ⟨#[0]⟩), (11 : Int), ((to : Nat) : Int), (2 : Int), (0 : Int), ((num : Nat) : Int), (ByteArray.mk (uvar 0 ++ uvar (zigN 0) ++ uvar (ByteArray.mk #[]).size ++ (ByteArray.mk #[]).data.toList).toArray ++ ⟨#[0]⟩)) _ _ hb4 (by repeat' (first | exact SubD.nil | (refine SubD.cons rfl rfl ?_))) (by (try dsimp only [List.cons_append, List.nil_append, den, denL]); refine SelI.spec ?_; repeat (first | apply SelI.nil | refine SelI.blk (by repeat (first | with_reducible apply Rm.head | apply Rm.tail)) ?_ | refine SelI.ext (by repeat (first | with_reducible apply Rm.head | apply Rm.tail)) ?_ | (refine SelI.blk' (by repeat (first | with_reducible apply Rm.head | apply Rm.tail)) ?_ ?_; focus rfl) | (refine SelI.ext' (by repeat (first | with_reducible apply Rm.head | apply Rm.tail)) ?_ ?_; focus rfl))))
    | ((with_reducible apply OpK.more); (focus refine sok); (conv => whnf); fail_if_success guard_target =ₛ False)
    | ((with_reducible refine InAt.mk (fun K' hK => ?_)); conv => whnf)
    | ((with_reducible refine AnyAt.mk (fun K' hK => ?_)); conv => whnf)
    | ((with_reducible refine hK _ ?_); clear hK K'; conv => whnf)
    | ((with_reducible refine hK _ _ ?_); clear hK K'; conv => whnf)
    | ((refine And.intro ?_ ?_); all_goals (conv => whnf))
    | (apply r_quiet; refine mixed; kernel_rfl; kernel_rfl; kernel_rfl; conv => whnf)
    | ((refine if_t ?_ ?_); (focus decide); conv => whnf)
    | ((refine if_f ?_ ?_); (focus decide); conv => whnf)
    | ((refine if_decT ?_ ?_); (focus omega); conv => whnf)
    | ((refine if_decF ?_ ?_); (focus omega); conv => whnf)
    | ((refine if_ndecT ?_ ?_); (focus omega); conv => whnf)
    | ((refine if_ndecF ?_ ?_); (focus omega); conv => whnf)
    | ((refine if_dec (fun h => ?_) (fun h => ?_)); all_goals (conv => whnf))
    | ((refine if_ndec (fun h => ?_) (fun h => ?_)); all_goals (conv => whnf))
    | ((refine if_cond (fun h => ?_) (fun h => ?_)); all_goals (conv => whnf))
    | ((with_reducible apply_assumption -symm -exfalso)))
    · repeat' (first
    | ((with_reducible refine r_seq (fun KS hS => ?_)))
    | ((with_reducible refine r_region ?_); conv => whnf)
    | ((with_reducible refine r_cond (fun KA hA KB hB => ?_)); conv => whnf)
    | ((with_reducible refine hS _ _ ?_); clear hS KS)
    | ((with_reducible refine hA _ ?_); clear hA KA)
    | ((with_reducible refine hB _ ?_); clear hB KB)
    | ((with_reducible refine r_block ?_))
    | ((with_reducible refine r_ret ?_); conv => whnf)
    | ((with_reducible refine r_skip ?_); conv => whnf)
    | ((with_reducible refine r_exit ?_); conv => whnf)
    | ((with_reducible refine WrapK.i64 ?_ ?_); (focus omega); conv => whnf)
    | ((with_reducible refine And.intro rfl ?_); conv => whnf)
    | ((with_reducible intro b); conv => whnf)
    | ((with_reducible refine RemK.id ?_); refine RemK.eq (by omega) hr ?_; conv => whnf)
    | (refine if_t (by first | rfl | (simp; done) | (simp; omega)) ?_; conv => whnf)
    | (refine if_f (by first | rfl | (simp; done) | (simp; omega)) ?_; conv => whnf)
    | (refine hL (_, _, _, (10 : Int), (2 : Int), ((to : Nat) : Int), (1 : Int), ((num : Nat) : Int), ⟨enc.toArray⟩, (11 : Int), ((to : Nat) : Int), (2 : Int), (1 : Int), ((num : Nat) : Int), ⟨(uvar 0 ++ uvar (zigN 0) ++ uvar (ByteArray.mk #[]).size ++ (ByteArray.mk #[]).data.toList).toArray⟩) _ _ hb5 (by repeat' (first | exact SubD.nil | (refine SubD.cons rfl rfl ?_))) (by (try dsimp only [List.cons_append, List.nil_append, den, denL]); refine SelI.spec ?_; repeat (first | apply SelI.nil | refine SelI.blk (by repeat (first | with_reducible apply Rm.head | apply Rm.tail)) ?_ | refine SelI.ext (by repeat (first | with_reducible apply Rm.head | apply Rm.tail)) ?_ | (refine SelI.blk' (by repeat (first | with_reducible apply Rm.head | apply Rm.tail)) ?_ ?_; focus rfl) | (refine SelI.ext' (by repeat (first | with_reducible apply Rm.head | apply Rm.tail)) ?_ ?_; focus rfl))))
    | ((with_reducible apply OpK.more); (focus refine sok); (conv => whnf); fail_if_success guard_target =ₛ False)
    | ((with_reducible refine InAt.mk (fun K' hK => ?_)); conv => whnf)
    | ((with_reducible refine AnyAt.mk (fun K' hK => ?_)); conv => whnf)
    | ((with_reducible refine hK _ ?_); clear hK K'; conv => whnf)
    | ((with_reducible refine hK _ _ ?_); clear hK K'; conv => whnf)
    | ((refine And.intro ?_ ?_); all_goals (conv => whnf))
    | (apply r_quiet; refine mixed; kernel_rfl; kernel_rfl; kernel_rfl; conv => whnf)
    | ((refine if_t ?_ ?_); (focus decide); conv => whnf)
    | ((refine if_f ?_ ?_); (focus decide); conv => whnf)
    | ((refine if_decT ?_ ?_); (focus omega); conv => whnf)
    | ((refine if_decF ?_ ?_); (focus omega); conv => whnf)
    | ((refine if_ndecT ?_ ?_); (focus omega); conv => whnf)
    | ((refine if_ndecF ?_ ?_); (focus omega); conv => whnf)
    | ((refine if_dec (fun h => ?_) (fun h => ?_)); all_goals (conv => whnf))
    | ((refine if_ndec (fun h => ?_) (fun h => ?_)); all_goals (conv => whnf))
    | ((refine if_cond (fun h => ?_) (fun h => ?_)); all_goals (conv => whnf))
    | ((with_reducible apply_assumption -symm -exfalso)))
  clear hb0 hb1 hb2 hb3 hb4 hb5
  rintro ⟨b5, b9, b10, k0, k1, k2, k5, k6, v, j0, j1, j2, j5, j6, u⟩ hb
  dsimp only at hb ⊢
  obtain ⟨x1, x2, x3, x4, x5, x6, hqb⟩ := hb.question
  have hanb := @fun w d bi mp S0 hd hka => hb.answer (w := w) (d := d) (bi := bi) (mp := mp) (S0 := S0) hd hka
  have hsvb := @fun w d mp hd hka => serveB14 (w := w) (d := d) (n := 3) (gs := 3) (tk := 1) (mp := mp) hd hka (fun h1 h2 => hqb h1 h2)
  have hatb := @fun w d mp hd hka => ansToB18 (w := w) (d := d) (n := 3) (gs := 3) (tk := 1) (mp := mp) hd hka (fun h1 h2 => hqb h1 h2)
  clear hb hqb
  repeat' (first
    | ((with_reducible refine r_seq (fun KS hS => ?_)))
    | ((with_reducible refine r_region ?_); conv => whnf)
    | ((with_reducible refine r_cond (fun KA hA KB hB => ?_)); conv => whnf)
    | ((with_reducible refine hS _ _ ?_); clear hS KS)
    | ((with_reducible refine hA _ ?_); clear hA KA)
    | ((with_reducible refine hB _ ?_); clear hB KB)
    | ((with_reducible refine r_block ?_))
    | ((with_reducible refine r_ret ?_); conv => whnf)
    | ((with_reducible refine r_skip ?_); conv => whnf)
    | ((with_reducible refine r_exit ?_); conv => whnf)
    | ((with_reducible refine WrapK.i64 ?_ ?_); (focus omega); conv => whnf)
    | ((with_reducible refine And.intro rfl ?_); conv => whnf)
    | ((with_reducible intro b); conv => whnf)
    | ((with_reducible refine CallK.id ?_); refine CallK.puW (fun ms w hkn => hsvb _ _ _ (hkn.got (by repeat (first | constructor | apply List.Mem.tail))) (hka.now (fun h => h) hkn)) ?_; conv => whnf)
    | ((with_reducible refine CallK.id ?_); refine CallK.puW (fun ms w hkn => hatb _ _ _ (hkn.got (by repeat (first | constructor | apply List.Mem.tail))) (hka.now (fun h => h) hkn)) ?_; conv => whnf)
    | ((with_reducible refine CallK.id ?_); refine CallK.puW (fun ms w hk => (Kn.rdd hk (L := [.blk 9 _ [.v (.int .i64 s), .v (.int .i64 t), .v (.int .i64 p), .v (.int .i64 m), .v (.bool i), .v (.int .i64 g)] 48, .blk 3 _ (DC 3 3 1 _) 81]) trivial (by (try dsimp only [List.cons_append, List.nil_append, den, denL]); refine SelI.spec ?_; repeat (first | apply SelI.nil | refine SelI.blk (by repeat (first | with_reducible apply Rm.head | apply Rm.tail)) ?_ | refine SelI.ext (by repeat (first | with_reducible apply Rm.head | apply Rm.tail)) ?_ | (refine SelI.blk' (by repeat (first | with_reducible apply Rm.head | apply Rm.tail)) ?_ ?_; focus rfl) | (refine SelI.ext' (by repeat (first | with_reducible apply Rm.head | apply Rm.tail)) ?_ ?_; focus rfl)))).elim fun S' h => hanb _ _ _ _ _ h (hka.now (fun h => h) hk)) ?_; conv => whnf)
    | ((with_reducible refine CallK.at 29 ?_); refine CallK.pu (fun w => eqCmd29 w) ?_; conv => whnf)
    | ((with_reducible refine CallQ.at 29 ?_); refine CallQ.pu (fun w => eqCmd29 w) ?_; conv => whnf)
    | ((with_reducible refine CallK.at 30 ?_); refine CallK.pu (fun w => eqMsg30 w) ?_; conv => whnf)
    | ((with_reducible refine CallQ.at 30 ?_); refine CallQ.pu (fun w => eqMsg30 w) ?_; conv => whnf)
    | ((with_reducible refine CallK.at 10 ?_); refine CallK.puW (fun ms w hk => works10 (hka.now (fun h => h) hk)) ?_; conv => whnf)
    | ((with_reducible refine CallQ.at 10 ?_); refine CallQ.puW (fun ms w hk => works10 (hka.now (fun h => h) hk)) ?_; conv => whnf)
    | ((with_reducible refine QK.id ?_); (refine QK.neqV sok rfl rfl rfl ?_); conv => whnf)
    | ((with_reducible refine IK.id ?_); (refine IK.neqV sok rfl rfl rfl ?_); conv => whnf)
    | ((with_reducible refine QK.id ?_); (refine QK.bld rfl ?_); conv => whnf)
    | ((with_reducible refine IK.id ?_); (refine IK.bld rfl ?_); conv => whnf)
    | ((with_reducible refine QK.id ?_); (refine QK.eqV sok rfl rfl rfl ?_); conv => whnf)
    | ((with_reducible refine IK.id ?_); (refine IK.eqV sok rfl rfl rfl ?_); conv => whnf)
    | (refine if_t (by first | rfl | (simp; done) | (simp; omega)) ?_; conv => whnf)
    | (refine if_f (by first | rfl | (simp; done) | (simp; omega)) ?_; conv => whnf)
    | ((with_reducible apply OpK.more); (focus refine sok); (conv => whnf); fail_if_success guard_target =ₛ False)
    | ((with_reducible refine InAt.mk (fun K' hK => ?_)); conv => whnf)
    | ((with_reducible refine AnyAt.mk (fun K' hK => ?_)); conv => whnf)
    | ((with_reducible refine hK _ ?_); clear hK K'; conv => whnf)
    | ((with_reducible refine hK _ _ ?_); clear hK K'; conv => whnf)
    | ((refine And.intro ?_ ?_); all_goals (conv => whnf))
    | (apply r_quiet; refine mixed; kernel_rfl; kernel_rfl; kernel_rfl; conv => whnf)
    | ((refine if_t ?_ ?_); (focus decide); conv => whnf)
    | ((refine if_f ?_ ?_); (focus decide); conv => whnf)
    | ((refine if_decT ?_ ?_); (focus omega); conv => whnf)
    | ((refine if_decF ?_ ?_); (focus omega); conv => whnf)
    | ((refine if_ndecT ?_ ?_); (focus omega); conv => whnf)
    | ((refine if_ndecF ?_ ?_); (focus omega); conv => whnf)
    | ((refine if_dec (fun h => ?_) (fun h => ?_)); all_goals (conv => whnf))
    | ((refine if_ndec (fun h => ?_) (fun h => ?_)); all_goals (conv => whnf))
    | ((refine if_cond (fun h => ?_) (fun h => ?_)); all_goals (conv => whnf))
    | ((with_reducible apply_assumption -symm -exfalso)))
  all_goals exact FinK.pu rfl
end Go.Proofs.YtbgnoibellfojaaGreatDoor

