/- Lemmas for the claim (part 9); no condition of its own. -/
import Derived.Test.YtcafebjoanjgoaaGreatDoorVLC07
import Derived.Test.YtcafebjoanjgoaaGreatDoorVLC08
import Derived.Test.YtcafebjoanjgoaaGreatDoorVLC04
import Derived.Test.YtcafebjoanjgoaaGreatDoorVLC03
import Derived.Test.YtcafebjoanjgoaaGreatDoorVLC06
import Derived.RecoverIn
set_option linter.all false
set_option linter.unusedVariables false
set_option linter.unusedSimpArgs false
set_option linter.unnecessarySimpa false
set_option linter.all false
namespace Go.Proofs.YtcafebjoanjgoaaGreatDoor
open Go Go.X Go.Y Go.Shelf
theorem crcOk : CrcOk Tryz.prog 134 1 := {
  enters := enters_of Tryz.func134 (by kernel_rfl) rfl
  calls := by
    intro w tg fg vb vo m vc bs ht hb hl hm
    refine (Pu.calls (sum134 (w := w) (vc := vc) ⟨tg, fg, ht⟩ hb hl hm)).mono ?_
    rintro e w' ⟨rfl, hB⟩
    exact ⟨rfl, ⟨hB.os, hB.tape, hB.output, hB.size, fun k hk _ => hB.block k hk⟩, fun _ => False, fun _ h => h, fun _ h => h.elim⟩ }
end Go.Proofs.YtcafebjoanjgoaaGreatDoor

set_option linter.all false
set_option maxRecDepth 1000000
set_option maxHeartbeats 0
namespace Go.Proofs.YtcafebjoanjgoaaGreatDoor
open Go Go.X Go.Y
theorem fok {P : Program} {k : Nat} {fn : Func} {fl : List (Nat × List (Nat × Bool))} (h : P.funcs[k]? = some fn) (hb : fn.body.isSome = true) (hn : (fn.name == "runtime.NumGoroutine") = false) : ∃ fn', P.funcs[k]? = some fn' ∧ fn'.body = some (fiOf fn fl).body ∧ fn'.ntmps = (fiOf fn fl).n ∧ fn'.results.toList = (fiOf fn fl).rs ∧ (fn'.name == "runtime.NumGoroutine") = false := by
  refine ⟨fn, h, ?_, rfl, rfl, hn⟩
  cases h1 : fn.body with
  | none => rw [h1] at hb; cases hb
  | some b => simp [fiOf, h1]
theorem PTok : FOk Tryz.prog PT := (FOk.node (FOk.node (FOk.node (FOk.node (FOk.node (FOk.node (FOk.node (FOk.node FOk.leaf (fok (fl := _) Tryz.func3 rfl rfl) FOk.leaf) (fok (fl := _) Tryz.func5 rfl rfl) FOk.leaf) (fok (fl := _) Tryz.func6 rfl rfl) (FOk.node FOk.leaf (fok (fl := _) Tryz.func7 rfl rfl) FOk.leaf)) (fok (fl := _) Tryz.func8 rfl rfl) (FOk.node (FOk.node FOk.leaf (fok (fl := _) Tryz.func9 rfl rfl) FOk.leaf) (fok (fl := _) Tryz.func16 rfl rfl) (FOk.node FOk.leaf (fok (fl := _) Tryz.func17 rfl rfl) FOk.leaf))) (fok (fl := _) Tryz.func18 rfl rfl) (FOk.node (FOk.node (FOk.node FOk.leaf (fok (fl := _) Tryz.func21 rfl rfl) FOk.leaf) (fok (fl := _) Tryz.func22 rfl rfl) (FOk.node FOk.leaf (fok (fl := _) Tryz.func23 rfl rfl) FOk.leaf)) (fok (fl := _) Tryz.func24 rfl rfl) (FOk.node (FOk.node FOk.leaf (fok (fl := _) Tryz.func25 rfl rfl) FOk.leaf) (fok (fl := _) Tryz.func26 rfl rfl) (FOk.node FOk.leaf (fok (fl := _) Tryz.func27 rfl rfl) FOk.leaf)))) (fok (fl := _) Tryz.func28 rfl rfl) (FOk.node (FOk.node (FOk.node (FOk.node FOk.leaf (fok (fl := _) Tryz.func29 rfl rfl) FOk.leaf) (fok (fl := _) Tryz.func30 rfl rfl) (FOk.node FOk.leaf (fok (fl := _) Tryz.func31 rfl rfl) FOk.leaf)) (fok (fl := _) Tryz.func32 rfl rfl) (FOk.node (FOk.node FOk.leaf (fok (fl := _) Tryz.func33 rfl rfl) FOk.leaf) (fok (fl := _) Tryz.func34 rfl rfl) (FOk.node FOk.leaf (fok (fl := _) Tryz.func35 rfl rfl) FOk.leaf))) (fok (fl := _) Tryz.func36 rfl rfl) (FOk.node (FOk.node (FOk.node FOk.leaf (fok (fl := _) Tryz.func37 rfl rfl) FOk.leaf) (fok (fl := _) Tryz.func38 rfl rfl) (FOk.node FOk.leaf (fok (fl := _) Tryz.func40 rfl rfl) FOk.leaf)) (fok (fl := _) Tryz.func41 rfl rfl) (FOk.node (FOk.node FOk.leaf (fok (fl := _) Tryz.func42 rfl rfl) FOk.leaf) (fok (fl := _) Tryz.func44 rfl rfl) (FOk.node FOk.leaf (fok (fl := _) Tryz.func46 rfl rfl) FOk.leaf))))) (fok (fl := _) Tryz.func47 rfl rfl) (FOk.node (FOk.node (FOk.node (FOk.node (FOk.node FOk.leaf (fok (fl := _) Tryz.func48 rfl rfl) FOk.leaf) (fok (fl := _) Tryz.func54 rfl rfl) (FOk.node FOk.leaf (fok (fl := _) Tryz.func55 rfl rfl) FOk.leaf)) (fok (fl := _) Tryz.func57 rfl rfl) (FOk.node (FOk.node FOk.leaf (fok (fl := _) Tryz.func61 rfl rfl) FOk.leaf) (fok (fl := _) Tryz.func66 rfl rfl) (FOk.node FOk.leaf (fok (fl := _) Tryz.func67 rfl rfl) FOk.leaf))) (fok (fl := _) Tryz.func68 rfl rfl) (FOk.node (FOk.node (FOk.node FOk.leaf (fok (fl := _) Tryz.func69 rfl rfl) FOk.leaf) (fok (fl := _) Tryz.func70 rfl rfl) (FOk.node FOk.leaf (fok (fl := _) Tryz.func71 rfl rfl) FOk.leaf)) (fok (fl := _) Tryz.func72 rfl rfl) (FOk.node (FOk.node FOk.leaf (fok (fl := _) Tryz.func73 rfl rfl) FOk.leaf) (fok (fl := _) Tryz.func74 rfl rfl) (FOk.node FOk.leaf (fok (fl := _) Tryz.func75 rfl rfl) FOk.leaf)))) (fok (fl := _) Tryz.func76 rfl rfl) (FOk.node (FOk.node (FOk.node (FOk.node FOk.leaf (fok (fl := _) Tryz.func77 rfl rfl) FOk.leaf) (fok (fl := _) Tryz.func80 rfl rfl) (FOk.node FOk.leaf (fok (fl := _) Tryz.func82 rfl rfl) FOk.leaf)) (fok (fl := _) Tryz.func83 rfl rfl) (FOk.node (FOk.node FOk.leaf (fok (fl := _) Tryz.func84 rfl rfl) FOk.leaf) (fok (fl := _) Tryz.func86 rfl rfl) (FOk.node FOk.leaf (fok (fl := _) Tryz.func87 rfl rfl) FOk.leaf))) (fok (fl := _) Tryz.func88 rfl rfl) (FOk.node (FOk.node (FOk.node FOk.leaf (fok (fl := _) Tryz.func89 rfl rfl) FOk.leaf) (fok (fl := _) Tryz.func90 rfl rfl) (FOk.node FOk.leaf (fok (fl := _) Tryz.func91 rfl rfl) FOk.leaf)) (fok (fl := _) Tryz.func92 rfl rfl) (FOk.node (FOk.node FOk.leaf (fok (fl := _) Tryz.func93 rfl rfl) FOk.leaf) (fok (fl := _) Tryz.func94 rfl rfl) (FOk.node FOk.leaf (fok (fl := _) Tryz.func95 rfl rfl) FOk.leaf)))))) (fok (fl := _) Tryz.func96 rfl rfl) (FOk.node (FOk.node (FOk.node (FOk.node (FOk.node (FOk.node (FOk.node FOk.leaf (fok (fl := _) Tryz.func97 rfl rfl) FOk.leaf) (fok (fl := _) Tryz.func105 rfl rfl) FOk.leaf) (fok (fl := _) Tryz.func106 rfl rfl) (FOk.node FOk.leaf (fok (fl := _) Tryz.func107 rfl rfl) FOk.leaf)) (fok (fl := _) Tryz.func108 rfl rfl) (FOk.node (FOk.node FOk.leaf (fok (fl := _) Tryz.func109 rfl rfl) FOk.leaf) (fok (fl := _) Tryz.func110 rfl rfl) (FOk.node FOk.leaf (fok (fl := _) Tryz.func111 rfl rfl) FOk.leaf))) (fok (fl := _) Tryz.func123 rfl rfl) (FOk.node (FOk.node (FOk.node FOk.leaf (fok (fl := _) Tryz.func130 rfl rfl) FOk.leaf) (fok (fl := _) Tryz.func131 rfl rfl) (FOk.node FOk.leaf (fok (fl := _) Tryz.func132 rfl rfl) FOk.leaf)) (fok (fl := _) Tryz.func134 rfl rfl) (FOk.node (FOk.node FOk.leaf (fok (fl := _) Tryz.func135 rfl rfl) FOk.leaf) (fok (fl := _) Tryz.func136 rfl rfl) (FOk.node FOk.leaf (fok (fl := _) Tryz.func138 rfl rfl) FOk.leaf)))) (fok (fl := _) Tryz.func139 rfl rfl) (FOk.node (FOk.node (FOk.node (FOk.node FOk.leaf (fok (fl := _) Tryz.func141 rfl rfl) FOk.leaf) (fok (fl := _) Tryz.func144 rfl rfl) (FOk.node FOk.leaf (fok (fl := _) Tryz.func145 rfl rfl) FOk.leaf)) (fok (fl := _) Tryz.func146 rfl rfl) (FOk.node (FOk.node FOk.leaf (fok (fl := _) Tryz.func147 rfl rfl) FOk.leaf) (fok (fl := _) Tryz.func148 rfl rfl) (FOk.node FOk.leaf (fok (fl := _) Tryz.func149 rfl rfl) FOk.leaf))) (fok (fl := _) Tryz.func150 rfl rfl) (FOk.node (FOk.node (FOk.node FOk.leaf (fok (fl := _) Tryz.func151 rfl rfl) FOk.leaf) (fok (fl := _) Tryz.func152 rfl rfl) (FOk.node FOk.leaf (fok (fl := _) Tryz.func153 rfl rfl) FOk.leaf)) (fok (fl := _) Tryz.func154 rfl rfl) (FOk.node (FOk.node FOk.leaf (fok (fl := _) Tryz.func158 rfl rfl) FOk.leaf) (fok (fl := _) Tryz.func160 rfl rfl) (FOk.node FOk.leaf (fok (fl := _) Tryz.func161 rfl rfl) FOk.leaf))))) (fok (fl := _) Tryz.func162 rfl rfl) (FOk.node (FOk.node (FOk.node (FOk.node (FOk.node FOk.leaf (fok (fl := _) Tryz.func163 rfl rfl) FOk.leaf) (fok (fl := _) Tryz.func165 rfl rfl) (FOk.node FOk.leaf (fok (fl := _) Tryz.func175 rfl rfl) FOk.leaf)) (fok (fl := _) Tryz.func196 rfl rfl) (FOk.node (FOk.node FOk.leaf (fok (fl := _) Tryz.func197 rfl rfl) FOk.leaf) (fok (fl := _) Tryz.func198 rfl rfl) (FOk.node FOk.leaf (fok (fl := _) Tryz.func200 rfl rfl) FOk.leaf))) (fok (fl := _) Tryz.func201 rfl rfl) (FOk.node (FOk.node (FOk.node FOk.leaf (fok (fl := _) Tryz.func202 rfl rfl) FOk.leaf) (fok (fl := _) Tryz.func203 rfl rfl) (FOk.node FOk.leaf (fok (fl := _) Tryz.func205 rfl rfl) FOk.leaf)) (fok (fl := _) Tryz.func206 rfl rfl) (FOk.node (FOk.node FOk.leaf (fok (fl := _) Tryz.func207 rfl rfl) FOk.leaf) (fok (fl := _) Tryz.func208 rfl rfl) (FOk.node FOk.leaf (fok (fl := _) Tryz.func210 rfl rfl) FOk.leaf)))) (fok (fl := _) Tryz.func227 rfl rfl) (FOk.node (FOk.node (FOk.node (FOk.node FOk.leaf (fok (fl := _) Tryz.func234 rfl rfl) FOk.leaf) (fok (fl := _) Tryz.func235 rfl rfl) (FOk.node FOk.leaf (fok (fl := _) Tryz.func236 rfl rfl) FOk.leaf)) (fok (fl := _) Tryz.func237 rfl rfl) (FOk.node (FOk.node FOk.leaf (fok (fl := _) Tryz.func238 rfl rfl) FOk.leaf) (fok (fl := _) Tryz.func239 rfl rfl) (FOk.node FOk.leaf (fok (fl := _) Tryz.func249 rfl rfl) FOk.leaf))) (fok (fl := _) Tryz.func254 rfl rfl) (FOk.node (FOk.node (FOk.node FOk.leaf (fok (fl := _) Tryz.func266 rfl rfl) FOk.leaf) (fok (fl := _) Tryz.func267 rfl rfl) (FOk.node FOk.leaf (fok (fl := _) Tryz.func268 rfl rfl) FOk.leaf)) (fok (fl := _) Tryz.func283 rfl rfl) (FOk.node (FOk.node FOk.leaf (fok (fl := _) Tryz.func284 rfl rfl) FOk.leaf) (fok (fl := _) Tryz.func287 rfl rfl) (FOk.node FOk.leaf (fok (fl := _) Tryz.func328 rfl rfl) FOk.leaf)))))))
theorem ext0 : ∀ f k, extK f PG0.X = some k → extK' k = true → ∃ fn, Tryz.prog.funcs[f]? = some fn ∧ (fn.name == "runtime.NumGoroutine") = false ∧ fn.body.isNone = true ∧ Extern.findNext fn = none ∧ Extern.find fn = some (extE k) := by
  intro f k h hk
  have hm := extK_mem h
  simp only [PG0, List.mem_cons, Prod.mk.injEq, List.not_mem_nil, or_false] at hm
  rcases hm with ⟨rfl, rfl⟩ | ⟨rfl, rfl⟩ | ⟨rfl, rfl⟩ | ⟨rfl, rfl⟩ | ⟨rfl, rfl⟩ | ⟨rfl, rfl⟩
  · exact ⟨_, Tryz.func113, by kernel_rfl, by kernel_rfl, by kernel_rfl, by kernel_rfl⟩
  · exact ⟨_, Tryz.func133, by kernel_rfl, by kernel_rfl, by kernel_rfl, by kernel_rfl⟩
  · cases (show false = true from hk)
  · cases (show false = true from hk)
  · cases (show false = true from hk)
  · cases (show false = true from hk)
theorem inv0 : ∀ t m f, invF t m PG0.I = some f → ∀ v args w, (callMethod (.iface t v) m args).run Tryz.prog w = (callFunc f (#[v] ++ args)).run Tryz.prog w := by
  intro t m f h v args w
  have hm := invF_mem h
  simp only [PG0, PI, List.mem_cons, Prod.mk.injEq, List.not_mem_nil, or_false] at hm
theorem ins0 : ∀ f t j, extK f PG0.X = some (2 + 16 * t) → getT PG0.T t = some j → InsOk Tryz.prog f t j.size j.bytes := by
  intro f t j h hj
  have hm := extK_mem h
  simp only [PG0, List.mem_cons, Prod.mk.injEq, List.not_mem_nil, or_false] at hm
  rcases hm with ⟨rfl, hk⟩ | ⟨rfl, hk⟩ | ⟨rfl, hk⟩ | ⟨rfl, hk⟩ | ⟨rfl, hk⟩ | ⟨rfl, hk⟩
  · omega
  · omega
  · omega
  · omega
  · omega
  · omega
theorem srtI0 : ∀ f g t, extK f PG0.X = some (3 + 16 * t) → extK g PG0.X = some 5 → SrtI Tryz.prog f g t := by
  intro f g t h hg
  have hm := extK_mem h
  simp only [PG0, List.mem_cons, Prod.mk.injEq, List.not_mem_nil, or_false] at hm
  rcases hm with ⟨rfl, hk⟩ | ⟨rfl, hk⟩ | ⟨rfl, hk⟩ | ⟨rfl, hk⟩ | ⟨rfl, hk⟩ | ⟨rfl, hk⟩
  · omega
  · omega
  · obtain rfl : t = 3 := by omega
    have hn := extK_mem hg
    simp only [PG0, List.mem_cons, Prod.mk.injEq, List.not_mem_nil, or_false] at hn
    rcases hn with ⟨h1, h2⟩ | ⟨h1, h2⟩ | ⟨h1, h2⟩ | ⟨h1, h2⟩ | ⟨h1, h2⟩ | ⟨h1, h2⟩
    · omega
    · omega
    · omega
    · subst h1
      exact srtI_89_147
    · omega
    · omega
  · omega
  · omega
  · omega
theorem srtS0 : ∀ f g t, extK f PG0.X = some (6 + 16 * t) → extK g PG0.X = some 7 → SrtS Tryz.prog f g t := by
  intro f g t h hg
  have hm := extK_mem h
  simp only [PG0, List.mem_cons, Prod.mk.injEq, List.not_mem_nil, or_false] at hm
  rcases hm with ⟨rfl, hk⟩ | ⟨rfl, hk⟩ | ⟨rfl, hk⟩ | ⟨rfl, hk⟩ | ⟨rfl, hk⟩ | ⟨rfl, hk⟩
  · omega
  · omega
  · omega
  · omega
  · omega
  · omega
theorem crc0 : ∀ f t, extK f PG0.X = some (8 + 16 * t) → CrcOk Tryz.prog f t := by
  intro f t h
  have hm := extK_mem h
  simp only [PG0, List.mem_cons, Prod.mk.injEq, List.not_mem_nil, or_false] at hm
  rcases hm with ⟨rfl, hk⟩ | ⟨rfl, hk⟩ | ⟨rfl, hk⟩ | ⟨rfl, hk⟩ | ⟨rfl, hk⟩ | ⟨rfl, hk⟩
  · omega
  · omega
  · omega
  · omega
  · omega
  · obtain rfl : t = 1 := by omega
    exact crcOk
theorem rep0 : ∀ f t, extK f PG0.X = some (9 + 16 * t) → RepOk Tryz.prog f := by
  intro f t h
  have hm := extK_mem h
  simp only [PG0, List.mem_cons, Prod.mk.injEq, List.not_mem_nil, or_false] at hm
  rcases hm with ⟨rfl, hk⟩ | ⟨rfl, hk⟩ | ⟨rfl, hk⟩ | ⟨rfl, hk⟩ | ⟨rfl, hk⟩ | ⟨rfl, hk⟩
  · omega
  · omega
  · omega
  · omega
  · obtain rfl : t = 0 := by omega
    exact repOk
  · omega
theorem sums0 : ∀ l c, findS l PG0.R = some c → crcV (expR l) = c := fun _ _ h => SumsOk.find CRSok h
theorem PG0ok : PgOk Tryz.prog PG0 := ⟨.nil, ext0, inv0, ins0, srtI0, srtS0, crc0, sums0, rep0, TBok, fun _ _ h => PTok.get h, sok, zero_of (by kernel_rfl), by rfl⟩
theorem DokN : DOk Tryz.prog [] := by
  intro g hg
  cases (show false = true from hg)
theorem gokN (w : World) : GOk w PG0 [] := fun p hp => by cases hp
theorem PGok : PgOk Tryz.prog PG := ⟨.nil, ext0, inv0, ins0, srtI0, srtS0, crc0, sums0, rep0, TBok, fun _ _ h => PTok.get h, sok, zero_of (by kernel_rfl), by rfl⟩
end Go.Proofs.YtcafebjoanjgoaaGreatDoor

set_option linter.all false
set_option maxRecDepth 1000000
set_option maxHeartbeats 0
namespace Go.Proofs.YtcafebjoanjgoaaGreatDoor
open Go Go.X Go.Y
noncomputable def GH : CH := [(1, .glob [.v (.int .u32 0), .v (.int .u32 498536548), .v (.int .u32 997073096), .v (.int .u32 651767980), .v (.int .u32 1994146192), .v (.int .u32 1802195444), .v (.int .u32 1303535960), .v (.int .u32 1342533948), .v (.int .u32 3988292384), .v (.int .u32 4027552580), .v (.int .u32 3604390888), .v (.int .u32 3412177804), .v (.int .u32 2607071920), .v (.int .u32 2262029012), .v (.int .u32 2685067896), .v (.int .u32 3183342108)])]
noncomputable def DD : List Nat := [104]
noncomputable def FI3 : FI := fiOf Tryz.f3 []
noncomputable def FCC : FC := ⟨3, FI3, none⟩
noncomputable def bodyL : Code := bodyOf Tryz.f3
noncomputable def S0 : Sn := ⟨[], [GH], 1000, []⟩
noncomputable def E0 (m : Nat) : Tr := argsT 0 [.v (.int .u8 (.ofNat m))] .nil
noncomputable def EA (m : Nat) : Tr := Tr.put 12 (E0 m) 2 (.v (.bool false))
noncomputable def EB (m r : Nat) (k : Int) : Tr := Tr.put 12 (Tr.put 12 (Tr.put 12 (Tr.put 12 (Tr.put 12 (EA m) 15 (.v (.int .u8 (.ofNat m)))) 16 (.v (.int .u8 (.ofNat r)))) 17 (.v (.int .i64 (.ofNat r)))) 18 (.v (.int .i64 k))) 3 (.v (.int .i64 k))
noncomputable def opI (c : Code) (i : Nat) : Oper := match c with
  | .region _ ops _ => ops.toList.getD i ⟨none, .move (.const undef), 0, "", #[], none⟩
  | _ => ⟨none, .move (.const undef), 0, "", #[], none⟩
noncomputable def c1 : Code := csa (csb bodyL)
theorem seqC_one {pg : Pg} {D : List Nat} {rec : Rec} {rd : Bool} {n : Nat} {all : List Oper} {ro : List CH} {o : Oper} {l : List Oper} {e : Tr} {ds : List CD} {rw : CH} {nx : Nat} {md : List Nat} {v : CV} (h0 : dfrC rd o e.get = none) (h : stepO pg D rec n all o e.get ⟨rw, ro, nx, md⟩ = pureR ⟨rw, ro, nx, md⟩ v) :
    seqC pg D rec rd n all ro (o :: l) e ds rw nx md = seqC pg D rec rd n all ro l (putO o.dst v e) ds rw nx md := by
  rw [pureR_eq] at h
  show (match dfrC rd o e.get with
    | some (some g) => seqC pg D rec rd n all ro l (putO o.dst undefC e) (.call g :: ds) rw nx md
    | some none => .no [402]
    | none => match stepO pg D rec n all o e.get ⟨rw, ro, nx, md⟩ with
      | .ok ⟨v, rw, nx, md⟩ => putF o.dst v e (fun e => seqC pg D rec rd n all ro l e ds rw nx md)
      | .no er => .no er) = _
  rw [h0, h]
  exact putF_eq _ _ _ _
theorem pA (m : Nat) : evC PG DD 999999 FCC (csa bodyL) (E0 m) [] S0 = .ok ⟨.nrm, EA m, [], [], 1000, []⟩ := by kernel_rfl
theorem hc1 : c1 = .region 1 #[opI c1 0, opI c1 1, opI c1 2, opI c1 3, opI c1 4] false := by kernel_rfl
noncomputable def L1 : List Oper := [opI c1 0, opI c1 1, opI c1 2, opI c1 3, opI c1 4]
theorem tmod8 (m r : Nat) (h : m % 8 = r) : Int.tmod (.ofNat m) (.ofNat 8) = .ofNat r := by
  subst h
  rfl
noncomputable def okR (R : Rs CR) : Bool := match R with
  | .ok cr => (match callEnd PG DD 3 S0 FI3 cr with
    | .ok o => (match o.v with | .v (.bool b) => b | _ => false)
    | .no _ => false)
  | .no _ => false
theorem Dok : DOk Tryz.prog [104] := by
  intro g hg
  have hg : g = 104 := by
    have : memN g [104] = true := hg
    simp only [memN] at this
    cases h : Nat.beq 104 g with
    | true => exact (Nat.eq_of_beq_eq_true h).symm
    | false => rw [h] at this; cases this
  subst hg
  refine ⟨⟨_, Tryz.func104, rfl, rfl⟩, fun args w => ?_⟩
  refine callsDIn_of_wpSIn Tryz.func104 rfl trivial fun c₀ cs hu => ?_
  generalize htm : args ++ Array.replicate (Tryz.f104.ntmps - args.size) undef = tm
  have hsz : 15 ≤ tm.size := by
    subst htm
    rw [Tryz.ntmps104]
    simp
    omega
  clear htm
  have q1 : 1 < tm.size := by omega
  have q4 : 4 < tm.size := by omega
  have q5 : 5 < tm.size := by omega
  have q6 : 6 < tm.size := by omega
  apply wpSIn_seq
  apply wpSIn_region
  simp [wpOpsSIn, go_sem, recoverD, hu, Exit.thenS]
  apply wpSIn_seq
  apply wpSIn_region
  simp [wpOpsSIn, go_sem, recoverD, hu, Exit.thenS, Array.getD_eq_getD_getElem?, q1, q4, q5, q6]
  refine wpSIn_cond (t := false) (by simp [Act.eval, Array.getD_eq_getD_getElem?, q1, q4, q5, q6]) ?_
  simp only [Bool.false_eq_true, if_false]
  refine wpSIn_of_wpIn rfl (wpIn_skip ?_)
  cases c₀
  simp_all [bodyPostS, results, Tryz.results104]
theorem pB0 (m : Nat) (h : m % 8 = 0) : evC PG DD 999998 FCC c1 (EA m) [] S0 = .ok ⟨.nrm, EB m 0 (.negSucc 3), [], [], 1000, []⟩ := by
  rw [hc1]
  show (match seqC PG DD (evC PG DD 999997) (inRd none) FI3.n L1 [GH] L1 (EA m) [] [] 1000 [] with
    | .no er => .no ((1000 + 1) :: er)
    | .ok ⟨e, ds, rw, nx, md⟩ => .ok ⟨.nrm, e, ds, rw, nx, md⟩ : Rs CR) = _
  have e0 : L1 = [opI c1 0, opI c1 1, opI c1 2, opI c1 3, opI c1 4] := rfl
  have s : seqC PG DD (evC PG DD 999997) (inRd none) FI3.n L1 [GH] [opI c1 0, opI c1 1, opI c1 2, opI c1 3, opI c1 4] (EA m) [] [] 1000 [] = .ok ⟨EB m 0 (.negSucc 3), [], [], 1000, []⟩ := by
    rw [seqC_one (v := .v (.int .u8 (.ofNat m))) (by kernel_rfl) (by kernel_rfl)]
    rw [seqC_one (v := .v (.int .u8 (Int.tmod (.ofNat m) (.ofNat 8)))) (by kernel_rfl) (by kernel_rfl)]
    rw [tmod8 m 0 h]
    rw [seqC_one (v := .v (.int .i64 (.ofNat 0))) (by kernel_rfl) (by kernel_rfl)]
    rw [seqC_one (v := .v (.int .i64 (.negSucc 3))) (by kernel_rfl) (by kernel_rfl)]
    rw [seqC_one (v := .v (.int .i64 (.negSucc 3))) (by kernel_rfl) (by kernel_rfl)]
    kernel_rfl
  rw [← e0] at s
  rw [s]
theorem pB1 (m : Nat) (h : m % 8 = 1) : evC PG DD 999998 FCC c1 (EA m) [] S0 = .ok ⟨.nrm, EB m 1 (.negSucc 2), [], [], 1000, []⟩ := by
  rw [hc1]
  show (match seqC PG DD (evC PG DD 999997) (inRd none) FI3.n L1 [GH] L1 (EA m) [] [] 1000 [] with
    | .no er => .no ((1000 + 1) :: er)
    | .ok ⟨e, ds, rw, nx, md⟩ => .ok ⟨.nrm, e, ds, rw, nx, md⟩ : Rs CR) = _
  have e0 : L1 = [opI c1 0, opI c1 1, opI c1 2, opI c1 3, opI c1 4] := rfl
  have s : seqC PG DD (evC PG DD 999997) (inRd none) FI3.n L1 [GH] [opI c1 0, opI c1 1, opI c1 2, opI c1 3, opI c1 4] (EA m) [] [] 1000 [] = .ok ⟨EB m 1 (.negSucc 2), [], [], 1000, []⟩ := by
    rw [seqC_one (v := .v (.int .u8 (.ofNat m))) (by kernel_rfl) (by kernel_rfl)]
    rw [seqC_one (v := .v (.int .u8 (Int.tmod (.ofNat m) (.ofNat 8)))) (by kernel_rfl) (by kernel_rfl)]
    rw [tmod8 m 1 h]
    rw [seqC_one (v := .v (.int .i64 (.ofNat 1))) (by kernel_rfl) (by kernel_rfl)]
    rw [seqC_one (v := .v (.int .i64 (.negSucc 2))) (by kernel_rfl) (by kernel_rfl)]
    rw [seqC_one (v := .v (.int .i64 (.negSucc 2))) (by kernel_rfl) (by kernel_rfl)]
    kernel_rfl
  rw [← e0] at s
  rw [s]
theorem pB2 (m : Nat) (h : m % 8 = 2) : evC PG DD 999998 FCC c1 (EA m) [] S0 = .ok ⟨.nrm, EB m 2 (.negSucc 1), [], [], 1000, []⟩ := by
  rw [hc1]
  show (match seqC PG DD (evC PG DD 999997) (inRd none) FI3.n L1 [GH] L1 (EA m) [] [] 1000 [] with
    | .no er => .no ((1000 + 1) :: er)
    | .ok ⟨e, ds, rw, nx, md⟩ => .ok ⟨.nrm, e, ds, rw, nx, md⟩ : Rs CR) = _
  have e0 : L1 = [opI c1 0, opI c1 1, opI c1 2, opI c1 3, opI c1 4] := rfl
  have s : seqC PG DD (evC PG DD 999997) (inRd none) FI3.n L1 [GH] [opI c1 0, opI c1 1, opI c1 2, opI c1 3, opI c1 4] (EA m) [] [] 1000 [] = .ok ⟨EB m 2 (.negSucc 1), [], [], 1000, []⟩ := by
    rw [seqC_one (v := .v (.int .u8 (.ofNat m))) (by kernel_rfl) (by kernel_rfl)]
    rw [seqC_one (v := .v (.int .u8 (Int.tmod (.ofNat m) (.ofNat 8)))) (by kernel_rfl) (by kernel_rfl)]
    rw [tmod8 m 2 h]
    rw [seqC_one (v := .v (.int .i64 (.ofNat 2))) (by kernel_rfl) (by kernel_rfl)]
    rw [seqC_one (v := .v (.int .i64 (.negSucc 1))) (by kernel_rfl) (by kernel_rfl)]
    rw [seqC_one (v := .v (.int .i64 (.negSucc 1))) (by kernel_rfl) (by kernel_rfl)]
    kernel_rfl
  rw [← e0] at s
  rw [s]
theorem pB3 (m : Nat) (h : m % 8 = 3) : evC PG DD 999998 FCC c1 (EA m) [] S0 = .ok ⟨.nrm, EB m 3 (.negSucc 0), [], [], 1000, []⟩ := by
  rw [hc1]
  show (match seqC PG DD (evC PG DD 999997) (inRd none) FI3.n L1 [GH] L1 (EA m) [] [] 1000 [] with
    | .no er => .no ((1000 + 1) :: er)
    | .ok ⟨e, ds, rw, nx, md⟩ => .ok ⟨.nrm, e, ds, rw, nx, md⟩ : Rs CR) = _
  have e0 : L1 = [opI c1 0, opI c1 1, opI c1 2, opI c1 3, opI c1 4] := rfl
  have s : seqC PG DD (evC PG DD 999997) (inRd none) FI3.n L1 [GH] [opI c1 0, opI c1 1, opI c1 2, opI c1 3, opI c1 4] (EA m) [] [] 1000 [] = .ok ⟨EB m 3 (.negSucc 0), [], [], 1000, []⟩ := by
    rw [seqC_one (v := .v (.int .u8 (.ofNat m))) (by kernel_rfl) (by kernel_rfl)]
    rw [seqC_one (v := .v (.int .u8 (Int.tmod (.ofNat m) (.ofNat 8)))) (by kernel_rfl) (by kernel_rfl)]
    rw [tmod8 m 3 h]
    rw [seqC_one (v := .v (.int .i64 (.ofNat 3))) (by kernel_rfl) (by kernel_rfl)]
    rw [seqC_one (v := .v (.int .i64 (.negSucc 0))) (by kernel_rfl) (by kernel_rfl)]
    rw [seqC_one (v := .v (.int .i64 (.negSucc 0))) (by kernel_rfl) (by kernel_rfl)]
    kernel_rfl
  rw [← e0] at s
  rw [s]
theorem pB4 (m : Nat) (h : m % 8 = 4) : evC PG DD 999998 FCC c1 (EA m) [] S0 = .ok ⟨.nrm, EB m 4 (.ofNat 0), [], [], 1000, []⟩ := by
  rw [hc1]
  show (match seqC PG DD (evC PG DD 999997) (inRd none) FI3.n L1 [GH] L1 (EA m) [] [] 1000 [] with
    | .no er => .no ((1000 + 1) :: er)
    | .ok ⟨e, ds, rw, nx, md⟩ => .ok ⟨.nrm, e, ds, rw, nx, md⟩ : Rs CR) = _
  have e0 : L1 = [opI c1 0, opI c1 1, opI c1 2, opI c1 3, opI c1 4] := rfl
  have s : seqC PG DD (evC PG DD 999997) (inRd none) FI3.n L1 [GH] [opI c1 0, opI c1 1, opI c1 2, opI c1 3, opI c1 4] (EA m) [] [] 1000 [] = .ok ⟨EB m 4 (.ofNat 0), [], [], 1000, []⟩ := by
    rw [seqC_one (v := .v (.int .u8 (.ofNat m))) (by kernel_rfl) (by kernel_rfl)]
    rw [seqC_one (v := .v (.int .u8 (Int.tmod (.ofNat m) (.ofNat 8)))) (by kernel_rfl) (by kernel_rfl)]
    rw [tmod8 m 4 h]
    rw [seqC_one (v := .v (.int .i64 (.ofNat 4))) (by kernel_rfl) (by kernel_rfl)]
    rw [seqC_one (v := .v (.int .i64 (.ofNat 0))) (by kernel_rfl) (by kernel_rfl)]
    rw [seqC_one (v := .v (.int .i64 (.ofNat 0))) (by kernel_rfl) (by kernel_rfl)]
    kernel_rfl
  rw [← e0] at s
  rw [s]
theorem pB5 (m : Nat) (h : m % 8 = 5) : evC PG DD 999998 FCC c1 (EA m) [] S0 = .ok ⟨.nrm, EB m 5 (.ofNat 1), [], [], 1000, []⟩ := by
  rw [hc1]
  show (match seqC PG DD (evC PG DD 999997) (inRd none) FI3.n L1 [GH] L1 (EA m) [] [] 1000 [] with
    | .no er => .no ((1000 + 1) :: er)
    | .ok ⟨e, ds, rw, nx, md⟩ => .ok ⟨.nrm, e, ds, rw, nx, md⟩ : Rs CR) = _
  have e0 : L1 = [opI c1 0, opI c1 1, opI c1 2, opI c1 3, opI c1 4] := rfl
  have s : seqC PG DD (evC PG DD 999997) (inRd none) FI3.n L1 [GH] [opI c1 0, opI c1 1, opI c1 2, opI c1 3, opI c1 4] (EA m) [] [] 1000 [] = .ok ⟨EB m 5 (.ofNat 1), [], [], 1000, []⟩ := by
    rw [seqC_one (v := .v (.int .u8 (.ofNat m))) (by kernel_rfl) (by kernel_rfl)]
    rw [seqC_one (v := .v (.int .u8 (Int.tmod (.ofNat m) (.ofNat 8)))) (by kernel_rfl) (by kernel_rfl)]
    rw [tmod8 m 5 h]
    rw [seqC_one (v := .v (.int .i64 (.ofNat 5))) (by kernel_rfl) (by kernel_rfl)]
    rw [seqC_one (v := .v (.int .i64 (.ofNat 1))) (by kernel_rfl) (by kernel_rfl)]
    rw [seqC_one (v := .v (.int .i64 (.ofNat 1))) (by kernel_rfl) (by kernel_rfl)]
    kernel_rfl
  rw [← e0] at s
  rw [s]
theorem pB6 (m : Nat) (h : m % 8 = 6) : evC PG DD 999998 FCC c1 (EA m) [] S0 = .ok ⟨.nrm, EB m 6 (.ofNat 2), [], [], 1000, []⟩ := by
  rw [hc1]
  show (match seqC PG DD (evC PG DD 999997) (inRd none) FI3.n L1 [GH] L1 (EA m) [] [] 1000 [] with
    | .no er => .no ((1000 + 1) :: er)
    | .ok ⟨e, ds, rw, nx, md⟩ => .ok ⟨.nrm, e, ds, rw, nx, md⟩ : Rs CR) = _
  have e0 : L1 = [opI c1 0, opI c1 1, opI c1 2, opI c1 3, opI c1 4] := rfl
  have s : seqC PG DD (evC PG DD 999997) (inRd none) FI3.n L1 [GH] [opI c1 0, opI c1 1, opI c1 2, opI c1 3, opI c1 4] (EA m) [] [] 1000 [] = .ok ⟨EB m 6 (.ofNat 2), [], [], 1000, []⟩ := by
    rw [seqC_one (v := .v (.int .u8 (.ofNat m))) (by kernel_rfl) (by kernel_rfl)]
    rw [seqC_one (v := .v (.int .u8 (Int.tmod (.ofNat m) (.ofNat 8)))) (by kernel_rfl) (by kernel_rfl)]
    rw [tmod8 m 6 h]
    rw [seqC_one (v := .v (.int .i64 (.ofNat 6))) (by kernel_rfl) (by kernel_rfl)]
    rw [seqC_one (v := .v (.int .i64 (.ofNat 2))) (by kernel_rfl) (by kernel_rfl)]
    rw [seqC_one (v := .v (.int .i64 (.ofNat 2))) (by kernel_rfl) (by kernel_rfl)]
    kernel_rfl
  rw [← e0] at s
  rw [s]
theorem pB7 (m : Nat) (h : m % 8 = 7) : evC PG DD 999998 FCC c1 (EA m) [] S0 = .ok ⟨.nrm, EB m 7 (.ofNat 3), [], [], 1000, []⟩ := by
  rw [hc1]
  show (match seqC PG DD (evC PG DD 999997) (inRd none) FI3.n L1 [GH] L1 (EA m) [] [] 1000 [] with
    | .no er => .no ((1000 + 1) :: er)
    | .ok ⟨e, ds, rw, nx, md⟩ => .ok ⟨.nrm, e, ds, rw, nx, md⟩ : Rs CR) = _
  have e0 : L1 = [opI c1 0, opI c1 1, opI c1 2, opI c1 3, opI c1 4] := rfl
  have s : seqC PG DD (evC PG DD 999997) (inRd none) FI3.n L1 [GH] [opI c1 0, opI c1 1, opI c1 2, opI c1 3, opI c1 4] (EA m) [] [] 1000 [] = .ok ⟨EB m 7 (.ofNat 3), [], [], 1000, []⟩ := by
    rw [seqC_one (v := .v (.int .u8 (.ofNat m))) (by kernel_rfl) (by kernel_rfl)]
    rw [seqC_one (v := .v (.int .u8 (Int.tmod (.ofNat m) (.ofNat 8)))) (by kernel_rfl) (by kernel_rfl)]
    rw [tmod8 m 7 h]
    rw [seqC_one (v := .v (.int .i64 (.ofNat 7))) (by kernel_rfl) (by kernel_rfl)]
    rw [seqC_one (v := .v (.int .i64 (.ofNat 3))) (by kernel_rfl) (by kernel_rfl)]
    rw [seqC_one (v := .v (.int .i64 (.ofNat 3))) (by kernel_rfl) (by kernel_rfl)]
    kernel_rfl
  rw [← e0] at s
  rw [s]
end Go.Proofs.YtcafebjoanjgoaaGreatDoor
