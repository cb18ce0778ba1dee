/- First. -/
import Derived.Test.YtffinppkbihofaaQe
import Derived.Test.YtffinppkbihofaaProg
import Derived.KernelRfl
set_option linter.unusedVariables false
set_option linter.unusedSimpArgs false
namespace Go.Q
open Go.Proofs
set_option linter.unusedVariables false
set_option maxRecDepth 20000
set_option maxHeartbeats 4000000
def c31_laws_eqStringS : C := .sq (.rg [.mv 4 (.b true)]) .rt
def c15_laws_eqStringS : C := .sq (.sq (.rg [.mv 11 (.t 5), .mv 12 (.t 0), .ln 13 false (.t 12), .bi 14 .lss (.t 11) (.t 13)]) (.cd (.t 14) .skip (.ex 0))) (.sq (.bk 1 (.sq (.dr [] [.mv 17 (.t 0), .mv 18 (.t 5), .ia 19 (.t 17) (.t 18) kS, .ld 20 (.t 19) kS, .mv 21 (.t 1), .mv 22 (.t 5), .ia 23 (.t 21) (.t 22) kS, .ld 24 (.t 23) kS] [.bi 25 .neq (.t 20) (.t 24)]) (.cd (.t 25) (.sq (.rg [.mv 4 (.b false)]) .rt) .skip))) (.rg [.mv 15 (.t 5), .bi 16 .add (.t 15) (.i 1), .mv 5 (.t 16)]))
def ir_laws_eqStringS : C := .sq (.rg [.mv 4 (.b false)]) (.sq (.sq (.rg [.mv 6 (.t 0), .ln 7 false (.t 6), .mv 8 (.t 1), .ln 9 false (.t 8), .bi 10 .neq (.t 7) (.t 9)]) (.cd (.t 10) (.sq (.rg [.mv 4 (.b false)]) .rt) .skip)) (.sq (.sq (.rg [.mv 5 (.i 0)]) (.bk 0 (.lk [0, 1, 5] [] c15_laws_eqStringS))) c31_laws_eqStringS))
noncomputable abbrev T_laws_eqStringS (nf : Nat) : XT := []
noncomputable def m_laws_eqStringS (nf : Nat) (a : List Str) (b : List Str) : Option (Bool) := runF (T_laws_eqStringS nf) nf [.v (kL kS), .v (kL kS)] [.t 4 (.v .bool)] ir_laws_eqStringS (a, b, ())
noncomputable def X_laws_eqStringS {R : Type} (nf : Nat) : C → Env → (Xt → Env → Option R) → Option R := xc (R := R) (T_laws_eqStringS nf).S nf
noncomputable def l14_laws_eqStringS (nf : Nat) (m14 : Nat) (a : List Str) (b : List Str) (x5_14 : Int) : Option (Bool) := xit [0, 1, 5] [] (X_laws_eqStringS nf c15_laws_eqStringS) (qB 0 (qS (X_laws_eqStringS nf c31_laws_eqStringS) (KF [.t 4 (.v .bool)]))) m14 ⟨[(0, .v (kL kS) a), (1, .v (kL kS) b), (5, .v kI x5_14)], []⟩
theorem l14_laws_eqStringS_eq (nf : Nat) (m14 : Nat) (a : List Str) (b : List Str) (x5_14 : Int) : l14_laws_eqStringS nf (m14 + 1) a b x5_14 = (
  br (decide (x5_14 < (List.length a : Int))) (
    gg (0 ≤ x5_14 ∧ x5_14 < (List.length a : Int)) <|
      gg (0 ≤ x5_14 ∧ x5_14 < (List.length b : Int)) <|
        br (!((gt a x5_14 ([] : Str)) == (gt b x5_14 ([] : Str)))) (
          some false) (
          mark (l14_laws_eqStringS nf m14 a b (w64 (x5_14 + (1 : Int)))))) (
    some true)) := by kernel_rfl
theorem m_laws_eqStringS_eq (nf : Nat) (a : List Str) (b : List Str) : m_laws_eqStringS nf a b = (
  br (!((List.length a : Int) == (List.length b : Int))) (
    some false) (
    mark (l14_laws_eqStringS nf nf a b (0 : Int)))) := by kernel_rfl
noncomputable def e_laws_eqStringS (nf : Nat) : XE := eF 18 [.v (kL kS), .v (kL kS)] [.v .bool] (fun t => m_laws_eqStringS nf t.1 t.2.1)
theorem o_laws_eqStringS (nf : Nat) : conOK Try.prog 18 (e_laws_eqStringS nf).con := by
  have ih : XT.ok Try.prog (T_laws_eqStringS nf) := by exact trivial
  refine eF_ok fun t x h => ?_
  obtain ⟨a, b, _⟩ := t
  exact runF_ok (N := 26) ih Try.func18 (by kernel_rfl) rfl h
def c19_laws_toStringS : C := .sq (.rg [.mv 21 (.t 3), .mv 2 (.t 21)]) .rt
def c9_laws_toStringS : C := .sq (.sq (.rg [.mv 8 (.t 4), .mv 9 (.t 0), .ln 10 false (.t 9), .bi 11 .lss (.t 8) (.t 10)]) (.cd (.t 11) .skip (.ex 0))) (.sq (.bk 1 (.rg [.mv 14 (.t 3), .mv 15 (.t 4), .mv 16 (.t 0), .mv 17 (.t 4), .ia 18 (.t 16) (.t 17) kS, .ld 19 (.t 18) kS, .ia 20 (.t 14) (.t 15) kS, .st (.t 20) (.t 19) kS])) (.rg [.mv 12 (.t 4), .bi 13 .add (.t 12) (.i 1), .mv 4 (.t 13)]))
def ir_laws_toStringS : C := .sq (.rg [.mv 2 (.nl kS)]) (.sq (.rg [.mv 5 (.t 0), .ln 6 false (.t 5), .mk 7 true kS (.t 6), .mv 3 (.t 7)]) (.sq (.sq (.rg [.mv 4 (.i 0)]) (.bk 0 (.lk [0, 3, 4] [[7]] c9_laws_toStringS))) c19_laws_toStringS))
noncomputable abbrev T_laws_toStringS (nf : Nat) : XT := []
noncomputable def m_laws_toStringS (nf : Nat) (a : List Str) : Option (List Str) := runF (T_laws_toStringS nf) nf [.v (kL kS)] [.t 2 (.o (kL kS))] ir_laws_toStringS (a, ())
noncomputable def X_laws_toStringS {R : Type} (nf : Nat) : C → Env → (Xt → Env → Option R) → Option R := xc (R := R) (T_laws_toStringS nf).S nf
noncomputable def l8_laws_toStringS (nf : Nat) (m8 : Nat) (a : List Str) (x4_8 : Int) (y7_8 : List Str) : Option (List Str) := xit [0, 3, 4] [[7]] (X_laws_toStringS nf c9_laws_toStringS) (qB 0 (qS (X_laws_toStringS nf c19_laws_toStringS) (KF [.t 2 (.o (kL kS))]))) m8 ⟨[(0, .v (kL kS) a), (3, .sl [7]), (4, .v kI x4_8)], [([7], .row true false kS y7_8)]⟩
theorem l8_laws_toStringS_eq (nf : Nat) (m8 : Nat) (a : List Str) (x4_8 : Int) (y7_8 : List Str) : l8_laws_toStringS nf (m8 + 1) a x4_8 y7_8 = (
  br (decide (x4_8 < (List.length a : Int))) (
    gg (0 ≤ x4_8 ∧ x4_8 < (List.length a : Int)) <|
      gg (0 ≤ x4_8 ∧ x4_8 < (List.length y7_8 : Int)) <|
        gg (0 ≤ x4_8 ∧ x4_8 < (List.length y7_8 : Int)) <|
          mark (l8_laws_toStringS nf m8 a (w64 (x4_8 + (1 : Int))) (List.set y7_8 (Int.toNat x4_8) (gt a x4_8 ([] : Str))))) (
    some y7_8)) := by kernel_rfl
theorem m_laws_toStringS_eq (nf : Nat) (a : List Str) : m_laws_toStringS nf a = (
  gg (0 ≤ (List.length a : Int) ∧ (List.length a : Int) ≤ 2147483647) <|
    mark (l8_laws_toStringS nf nf a (0 : Int) (List.replicate (Int.toNat (List.length a : Int)) ([] : Str)))) := by kernel_rfl
noncomputable def e_laws_toStringS (nf : Nat) : XE := eF 16 [.v (kL kS)] [.o (kL kS)] (fun t => m_laws_toStringS nf t.1)
theorem o_laws_toStringS (nf : Nat) : conOK Try.prog 16 (e_laws_toStringS nf).con := by
  have ih : XT.ok Try.prog (T_laws_toStringS nf) := by exact trivial
  refine eF_ok fun t x h => ?_
  obtain ⟨a, _⟩ := t
  exact runF_ok (N := 22) ih Try.func16 (by kernel_rfl) rfl h
def c35_laws_szStringS : C := .sq (.rg [.mv 27 (.t 1), .mv 4 (.t 27)]) .rt
def c17_laws_szStringS : C := .sq (.sq (.rg [.mv 12 (.t 5), .mv 13 (.t 0), .ln 14 false (.t 13), .bi 15 .lss (.t 12) (.t 14)]) (.cd (.t 15) .skip (.ex 0))) (.sq (.bk 1 (.sq (.rg [.mv 18 (.t 1), .mv 19 (.t 0), .mv 20 (.t 5), .ia 21 (.t 19) (.t 20) kS, .ld 22 (.t 21) kS, .ln 23 true (.t 22), .bi 24 .sub (.t 18) (.t 23), .mv 1 (.t 24)]) (.sq (.rg [.mv 25 (.t 1), .bi 26 .lss (.t 25) (.i 0)]) (.cd (.t 26) (.sq (.rg [.mv 4 (.i (-1))]) .rt) .skip)))) (.rg [.mv 16 (.t 5), .bi 17 .add (.t 16) (.i 1), .mv 5 (.t 17)]))
def ir_laws_szStringS : C := .sq (.rg [.mv 4 (.i 0)]) (.sq (.rg [.mv 6 (.t 1), .mv 7 (.t 0), .ln 8 false (.t 7), .bi 9 .sub (.t 6) (.t 8), .mv 1 (.t 9)]) (.sq (.sq (.rg [.mv 10 (.t 1), .bi 11 .lss (.t 10) (.i 0)]) (.cd (.t 11) (.sq (.rg [.mv 4 (.i (-1))]) .rt) .skip)) (.sq (.sq (.rg [.mv 5 (.i 0)]) (.bk 0 (.lk [0, 1, 5] [] c17_laws_szStringS))) c35_laws_szStringS)))
noncomputable abbrev T_laws_szStringS (nf : Nat) : XT := []
noncomputable def m_laws_szStringS (nf : Nat) (a : List Str) (left : Int) : Option (Int) := runF (T_laws_szStringS nf) nf [.v (kL kS), .v kI] [.t 4 (.v kI)] ir_laws_szStringS (a, left, ())
noncomputable def X_laws_szStringS {R : Type} (nf : Nat) : C → Env → (Xt → Env → Option R) → Option R := xc (R := R) (T_laws_szStringS nf).S nf
noncomputable def l16_laws_szStringS (nf : Nat) (m16 : Nat) (a : List Str) (x1_16 : Int) (x5_16 : Int) : Option (Int) := xit [0, 1, 5] [] (X_laws_szStringS nf c17_laws_szStringS) (qB 0 (qS (X_laws_szStringS nf c35_laws_szStringS) (KF [.t 4 (.v kI)]))) m16 ⟨[(0, .v (kL kS) a), (1, .v kI x1_16), (5, .v kI x5_16)], []⟩
theorem l16_laws_szStringS_eq (nf : Nat) (m16 : Nat) (a : List Str) (x1_16 : Int) (x5_16 : Int) : l16_laws_szStringS nf (m16 + 1) a x1_16 x5_16 = (
  br (decide (x5_16 < (List.length a : Int))) (
    gg (0 ≤ x5_16 ∧ x5_16 < (List.length a : Int)) <|
      br (decide ((w64 (x1_16 - (List.length (gt a x5_16 ([] : Str)) : Int))) < (0 : Int))) (
        some (-1 : Int)) (
        mark (l16_laws_szStringS nf m16 a (w64 (x1_16 - (List.length (gt a x5_16 ([] : Str)) : Int))) (w64 (x5_16 + (1 : Int)))))) (
    some x1_16)) := by kernel_rfl
theorem m_laws_szStringS_eq (nf : Nat) (a : List Str) (left : Int) : m_laws_szStringS nf a left = (
  br (decide ((w64 (left - (List.length a : Int))) < (0 : Int))) (
    some (-1 : Int)) (
    mark (l16_laws_szStringS nf nf a (w64 (left - (List.length a : Int))) (0 : Int)))) := by kernel_rfl
noncomputable def e_laws_szStringS (nf : Nat) : XE := eF 14 [.v (kL kS), .v kI] [.v kI] (fun t => m_laws_szStringS nf t.1 t.2.1)
theorem o_laws_szStringS (nf : Nat) : conOK Try.prog 14 (e_laws_szStringS nf).con := by
  have ih : XT.ok Try.prog (T_laws_szStringS nf) := by exact trivial
  refine eF_ok fun t x h => ?_
  obtain ⟨a, left, _⟩ := t
  exact runF_ok (N := 28) ih Try.func14 (by kernel_rfl) rfl h
def c19_laws_toTypeS : C := .sq (.rg [.mv 22 (.t 3), .mv 2 (.t 22)]) .rt
def c9_laws_toTypeS : C := .sq (.sq (.rg [.mv 8 (.t 4), .mv 9 (.t 0), .ln 10 false (.t 9), .bi 11 .lss (.t 8) (.t 10)]) (.cd (.t 11) .skip (.ex 0))) (.sq (.bk 1 (.rg [.mv 14 (.t 3), .mv 15 (.t 4), .mv 16 (.t 0), .mv 17 (.t 4), .ia 18 (.t 16) (.t 17) (kR 0), .ld 19 (.t 18) (kR 0), .ca (some 20) 135 [((.t 19), .v (kR 0))], .ia 21 (.t 14) (.t 15) (kR 0), .st (.t 21) (.t 20) (kR 0)])) (.rg [.mv 12 (.t 4), .bi 13 .add (.t 12) (.i 1), .mv 4 (.t 13)]))
def ir_laws_toTypeS : C := .sq (.rg [.mv 2 (.nl (kR 0))]) (.sq (.rg [.mv 5 (.t 0), .ln 6 false (.t 5), .mk 7 true (kR 0) (.t 6), .mv 3 (.t 7)]) (.sq (.sq (.rg [.mv 4 (.i 0)]) (.bk 0 (.lk [0, 3, 4] [[7]] c9_laws_toTypeS))) c19_laws_toTypeS))
def ir_laws_toType : C := .sq (.rg [.bx 1 (.t 0) (kR 0), .al 2 (kR 0)]) (.sq (.rg [.al 3 (kR 0)]) (.sq (.rg [.fa 4 (.t 1) 0 0 0, .ld 5 (.t 4) kI, .fa 6 (.t 3) 0 0 0, .st (.t 6) (.t 5) kI]) (.sq (.rg [.fa 7 (.t 1) 0 1 1, .ld 8 (.t 7) (kL kS), .ca (some 9) 16 [((.t 8), .v (kL kS))], .fa 10 (.t 3) 0 1 1, .st (.t 10) (.t 9) (kL kS)]) (.sq (.rg [.fa 11 (.t 1) 0 2 2, .ld 12 (.t 11) (kL (kR 0)), .ca (some 13) 159 [((.t 12), .v (kL (kR 0)))], .fa 14 (.t 3) 0 2 2, .st (.t 14) (.t 13) (kL (kR 0))]) (.sq (.rg [.ld 15 (.t 3) (kR 0), .st (.t 2) (.t 15) (kR 0)]) .rt)))))
noncomputable def B_laws_toTypeS (nf : Nat) : XT := [e_laws_toStringS nf]
noncomputable def G_laws_toTypeS (nf : Nat) : Nat → XT
  | 0 => []
  | kf + 1 => [eF 159 [.v (kL (kR 0))] [.o (kL (kR 0))] (fun t => (fun (a : List Ty) => runF (G_laws_toTypeS nf kf ++ B_laws_toTypeS nf) nf [.v (kL (kR 0))] [.t 2 (.o (kL (kR 0)))] ir_laws_toTypeS (a, ())) t.1),
    eF 135 [.v (kR 0)] [.o (kR 0)] (fun t => (fun (a : Ty) => runF (G_laws_toTypeS nf kf ++ B_laws_toTypeS nf) nf [.v (kR 0)] [.c 2 (.o (kR 0))] ir_laws_toType (a, ())) t.1)]
noncomputable abbrev T_laws_toTypeS (nf kf : Nat) : XT := G_laws_toTypeS nf kf ++ B_laws_toTypeS nf
noncomputable abbrev T_laws_toType (nf kf : Nat) : XT := G_laws_toTypeS nf kf ++ B_laws_toTypeS nf
noncomputable def m_laws_toTypeS (nf kf : Nat) (a : List Ty) : Option (List Ty) := runF (T_laws_toTypeS nf kf) nf [.v (kL (kR 0))] [.t 2 (.o (kL (kR 0)))] ir_laws_toTypeS (a, ())
noncomputable def X_laws_toTypeS {R : Type} (nf kf : Nat) : C → Env → (Xt → Env → Option R) → Option R := xc (R := R) (T_laws_toTypeS nf kf).S nf
noncomputable def m_laws_toType (nf kf : Nat) (a : Ty) : Option (Ty) := runF (T_laws_toType nf kf) nf [.v (kR 0)] [.c 2 (.o (kR 0))] ir_laws_toType (a, ())
noncomputable def l8_laws_toTypeS (nf kf : Nat) (m8 : Nat) (a : List Ty) (x4_8 : Int) (y7_8 : List Ty) : Option (List Ty) := xit [0, 3, 4] [[7]] (X_laws_toTypeS nf kf c9_laws_toTypeS) (qB 0 (qS (X_laws_toTypeS nf kf c19_laws_toTypeS) (KF [.t 2 (.o (kL (kR 0)))]))) m8 ⟨[(0, .v (kL (kR 0)) a), (3, .sl [7]), (4, .v kI x4_8)], [([7], .row true false (kR 0) y7_8)]⟩
theorem l8_laws_toTypeS_eq (nf kf : Nat) (m8 : Nat) (a : List Ty) (x4_8 : Int) (y7_8 : List Ty) : l8_laws_toTypeS nf (kf + 1) (m8 + 1) a x4_8 y7_8 = (
  br (decide (x4_8 < (List.length a : Int))) (
    gg (0 ≤ x4_8 ∧ x4_8 < (List.length a : Int)) <|
      cb (m_laws_toType nf kf (gt a x4_8 Ty.zero)) fun r20 =>
        gg (0 ≤ x4_8 ∧ x4_8 < (List.length y7_8 : Int)) <|
          gg (0 ≤ x4_8 ∧ x4_8 < (List.length y7_8 : Int)) <|
            mark (l8_laws_toTypeS nf (kf + 1) m8 a (w64 (x4_8 + (1 : Int))) (List.set y7_8 (Int.toNat x4_8) (Ty.h r20)))) (
    some y7_8)) := by kernel_rfl
theorem m_laws_toTypeS_eq (nf kf : Nat) (a : List Ty) : m_laws_toTypeS nf (kf + 1) a = (
  gg (0 ≤ (List.length a : Int) ∧ (List.length a : Int) ≤ 2147483647) <|
    mark (l8_laws_toTypeS nf (kf + 1) nf a (0 : Int) (List.replicate (Int.toNat (List.length a : Int)) Ty.zero))) := by kernel_rfl
noncomputable def e_laws_toTypeS (nf : Nat) : XE := eF 159 [.v (kL (kR 0))] [.o (kL (kR 0))] (fun t => m_laws_toTypeS nf nf t.1)
theorem m_laws_toType_eq (nf kf : Nat) (a : Ty) : m_laws_toType nf (kf + 1) a = (
  cb (m_laws_toStringS nf a.labels) fun r9 =>
    cb (m_laws_toTypeS nf kf a.args) fun r13 =>
      some (Ty.mk a.kind r9 r13)) := by kernel_rfl
noncomputable def e_laws_toType (nf : Nat) : XE := eF 135 [.v (kR 0)] [.o (kR 0)] (fun t => m_laws_toType nf nf t.1)
theorem gok_laws_toTypeS (nf : Nat) : ∀ kf : Nat, XT.ok Try.prog (G_laws_toTypeS nf kf ++ B_laws_toTypeS nf)
  | 0 => by exact ⟨o_laws_toStringS nf, trivial⟩
  | kf + 1 => by
    have ih := gok_laws_toTypeS nf kf
    refine ⟨?_, ?_, (by exact ⟨o_laws_toStringS nf, trivial⟩)⟩
    · refine eF_ok fun t x h => ?_
      obtain ⟨a, _⟩ := t
      exact runF_ok (N := 23) ih Try.func159 (by kernel_rfl) rfl h
    · refine eF_ok fun t x h => ?_
      obtain ⟨a, _⟩ := t
      exact runF_ok (N := 16) ih Try.func135 (by kernel_rfl) rfl h
theorem o_laws_toTypeS (nf : Nat) : conOK Try.prog 159 (e_laws_toTypeS nf).con := by
  have ih := gok_laws_toTypeS nf nf
  refine eF_ok fun t x h => ?_
  obtain ⟨a, _⟩ := t
  exact runF_ok (N := 23) ih Try.func159 (by kernel_rfl) rfl h
theorem o_laws_toType (nf : Nat) : conOK Try.prog 135 (e_laws_toType nf).con := by
  have ih := gok_laws_toTypeS nf nf
  refine eF_ok fun t x h => ?_
  obtain ⟨a, _⟩ := t
  exact runF_ok (N := 16) ih Try.func135 (by kernel_rfl) rfl h
def c35_laws_szTypeS : C := .sq (.rg [.mv 26 (.t 1), .mv 4 (.t 26)]) .rt
def c17_laws_szTypeS : C := .sq (.sq (.rg [.mv 12 (.t 5), .mv 13 (.t 0), .ln 14 false (.t 13), .bi 15 .lss (.t 12) (.t 14)]) (.cd (.t 15) .skip (.ex 0))) (.sq (.bk 1 (.sq (.rg [.mv 18 (.t 0), .mv 19 (.t 5), .ia 20 (.t 18) (.t 19) (kR 0), .ld 21 (.t 20) (kR 0), .mv 22 (.t 1), .cv (some 23) 134 [((.t 21), .v (kR 0)), ((.t 22), .v kI)], .mv 1 (.t 23)]) (.sq (.rg [.mv 24 (.t 1), .bi 25 .lss (.t 24) (.i 0)]) (.cd (.t 25) (.sq (.rg [.mv 4 (.i (-1))]) .rt) .skip)))) (.rg [.mv 16 (.t 5), .bi 17 .add (.t 16) (.i 1), .mv 5 (.t 17)]))
def ir_laws_szTypeS : C := .sq (.rg [.mv 4 (.i 0)]) (.sq (.rg [.mv 6 (.t 1), .mv 7 (.t 0), .ln 8 false (.t 7), .bi 9 .sub (.t 6) (.t 8), .mv 1 (.t 9)]) (.sq (.sq (.rg [.mv 10 (.t 1), .bi 11 .lss (.t 10) (.i 0)]) (.cd (.t 11) (.sq (.rg [.mv 4 (.i (-1))]) .rt) .skip)) (.sq (.sq (.rg [.mv 5 (.i 0)]) (.bk 0 (.lk [0, 1, 5] [] c17_laws_szTypeS))) c35_laws_szTypeS)))
def ir_laws_szType : C := .sq (.rg [.bx 2 (.t 0) (kR 0), .mv 4 (.i 0)]) (.sq (.rg [.fa 5 (.t 2) 0 1 1, .ld 6 (.t 5) (kL kS), .mv 7 (.t 1), .cv (some 8) 14 [((.t 6), .v (kL kS)), ((.t 7), .v kI)], .mv 1 (.t 8)]) (.sq (.sq (.rg [.mv 9 (.t 1), .bi 10 .lss (.t 9) (.i 0)]) (.cd (.t 10) (.sq (.rg [.mv 4 (.i (-1))]) .rt) .skip)) (.sq (.rg [.fa 11 (.t 2) 0 2 2, .ld 12 (.t 11) (kL (kR 0)), .mv 13 (.t 1), .cv (some 14) 158 [((.t 12), .v (kL (kR 0))), ((.t 13), .v kI)], .mv 1 (.t 14)]) (.sq (.sq (.rg [.mv 15 (.t 1), .bi 16 .lss (.t 15) (.i 0)]) (.cd (.t 16) (.sq (.rg [.mv 4 (.i (-1))]) .rt) .skip)) (.sq (.rg [.mv 17 (.t 1), .mv 4 (.t 17)]) .rt)))))
noncomputable def B_laws_szTypeS (nf : Nat) : XT := [e_laws_szStringS nf]
noncomputable def G_laws_szTypeS (nf : Nat) : Nat → XT
  | 0 => []
  | kf + 1 => [eF 158 [.v (kL (kR 0)), .v kI] [.v kI] (fun t => (fun (a : List Ty) (left : Int) => runF (G_laws_szTypeS nf kf ++ B_laws_szTypeS nf) nf [.v (kL (kR 0)), .v kI] [.t 4 (.v kI)] ir_laws_szTypeS (a, left, ())) t.1 t.2.1),
    eF 134 [.v (kR 0), .v kI] [.v kI] (fun t => (fun (a : Ty) (left : Int) => runF (G_laws_szTypeS nf kf ++ B_laws_szTypeS nf) nf [.v (kR 0), .v kI] [.t 4 (.v kI)] ir_laws_szType (a, left, ())) t.1 t.2.1)]
noncomputable abbrev T_laws_szTypeS (nf kf : Nat) : XT := G_laws_szTypeS nf kf ++ B_laws_szTypeS nf
noncomputable abbrev T_laws_szType (nf kf : Nat) : XT := G_laws_szTypeS nf kf ++ B_laws_szTypeS nf
noncomputable def m_laws_szTypeS (nf kf : Nat) (a : List Ty) (left : Int) : Option (Int) := runF (T_laws_szTypeS nf kf) nf [.v (kL (kR 0)), .v kI] [.t 4 (.v kI)] ir_laws_szTypeS (a, left, ())
noncomputable def X_laws_szTypeS {R : Type} (nf kf : Nat) : C → Env → (Xt → Env → Option R) → Option R := xc (R := R) (T_laws_szTypeS nf kf).S nf
noncomputable def m_laws_szType (nf kf : Nat) (a : Ty) (left : Int) : Option (Int) := runF (T_laws_szType nf kf) nf [.v (kR 0), .v kI] [.t 4 (.v kI)] ir_laws_szType (a, left, ())
noncomputable def l16_laws_szTypeS (nf kf : Nat) (m16 : Nat) (a : List Ty) (x1_16 : Int) (x5_16 : Int) : Option (Int) := xit [0, 1, 5] [] (X_laws_szTypeS nf kf c17_laws_szTypeS) (qB 0 (qS (X_laws_szTypeS nf kf c35_laws_szTypeS) (KF [.t 4 (.v kI)]))) m16 ⟨[(0, .v (kL (kR 0)) a), (1, .v kI x1_16), (5, .v kI x5_16)], []⟩
theorem l16_laws_szTypeS_eq (nf kf : Nat) (m16 : Nat) (a : List Ty) (x1_16 : Int) (x5_16 : Int) : l16_laws_szTypeS nf (kf + 1) (m16 + 1) a x1_16 x5_16 = (
  br (decide (x5_16 < (List.length a : Int))) (
    gg (0 ≤ x5_16 ∧ x5_16 < (List.length a : Int)) <|
      cb (m_laws_szType nf kf (gt a x5_16 Ty.zero) x1_16) fun r23 =>
        br (decide (r23 < (0 : Int))) (
          some (-1 : Int)) (
          mark (l16_laws_szTypeS nf (kf + 1) m16 a r23 (w64 (x5_16 + (1 : Int)))))) (
    some x1_16)) := by kernel_rfl
theorem m_laws_szTypeS_eq (nf kf : Nat) (a : List Ty) (left : Int) : m_laws_szTypeS nf (kf + 1) a left = (
  br (decide ((w64 (left - (List.length a : Int))) < (0 : Int))) (
    some (-1 : Int)) (
    mark (l16_laws_szTypeS nf (kf + 1) nf a (w64 (left - (List.length a : Int))) (0 : Int)))) := by kernel_rfl
noncomputable def e_laws_szTypeS (nf : Nat) : XE := eF 158 [.v (kL (kR 0)), .v kI] [.v kI] (fun t => m_laws_szTypeS nf nf t.1 t.2.1)
theorem m_laws_szType_eq (nf kf : Nat) (a : Ty) (left : Int) : m_laws_szType nf (kf + 1) a left = (
  cb (m_laws_szStringS nf a.labels left) fun r8 =>
    br (decide (r8 < (0 : Int))) (
      some (-1 : Int)) (
      cb (m_laws_szTypeS nf kf a.args r8) fun r14 =>
        br (decide (r14 < (0 : Int))) (
          some (-1 : Int)) (
          some r14))) := by kernel_rfl
noncomputable def e_laws_szType (nf : Nat) : XE := eF 134 [.v (kR 0), .v kI] [.v kI] (fun t => m_laws_szType nf nf t.1 t.2.1)
theorem gok_laws_szTypeS (nf : Nat) : ∀ kf : Nat, XT.ok Try.prog (G_laws_szTypeS nf kf ++ B_laws_szTypeS nf)
  | 0 => by exact ⟨o_laws_szStringS nf, trivial⟩
  | kf + 1 => by
    have ih := gok_laws_szTypeS nf kf
    refine ⟨?_, ?_, (by exact ⟨o_laws_szStringS nf, trivial⟩)⟩
    · refine eF_ok fun t x h => ?_
      obtain ⟨a, left, _⟩ := t
      exact runF_ok (N := 27) ih Try.func158 (by kernel_rfl) rfl h
    · refine eF_ok fun t x h => ?_
      obtain ⟨a, left, _⟩ := t
      exact runF_ok (N := 18) ih Try.func134 (by kernel_rfl) rfl h
theorem o_laws_szTypeS (nf : Nat) : conOK Try.prog 158 (e_laws_szTypeS nf).con := by
  have ih := gok_laws_szTypeS nf nf
  refine eF_ok fun t x h => ?_
  obtain ⟨a, left, _⟩ := t
  exact runF_ok (N := 27) ih Try.func158 (by kernel_rfl) rfl h
theorem o_laws_szType (nf : Nat) : conOK Try.prog 134 (e_laws_szType nf).con := by
  have ih := gok_laws_szTypeS nf nf
  refine eF_ok fun t x h => ?_
  obtain ⟨a, left, _⟩ := t
  exact runF_ok (N := 18) ih Try.func134 (by kernel_rfl) rfl h
def c31_laws_eqTypeS : C := .sq (.rg [.mv 4 (.b true)]) .rt
def c15_laws_eqTypeS : C := .sq (.sq (.rg [.mv 11 (.t 5), .mv 12 (.t 0), .ln 13 false (.t 12), .bi 14 .lss (.t 11) (.t 13)]) (.cd (.t 14) .skip (.ex 0))) (.sq (.bk 1 (.sq (.dr [] [.mv 17 (.t 0), .mv 18 (.t 5), .ia 19 (.t 17) (.t 18) (kR 0), .ld 20 (.t 19) (kR 0), .mv 21 (.t 1), .mv 22 (.t 5), .ia 23 (.t 21) (.t 22) (kR 0), .ld 24 (.t 23) (kR 0)] [.cv (some 25) 136 [((.t 20), .v (kR 0)), ((.t 24), .v (kR 0))], .un 26 .not (.t 25)]) (.cd (.t 26) (.sq (.rg [.mv 4 (.b false)]) .rt) .skip))) (.rg [.mv 15 (.t 5), .bi 16 .add (.t 15) (.i 1), .mv 5 (.t 16)]))
def ir_laws_eqTypeS : C := .sq (.rg [.mv 4 (.b false)]) (.sq (.sq (.rg [.mv 6 (.t 0), .ln 7 false (.t 6), .mv 8 (.t 1), .ln 9 false (.t 8), .bi 10 .neq (.t 7) (.t 9)]) (.cd (.t 10) (.sq (.rg [.mv 4 (.b false)]) .rt) .skip)) (.sq (.sq (.rg [.mv 5 (.i 0)]) (.bk 0 (.lk [0, 1, 5] [] c15_laws_eqTypeS))) c31_laws_eqTypeS))
def ir_laws_eqType : C := .sq (.rg [.bx 2 (.t 0) (kR 0), .bx 3 (.t 1) (kR 0), .mv 4 (.b false)]) (.sq (.sq (.rg [.fa 5 (.t 2) 0 0 0, .ld 6 (.t 5) kI, .fa 7 (.t 3) 0 0 0, .ld 8 (.t 7) kI, .bi 9 .neq (.t 6) (.t 8)]) (.cd (.t 9) (.sq (.rg [.mv 4 (.b false)]) .rt) .skip)) (.sq (.sq (.rg [.fa 10 (.t 2) 0 1 1, .ld 11 (.t 10) (kL kS), .fa 12 (.t 3) 0 1 1, .ld 13 (.t 12) (kL kS), .cv (some 14) 18 [((.t 11), .v (kL kS)), ((.t 13), .v (kL kS))], .un 15 .not (.t 14)]) (.cd (.t 15) (.sq (.rg [.mv 4 (.b false)]) .rt) .skip)) (.sq (.sq (.rg [.fa 16 (.t 2) 0 2 2, .ld 17 (.t 16) (kL (kR 0)), .fa 18 (.t 3) 0 2 2, .ld 19 (.t 18) (kL (kR 0)), .cv (some 20) 160 [((.t 17), .v (kL (kR 0))), ((.t 19), .v (kL (kR 0)))], .un 21 .not (.t 20)]) (.cd (.t 21) (.sq (.rg [.mv 4 (.b false)]) .rt) .skip)) (.sq (.rg [.mv 4 (.b true)]) .rt))))
noncomputable def B_laws_eqTypeS (nf : Nat) : XT := [e_laws_eqStringS nf]
noncomputable def G_laws_eqTypeS (nf : Nat) : Nat → XT
  | 0 => []
  | kf + 1 => [eF 160 [.v (kL (kR 0)), .v (kL (kR 0))] [.v .bool] (fun t => (fun (a : List Ty) (b : List Ty) => runF (G_laws_eqTypeS nf kf ++ B_laws_eqTypeS nf) nf [.v (kL (kR 0)), .v (kL (kR 0))] [.t 4 (.v .bool)] ir_laws_eqTypeS (a, b, ())) t.1 t.2.1),
    eF 136 [.v (kR 0), .v (kR 0)] [.v .bool] (fun t => (fun (a : Ty) (b : Ty) => runF (G_laws_eqTypeS nf kf ++ B_laws_eqTypeS nf) nf [.v (kR 0), .v (kR 0)] [.t 4 (.v .bool)] ir_laws_eqType (a, b, ())) t.1 t.2.1)]
noncomputable abbrev T_laws_eqTypeS (nf kf : Nat) : XT := G_laws_eqTypeS nf kf ++ B_laws_eqTypeS nf
noncomputable abbrev T_laws_eqType (nf kf : Nat) : XT := G_laws_eqTypeS nf kf ++ B_laws_eqTypeS nf
noncomputable def m_laws_eqTypeS (nf kf : Nat) (a : List Ty) (b : List Ty) : Option (Bool) := runF (T_laws_eqTypeS nf kf) nf [.v (kL (kR 0)), .v (kL (kR 0))] [.t 4 (.v .bool)] ir_laws_eqTypeS (a, b, ())
noncomputable def X_laws_eqTypeS {R : Type} (nf kf : Nat) : C → Env → (Xt → Env → Option R) → Option R := xc (R := R) (T_laws_eqTypeS nf kf).S nf
noncomputable def m_laws_eqType (nf kf : Nat) (a : Ty) (b : Ty) : Option (Bool) := runF (T_laws_eqType nf kf) nf [.v (kR 0), .v (kR 0)] [.t 4 (.v .bool)] ir_laws_eqType (a, b, ())
noncomputable def l14_laws_eqTypeS (nf kf : Nat) (m14 : Nat) (a : List Ty) (b : List Ty) (x5_14 : Int) : Option (Bool) := xit [0, 1, 5] [] (X_laws_eqTypeS nf kf c15_laws_eqTypeS) (qB 0 (qS (X_laws_eqTypeS nf kf c31_laws_eqTypeS) (KF [.t 4 (.v .bool)]))) m14 ⟨[(0, .v (kL (kR 0)) a), (1, .v (kL (kR 0)) b), (5, .v kI x5_14)], []⟩
theorem l14_laws_eqTypeS_eq (nf kf : Nat) (m14 : Nat) (a : List Ty) (b : List Ty) (x5_14 : Int) : l14_laws_eqTypeS nf (kf + 1) (m14 + 1) a b x5_14 = (
  br (decide (x5_14 < (List.length a : Int))) (
    gg (0 ≤ x5_14 ∧ x5_14 < (List.length a : Int)) <|
      gg (0 ≤ x5_14 ∧ x5_14 < (List.length b : Int)) <|
        cb (m_laws_eqType nf kf (gt a x5_14 Ty.zero) (gt b x5_14 Ty.zero)) fun r25 =>
          br (!r25) (
            some false) (
            mark (l14_laws_eqTypeS nf (kf + 1) m14 a b (w64 (x5_14 + (1 : Int)))))) (
    some true)) := by kernel_rfl
theorem m_laws_eqTypeS_eq (nf kf : Nat) (a : List Ty) (b : List Ty) : m_laws_eqTypeS nf (kf + 1) a b = (
  br (!((List.length a : Int) == (List.length b : Int))) (
    some false) (
    mark (l14_laws_eqTypeS nf (kf + 1) nf a b (0 : Int)))) := by kernel_rfl
noncomputable def e_laws_eqTypeS (nf : Nat) : XE := eF 160 [.v (kL (kR 0)), .v (kL (kR 0))] [.v .bool] (fun t => m_laws_eqTypeS nf nf t.1 t.2.1)
theorem m_laws_eqType_eq (nf kf : Nat) (a : Ty) (b : Ty) : m_laws_eqType nf (kf + 1) a b = (
  br (!(a.kind == b.kind)) (
    some false) (
    cb (m_laws_eqStringS nf a.labels b.labels) fun r14 =>
      br (!r14) (
        some false) (
        cb (m_laws_eqTypeS nf kf a.args b.args) fun r20 =>
          br (!r20) (
            some false) (
            some true)))) := by kernel_rfl
noncomputable def e_laws_eqType (nf : Nat) : XE := eF 136 [.v (kR 0), .v (kR 0)] [.v .bool] (fun t => m_laws_eqType nf nf t.1 t.2.1)
theorem gok_laws_eqTypeS (nf : Nat) : ∀ kf : Nat, XT.ok Try.prog (G_laws_eqTypeS nf kf ++ B_laws_eqTypeS nf)
  | 0 => by exact ⟨o_laws_eqStringS nf, trivial⟩
  | kf + 1 => by
    have ih := gok_laws_eqTypeS nf kf
    refine ⟨?_, ?_, (by exact ⟨o_laws_eqStringS nf, trivial⟩)⟩
    · refine eF_ok fun t x h => ?_
      obtain ⟨a, b, _⟩ := t
      exact runF_ok (N := 27) ih Try.func160 (by kernel_rfl) rfl h
    · refine eF_ok fun t x h => ?_
      obtain ⟨a, b, _⟩ := t
      exact runF_ok (N := 22) ih Try.func136 (by kernel_rfl) rfl h
theorem o_laws_eqTypeS (nf : Nat) : conOK Try.prog 160 (e_laws_eqTypeS nf).con := by
  have ih := gok_laws_eqTypeS nf nf
  refine eF_ok fun t x h => ?_
  obtain ⟨a, b, _⟩ := t
  exact runF_ok (N := 27) ih Try.func160 (by kernel_rfl) rfl h
theorem o_laws_eqType (nf : Nat) : conOK Try.prog 136 (e_laws_eqType nf).con := by
  have ih := gok_laws_eqTypeS nf nf
  refine eF_ok fun t x h => ?_
  obtain ⟨a, b, _⟩ := t
  exact runF_ok (N := 22) ih Try.func136 (by kernel_rfl) rfl h
def c19_laws_toTermS : C := .sq (.rg [.mv 22 (.t 3), .mv 2 (.t 22)]) .rt
def c9_laws_toTermS : C := .sq (.sq (.rg [.mv 8 (.t 4), .mv 9 (.t 0), .ln 10 false (.t 9), .bi 11 .lss (.t 8) (.t 10)]) (.cd (.t 11) .skip (.ex 0))) (.sq (.bk 1 (.rg [.mv 14 (.t 3), .mv 15 (.t 4), .mv 16 (.t 0), .mv 17 (.t 4), .ia 18 (.t 16) (.t 17) (kR 2), .ld 19 (.t 18) (kR 2), .ca (some 20) 94 [((.t 19), .v (kR 2))], .ia 21 (.t 14) (.t 15) (kR 2), .st (.t 21) (.t 20) (kR 2)])) (.rg [.mv 12 (.t 4), .bi 13 .add (.t 12) (.i 1), .mv 4 (.t 13)]))
def ir_laws_toTermS : C := .sq (.rg [.mv 2 (.nl (kR 2))]) (.sq (.rg [.mv 5 (.t 0), .ln 6 false (.t 5), .mk 7 true (kR 2) (.t 6), .mv 3 (.t 7)]) (.sq (.sq (.rg [.mv 4 (.i 0)]) (.bk 0 (.lk [0, 3, 4] [[7]] c9_laws_toTermS))) c19_laws_toTermS))
def ir_laws_toTerm : C := .sq (.rg [.bx 1 (.t 0) (kR 2), .al 2 (kR 2)]) (.sq (.rg [.al 3 (kR 2)]) (.sq (.rg [.fa 4 (.t 1) 2 0 0, .ld 5 (.t 4) kI, .fa 6 (.t 3) 2 0 0, .st (.t 6) (.t 5) kI]) (.sq (.rg [.fa 7 (.t 1) 2 1 1, .ld 8 (.t 7) kS, .fa 9 (.t 3) 2 1 1, .st (.t 9) (.t 8) kS]) (.sq (.rg [.fa 10 (.t 1) 2 2 2, .ld 11 (.t 10) kI, .fa 12 (.t 3) 2 2 2, .st (.t 12) (.t 11) kI]) (.sq (.rg [.fa 13 (.t 1) 2 3 3, .ld 14 (.t 13) (kR 0), .ca (some 15) 135 [((.t 14), .v (kR 0))], .fa 16 (.t 3) 2 3 3, .st (.t 16) (.t 15) (kR 0)]) (.sq (.rg [.fa 17 (.t 1) 2 4 6, .ld 18 (.t 17) (kL kS), .ca (some 19) 16 [((.t 18), .v (kL kS))], .fa 20 (.t 3) 2 4 6, .st (.t 20) (.t 19) (kL kS)]) (.sq (.rg [.fa 21 (.t 1) 2 5 7, .ld 22 (.t 21) (kL (kR 2)), .ca (some 23) 95 [((.t 22), .v (kL (kR 2)))], .fa 24 (.t 3) 2 5 7, .st (.t 24) (.t 23) (kL (kR 2))]) (.sq (.rg [.ld 25 (.t 3) (kR 2), .st (.t 2) (.t 25) (kR 2)]) .rt))))))))
noncomputable def B_laws_toTermS (nf : Nat) : XT := [e_laws_toType nf, e_laws_toStringS nf]
noncomputable def G_laws_toTermS (nf : Nat) : Nat → XT
  | 0 => []
  | kf + 1 => [eF 95 [.v (kL (kR 2))] [.o (kL (kR 2))] (fun t => (fun (a : List Tm) => runF (G_laws_toTermS nf kf ++ B_laws_toTermS nf) nf [.v (kL (kR 2))] [.t 2 (.o (kL (kR 2)))] ir_laws_toTermS (a, ())) t.1),
    eF 94 [.v (kR 2)] [.o (kR 2)] (fun t => (fun (a : Tm) => runF (G_laws_toTermS nf kf ++ B_laws_toTermS nf) nf [.v (kR 2)] [.c 2 (.o (kR 2))] ir_laws_toTerm (a, ())) t.1)]
noncomputable abbrev T_laws_toTermS (nf kf : Nat) : XT := G_laws_toTermS nf kf ++ B_laws_toTermS nf
noncomputable abbrev T_laws_toTerm (nf kf : Nat) : XT := G_laws_toTermS nf kf ++ B_laws_toTermS nf
noncomputable def m_laws_toTermS (nf kf : Nat) (a : List Tm) : Option (List Tm) := runF (T_laws_toTermS nf kf) nf [.v (kL (kR 2))] [.t 2 (.o (kL (kR 2)))] ir_laws_toTermS (a, ())
noncomputable def X_laws_toTermS {R : Type} (nf kf : Nat) : C → Env → (Xt → Env → Option R) → Option R := xc (R := R) (T_laws_toTermS nf kf).S nf
noncomputable def m_laws_toTerm (nf kf : Nat) (a : Tm) : Option (Tm) := runF (T_laws_toTerm nf kf) nf [.v (kR 2)] [.c 2 (.o (kR 2))] ir_laws_toTerm (a, ())
noncomputable def l8_laws_toTermS (nf kf : Nat) (m8 : Nat) (a : List Tm) (x4_8 : Int) (y7_8 : List Tm) : Option (List Tm) := xit [0, 3, 4] [[7]] (X_laws_toTermS nf kf c9_laws_toTermS) (qB 0 (qS (X_laws_toTermS nf kf c19_laws_toTermS) (KF [.t 2 (.o (kL (kR 2)))]))) m8 ⟨[(0, .v (kL (kR 2)) a), (3, .sl [7]), (4, .v kI x4_8)], [([7], .row true false (kR 2) y7_8)]⟩
theorem l8_laws_toTermS_eq (nf kf : Nat) (m8 : Nat) (a : List Tm) (x4_8 : Int) (y7_8 : List Tm) : l8_laws_toTermS nf (kf + 1) (m8 + 1) a x4_8 y7_8 = (
  br (decide (x4_8 < (List.length a : Int))) (
    gg (0 ≤ x4_8 ∧ x4_8 < (List.length a : Int)) <|
      cb (m_laws_toTerm nf kf (gt a x4_8 Tm.zero)) fun r20 =>
        gg (0 ≤ x4_8 ∧ x4_8 < (List.length y7_8 : Int)) <|
          gg (0 ≤ x4_8 ∧ x4_8 < (List.length y7_8 : Int)) <|
            mark (l8_laws_toTermS nf (kf + 1) m8 a (w64 (x4_8 + (1 : Int))) (List.set y7_8 (Int.toNat x4_8) (Tm.h r20)))) (
    some y7_8)) := by kernel_rfl
theorem m_laws_toTermS_eq (nf kf : Nat) (a : List Tm) : m_laws_toTermS nf (kf + 1) a = (
  gg (0 ≤ (List.length a : Int) ∧ (List.length a : Int) ≤ 2147483647) <|
    mark (l8_laws_toTermS nf (kf + 1) nf a (0 : Int) (List.replicate (Int.toNat (List.length a : Int)) Tm.zero))) := by kernel_rfl
noncomputable def e_laws_toTermS (nf : Nat) : XE := eF 95 [.v (kL (kR 2))] [.o (kL (kR 2))] (fun t => m_laws_toTermS nf nf t.1)
theorem m_laws_toTerm_eq (nf kf : Nat) (a : Tm) : m_laws_toTerm nf (kf + 1) a = (
  cb (m_laws_toType nf nf (Ty.h a.type)) fun r15 =>
    cb (m_laws_toStringS nf a.labels) fun r19 =>
      cb (m_laws_toTermS nf kf a.args) fun r23 =>
        some (Tm.mk a.kind a.name a.n (Ty.h r15) r19 r23)) := by kernel_rfl
noncomputable def e_laws_toTerm (nf : Nat) : XE := eF 94 [.v (kR 2)] [.o (kR 2)] (fun t => m_laws_toTerm nf nf t.1)
theorem gok_laws_toTermS (nf : Nat) : ∀ kf : Nat, XT.ok Try.prog (G_laws_toTermS nf kf ++ B_laws_toTermS nf)
  | 0 => by exact ⟨o_laws_toType nf, o_laws_toStringS nf, trivial⟩
  | kf + 1 => by
    have ih := gok_laws_toTermS nf kf
    refine ⟨?_, ?_, (by exact ⟨o_laws_toType nf, o_laws_toStringS nf, trivial⟩)⟩
    · refine eF_ok fun t x h => ?_
      obtain ⟨a, _⟩ := t
      exact runF_ok (N := 23) ih Try.func95 (by kernel_rfl) rfl h
    · refine eF_ok fun t x h => ?_
      obtain ⟨a, _⟩ := t
      exact runF_ok (N := 26) ih Try.func94 (by kernel_rfl) rfl h
theorem o_laws_toTermS (nf : Nat) : conOK Try.prog 95 (e_laws_toTermS nf).con := by
  have ih := gok_laws_toTermS nf nf
  refine eF_ok fun t x h => ?_
  obtain ⟨a, _⟩ := t
  exact runF_ok (N := 23) ih Try.func95 (by kernel_rfl) rfl h
theorem o_laws_toTerm (nf : Nat) : conOK Try.prog 94 (e_laws_toTerm nf).con := by
  have ih := gok_laws_toTermS nf nf
  refine eF_ok fun t x h => ?_
  obtain ⟨a, _⟩ := t
  exact runF_ok (N := 26) ih Try.func94 (by kernel_rfl) rfl h
def c35_laws_szTermS : C := .sq (.rg [.mv 26 (.t 1), .mv 4 (.t 26)]) .rt
def c17_laws_szTermS : C := .sq (.sq (.rg [.mv 12 (.t 5), .mv 13 (.t 0), .ln 14 false (.t 13), .bi 15 .lss (.t 12) (.t 14)]) (.cd (.t 15) .skip (.ex 0))) (.sq (.bk 1 (.sq (.rg [.mv 18 (.t 0), .mv 19 (.t 5), .ia 20 (.t 18) (.t 19) (kR 2), .ld 21 (.t 20) (kR 2), .mv 22 (.t 1), .cv (some 23) 90 [((.t 21), .v (kR 2)), ((.t 22), .v kI)], .mv 1 (.t 23)]) (.sq (.rg [.mv 24 (.t 1), .bi 25 .lss (.t 24) (.i 0)]) (.cd (.t 25) (.sq (.rg [.mv 4 (.i (-1))]) .rt) .skip)))) (.rg [.mv 16 (.t 5), .bi 17 .add (.t 16) (.i 1), .mv 5 (.t 17)]))
def ir_laws_szTermS : C := .sq (.rg [.mv 4 (.i 0)]) (.sq (.rg [.mv 6 (.t 1), .mv 7 (.t 0), .ln 8 false (.t 7), .bi 9 .sub (.t 6) (.t 8), .mv 1 (.t 9)]) (.sq (.sq (.rg [.mv 10 (.t 1), .bi 11 .lss (.t 10) (.i 0)]) (.cd (.t 11) (.sq (.rg [.mv 4 (.i (-1))]) .rt) .skip)) (.sq (.sq (.rg [.mv 5 (.i 0)]) (.bk 0 (.lk [0, 1, 5] [] c17_laws_szTermS))) c35_laws_szTermS)))
def ir_laws_szTerm : C := .sq (.rg [.bx 2 (.t 0) (kR 2), .mv 4 (.i 0)]) (.sq (.rg [.mv 5 (.t 1), .fa 6 (.t 2) 2 1 1, .ld 7 (.t 6) kS, .ln 8 true (.t 7), .bi 9 .sub (.t 5) (.t 8), .mv 1 (.t 9)]) (.sq (.sq (.rg [.mv 10 (.t 1), .bi 11 .lss (.t 10) (.i 0)]) (.cd (.t 11) (.sq (.rg [.mv 4 (.i (-1))]) .rt) .skip)) (.sq (.rg [.fa 12 (.t 2) 2 3 3, .ld 13 (.t 12) (kR 0), .mv 14 (.t 1), .cv (some 15) 134 [((.t 13), .v (kR 0)), ((.t 14), .v kI)], .mv 1 (.t 15)]) (.sq (.sq (.rg [.mv 16 (.t 1), .bi 17 .lss (.t 16) (.i 0)]) (.cd (.t 17) (.sq (.rg [.mv 4 (.i (-1))]) .rt) .skip)) (.sq (.rg [.fa 18 (.t 2) 2 4 6, .ld 19 (.t 18) (kL kS), .mv 20 (.t 1), .cv (some 21) 14 [((.t 19), .v (kL kS)), ((.t 20), .v kI)], .mv 1 (.t 21)]) (.sq (.sq (.rg [.mv 22 (.t 1), .bi 23 .lss (.t 22) (.i 0)]) (.cd (.t 23) (.sq (.rg [.mv 4 (.i (-1))]) .rt) .skip)) (.sq (.rg [.fa 24 (.t 2) 2 5 7, .ld 25 (.t 24) (kL (kR 2)), .mv 26 (.t 1), .cv (some 27) 91 [((.t 25), .v (kL (kR 2))), ((.t 26), .v kI)], .mv 1 (.t 27)]) (.sq (.sq (.rg [.mv 28 (.t 1), .bi 29 .lss (.t 28) (.i 0)]) (.cd (.t 29) (.sq (.rg [.mv 4 (.i (-1))]) .rt) .skip)) (.sq (.rg [.mv 30 (.t 1), .mv 4 (.t 30)]) .rt)))))))))
noncomputable def B_laws_szTermS (nf : Nat) : XT := [e_laws_szType nf, e_laws_szStringS nf]
noncomputable def G_laws_szTermS (nf : Nat) : Nat → XT
  | 0 => []
  | kf + 1 => [eF 91 [.v (kL (kR 2)), .v kI] [.v kI] (fun t => (fun (a : List Tm) (left : Int) => runF (G_laws_szTermS nf kf ++ B_laws_szTermS nf) nf [.v (kL (kR 2)), .v kI] [.t 4 (.v kI)] ir_laws_szTermS (a, left, ())) t.1 t.2.1),
    eF 90 [.v (kR 2), .v kI] [.v kI] (fun t => (fun (a : Tm) (left : Int) => runF (G_laws_szTermS nf kf ++ B_laws_szTermS nf) nf [.v (kR 2), .v kI] [.t 4 (.v kI)] ir_laws_szTerm (a, left, ())) t.1 t.2.1)]
noncomputable abbrev T_laws_szTermS (nf kf : Nat) : XT := G_laws_szTermS nf kf ++ B_laws_szTermS nf
noncomputable abbrev T_laws_szTerm (nf kf : Nat) : XT := G_laws_szTermS nf kf ++ B_laws_szTermS nf
noncomputable def m_laws_szTermS (nf kf : Nat) (a : List Tm) (left : Int) : Option (Int) := runF (T_laws_szTermS nf kf) nf [.v (kL (kR 2)), .v kI] [.t 4 (.v kI)] ir_laws_szTermS (a, left, ())
noncomputable def X_laws_szTermS {R : Type} (nf kf : Nat) : C → Env → (Xt → Env → Option R) → Option R := xc (R := R) (T_laws_szTermS nf kf).S nf
noncomputable def m_laws_szTerm (nf kf : Nat) (a : Tm) (left : Int) : Option (Int) := runF (T_laws_szTerm nf kf) nf [.v (kR 2), .v kI] [.t 4 (.v kI)] ir_laws_szTerm (a, left, ())
noncomputable def l16_laws_szTermS (nf kf : Nat) (m16 : Nat) (a : List Tm) (x1_16 : Int) (x5_16 : Int) : Option (Int) := xit [0, 1, 5] [] (X_laws_szTermS nf kf c17_laws_szTermS) (qB 0 (qS (X_laws_szTermS nf kf c35_laws_szTermS) (KF [.t 4 (.v kI)]))) m16 ⟨[(0, .v (kL (kR 2)) a), (1, .v kI x1_16), (5, .v kI x5_16)], []⟩
theorem l16_laws_szTermS_eq (nf kf : Nat) (m16 : Nat) (a : List Tm) (x1_16 : Int) (x5_16 : Int) : l16_laws_szTermS nf (kf + 1) (m16 + 1) a x1_16 x5_16 = (
  br (decide (x5_16 < (List.length a : Int))) (
    gg (0 ≤ x5_16 ∧ x5_16 < (List.length a : Int)) <|
      cb (m_laws_szTerm nf kf (gt a x5_16 Tm.zero) x1_16) fun r23 =>
        br (decide (r23 < (0 : Int))) (
          some (-1 : Int)) (
          mark (l16_laws_szTermS nf (kf + 1) m16 a r23 (w64 (x5_16 + (1 : Int)))))) (
    some x1_16)) := by kernel_rfl
theorem m_laws_szTermS_eq (nf kf : Nat) (a : List Tm) (left : Int) : m_laws_szTermS nf (kf + 1) a left = (
  br (decide ((w64 (left - (List.length a : Int))) < (0 : Int))) (
    some (-1 : Int)) (
    mark (l16_laws_szTermS nf (kf + 1) nf a (w64 (left - (List.length a : Int))) (0 : Int)))) := by kernel_rfl
noncomputable def e_laws_szTermS (nf : Nat) : XE := eF 91 [.v (kL (kR 2)), .v kI] [.v kI] (fun t => m_laws_szTermS nf nf t.1 t.2.1)
theorem m_laws_szTerm_eq (nf kf : Nat) (a : Tm) (left : Int) : m_laws_szTerm nf (kf + 1) a left = (
  br (decide ((w64 (left - (List.length a.name : Int))) < (0 : Int))) (
    some (-1 : Int)) (
    cb (m_laws_szType nf nf (Ty.h a.type) (w64 (left - (List.length a.name : Int)))) fun r15 =>
      br (decide (r15 < (0 : Int))) (
        some (-1 : Int)) (
        cb (m_laws_szStringS nf a.labels r15) fun r21 =>
          br (decide (r21 < (0 : Int))) (
            some (-1 : Int)) (
            cb (m_laws_szTermS nf kf a.args r21) fun r27 =>
              br (decide (r27 < (0 : Int))) (
                some (-1 : Int)) (
                some r27))))) := by kernel_rfl
noncomputable def e_laws_szTerm (nf : Nat) : XE := eF 90 [.v (kR 2), .v kI] [.v kI] (fun t => m_laws_szTerm nf nf t.1 t.2.1)
theorem gok_laws_szTermS (nf : Nat) : ∀ kf : Nat, XT.ok Try.prog (G_laws_szTermS nf kf ++ B_laws_szTermS nf)
  | 0 => by exact ⟨o_laws_szType nf, o_laws_szStringS nf, trivial⟩
  | kf + 1 => by
    have ih := gok_laws_szTermS nf kf
    refine ⟨?_, ?_, (by exact ⟨o_laws_szType nf, o_laws_szStringS nf, trivial⟩)⟩
    · refine eF_ok fun t x h => ?_
      obtain ⟨a, left, _⟩ := t
      exact runF_ok (N := 27) ih Try.func91 (by kernel_rfl) rfl h
    · refine eF_ok fun t x h => ?_
      obtain ⟨a, left, _⟩ := t
      exact runF_ok (N := 31) ih Try.func90 (by kernel_rfl) rfl h
theorem o_laws_szTermS (nf : Nat) : conOK Try.prog 91 (e_laws_szTermS nf).con := by
  have ih := gok_laws_szTermS nf nf
  refine eF_ok fun t x h => ?_
  obtain ⟨a, left, _⟩ := t
  exact runF_ok (N := 27) ih Try.func91 (by kernel_rfl) rfl h
theorem o_laws_szTerm (nf : Nat) : conOK Try.prog 90 (e_laws_szTerm nf).con := by
  have ih := gok_laws_szTermS nf nf
  refine eF_ok fun t x h => ?_
  obtain ⟨a, left, _⟩ := t
  exact runF_ok (N := 31) ih Try.func90 (by kernel_rfl) rfl h
def c31_laws_eqTermS : C := .sq (.rg [.mv 4 (.b true)]) .rt
def c15_laws_eqTermS : C := .sq (.sq (.rg [.mv 11 (.t 5), .mv 12 (.t 0), .ln 13 false (.t 12), .bi 14 .lss (.t 11) (.t 13)]) (.cd (.t 14) .skip (.ex 0))) (.sq (.bk 1 (.sq (.dr [] [.mv 17 (.t 0), .mv 18 (.t 5), .ia 19 (.t 17) (.t 18) (kR 2), .ld 20 (.t 19) (kR 2), .mv 21 (.t 1), .mv 22 (.t 5), .ia 23 (.t 21) (.t 22) (kR 2), .ld 24 (.t 23) (kR 2)] [.cv (some 25) 97 [((.t 20), .v (kR 2)), ((.t 24), .v (kR 2))], .un 26 .not (.t 25)]) (.cd (.t 26) (.sq (.rg [.mv 4 (.b false)]) .rt) .skip))) (.rg [.mv 15 (.t 5), .bi 16 .add (.t 15) (.i 1), .mv 5 (.t 16)]))
def ir_laws_eqTermS : C := .sq (.rg [.mv 4 (.b false)]) (.sq (.sq (.rg [.mv 6 (.t 0), .ln 7 false (.t 6), .mv 8 (.t 1), .ln 9 false (.t 8), .bi 10 .neq (.t 7) (.t 9)]) (.cd (.t 10) (.sq (.rg [.mv 4 (.b false)]) .rt) .skip)) (.sq (.sq (.rg [.mv 5 (.i 0)]) (.bk 0 (.lk [0, 1, 5] [] c15_laws_eqTermS))) c31_laws_eqTermS))
def ir_laws_eqTerm : C := .sq (.rg [.bx 2 (.t 0) (kR 2), .bx 3 (.t 1) (kR 2), .mv 4 (.b false)]) (.sq (.sq (.rg [.fa 5 (.t 2) 2 0 0, .ld 6 (.t 5) kI, .fa 7 (.t 3) 2 0 0, .ld 8 (.t 7) kI, .bi 9 .neq (.t 6) (.t 8)]) (.cd (.t 9) (.sq (.rg [.mv 4 (.b false)]) .rt) .skip)) (.sq (.sq (.rg [.fa 10 (.t 2) 2 1 1, .ld 11 (.t 10) kS, .fa 12 (.t 3) 2 1 1, .ld 13 (.t 12) kS, .bi 14 .neq (.t 11) (.t 13)]) (.cd (.t 14) (.sq (.rg [.mv 4 (.b false)]) .rt) .skip)) (.sq (.sq (.rg [.fa 15 (.t 2) 2 2 2, .ld 16 (.t 15) kI, .fa 17 (.t 3) 2 2 2, .ld 18 (.t 17) kI, .bi 19 .neq (.t 16) (.t 18)]) (.cd (.t 19) (.sq (.rg [.mv 4 (.b false)]) .rt) .skip)) (.sq (.sq (.rg [.fa 20 (.t 2) 2 3 3, .ld 21 (.t 20) (kR 0), .fa 22 (.t 3) 2 3 3, .ld 23 (.t 22) (kR 0), .cv (some 24) 136 [((.t 21), .v (kR 0)), ((.t 23), .v (kR 0))], .un 25 .not (.t 24)]) (.cd (.t 25) (.sq (.rg [.mv 4 (.b false)]) .rt) .skip)) (.sq (.sq (.rg [.fa 26 (.t 2) 2 4 6, .ld 27 (.t 26) (kL kS), .fa 28 (.t 3) 2 4 6, .ld 29 (.t 28) (kL kS), .cv (some 30) 18 [((.t 27), .v (kL kS)), ((.t 29), .v (kL kS))], .un 31 .not (.t 30)]) (.cd (.t 31) (.sq (.rg [.mv 4 (.b false)]) .rt) .skip)) (.sq (.sq (.rg [.fa 32 (.t 2) 2 5 7, .ld 33 (.t 32) (kL (kR 2)), .fa 34 (.t 3) 2 5 7, .ld 35 (.t 34) (kL (kR 2)), .cv (some 36) 98 [((.t 33), .v (kL (kR 2))), ((.t 35), .v (kL (kR 2)))], .un 37 .not (.t 36)]) (.cd (.t 37) (.sq (.rg [.mv 4 (.b false)]) .rt) .skip)) (.sq (.rg [.mv 4 (.b true)]) .rt)))))))
noncomputable def B_laws_eqTermS (nf : Nat) : XT := [e_laws_eqType nf, e_laws_eqStringS nf]
noncomputable def G_laws_eqTermS (nf : Nat) : Nat → XT
  | 0 => []
  | kf + 1 => [eF 98 [.v (kL (kR 2)), .v (kL (kR 2))] [.v .bool] (fun t => (fun (a : List Tm) (b : List Tm) => runF (G_laws_eqTermS nf kf ++ B_laws_eqTermS nf) nf [.v (kL (kR 2)), .v (kL (kR 2))] [.t 4 (.v .bool)] ir_laws_eqTermS (a, b, ())) t.1 t.2.1),
    eF 97 [.v (kR 2), .v (kR 2)] [.v .bool] (fun t => (fun (a : Tm) (b : Tm) => runF (G_laws_eqTermS nf kf ++ B_laws_eqTermS nf) nf [.v (kR 2), .v (kR 2)] [.t 4 (.v .bool)] ir_laws_eqTerm (a, b, ())) t.1 t.2.1)]
noncomputable abbrev T_laws_eqTermS (nf kf : Nat) : XT := G_laws_eqTermS nf kf ++ B_laws_eqTermS nf
noncomputable abbrev T_laws_eqTerm (nf kf : Nat) : XT := G_laws_eqTermS nf kf ++ B_laws_eqTermS nf
noncomputable def m_laws_eqTermS (nf kf : Nat) (a : List Tm) (b : List Tm) : Option (Bool) := runF (T_laws_eqTermS nf kf) nf [.v (kL (kR 2)), .v (kL (kR 2))] [.t 4 (.v .bool)] ir_laws_eqTermS (a, b, ())
noncomputable def X_laws_eqTermS {R : Type} (nf kf : Nat) : C → Env → (Xt → Env → Option R) → Option R := xc (R := R) (T_laws_eqTermS nf kf).S nf
noncomputable def m_laws_eqTerm (nf kf : Nat) (a : Tm) (b : Tm) : Option (Bool) := runF (T_laws_eqTerm nf kf) nf [.v (kR 2), .v (kR 2)] [.t 4 (.v .bool)] ir_laws_eqTerm (a, b, ())
noncomputable def l14_laws_eqTermS (nf kf : Nat) (m14 : Nat) (a : List Tm) (b : List Tm) (x5_14 : Int) : Option (Bool) := xit [0, 1, 5] [] (X_laws_eqTermS nf kf c15_laws_eqTermS) (qB 0 (qS (X_laws_eqTermS nf kf c31_laws_eqTermS) (KF [.t 4 (.v .bool)]))) m14 ⟨[(0, .v (kL (kR 2)) a), (1, .v (kL (kR 2)) b), (5, .v kI x5_14)], []⟩
theorem l14_laws_eqTermS_eq (nf kf : Nat) (m14 : Nat) (a : List Tm) (b : List Tm) (x5_14 : Int) : l14_laws_eqTermS nf (kf + 1) (m14 + 1) a b x5_14 = (
  br (decide (x5_14 < (List.length a : Int))) (
    gg (0 ≤ x5_14 ∧ x5_14 < (List.length a : Int)) <|
      gg (0 ≤ x5_14 ∧ x5_14 < (List.length b : Int)) <|
        cb (m_laws_eqTerm nf kf (gt a x5_14 Tm.zero) (gt b x5_14 Tm.zero)) fun r25 =>
          br (!r25) (
            some false) (
            mark (l14_laws_eqTermS nf (kf + 1) m14 a b (w64 (x5_14 + (1 : Int)))))) (
    some true)) := by kernel_rfl
theorem m_laws_eqTermS_eq (nf kf : Nat) (a : List Tm) (b : List Tm) : m_laws_eqTermS nf (kf + 1) a b = (
  br (!((List.length a : Int) == (List.length b : Int))) (
    some false) (
    mark (l14_laws_eqTermS nf (kf + 1) nf a b (0 : Int)))) := by kernel_rfl
noncomputable def e_laws_eqTermS (nf : Nat) : XE := eF 98 [.v (kL (kR 2)), .v (kL (kR 2))] [.v .bool] (fun t => m_laws_eqTermS nf nf t.1 t.2.1)
theorem m_laws_eqTerm_eq (nf kf : Nat) (a : Tm) (b : Tm) : m_laws_eqTerm nf (kf + 1) a b = (
  br (!(a.kind == b.kind)) (
    some false) (
    br (!(a.name == b.name)) (
      some false) (
      br (!(a.n == b.n)) (
        some false) (
        cb (m_laws_eqType nf nf (Ty.h a.type) (Ty.h b.type)) fun r24 =>
          br (!r24) (
            some false) (
            cb (m_laws_eqStringS nf a.labels b.labels) fun r30 =>
              br (!r30) (
                some false) (
                cb (m_laws_eqTermS nf kf a.args b.args) fun r36 =>
                  br (!r36) (
                    some false) (
                    some true))))))) := by kernel_rfl
noncomputable def e_laws_eqTerm (nf : Nat) : XE := eF 97 [.v (kR 2), .v (kR 2)] [.v .bool] (fun t => m_laws_eqTerm nf nf t.1 t.2.1)
theorem gok_laws_eqTermS (nf : Nat) : ∀ kf : Nat, XT.ok Try.prog (G_laws_eqTermS nf kf ++ B_laws_eqTermS nf)
  | 0 => by exact ⟨o_laws_eqType nf, o_laws_eqStringS nf, trivial⟩
  | kf + 1 => by
    have ih := gok_laws_eqTermS nf kf
    refine ⟨?_, ?_, (by exact ⟨o_laws_eqType nf, o_laws_eqStringS nf, trivial⟩)⟩
    · refine eF_ok fun t x h => ?_
      obtain ⟨a, b, _⟩ := t
      exact runF_ok (N := 27) ih Try.func98 (by kernel_rfl) rfl h
    · refine eF_ok fun t x h => ?_
      obtain ⟨a, b, _⟩ := t
      exact runF_ok (N := 38) ih Try.func97 (by kernel_rfl) rfl h
theorem o_laws_eqTermS (nf : Nat) : conOK Try.prog 98 (e_laws_eqTermS nf).con := by
  have ih := gok_laws_eqTermS nf nf
  refine eF_ok fun t x h => ?_
  obtain ⟨a, b, _⟩ := t
  exact runF_ok (N := 27) ih Try.func98 (by kernel_rfl) rfl h
theorem o_laws_eqTerm (nf : Nat) : conOK Try.prog 97 (e_laws_eqTerm nf).con := by
  have ih := gok_laws_eqTermS nf nf
  refine eF_ok fun t x h => ?_
  obtain ⟨a, b, _⟩ := t
  exact runF_ok (N := 38) ih Try.func97 (by kernel_rfl) rfl h
def c19_laws_toPlanS : C := .sq (.rg [.mv 22 (.t 3), .mv 2 (.t 22)]) .rt
def c9_laws_toPlanS : C := .sq (.sq (.rg [.mv 8 (.t 4), .mv 9 (.t 0), .ln 10 false (.t 9), .bi 11 .lss (.t 8) (.t 10)]) (.cd (.t 11) .skip (.ex 0))) (.sq (.bk 1 (.rg [.mv 14 (.t 3), .mv 15 (.t 4), .mv 16 (.t 0), .mv 17 (.t 4), .ia 18 (.t 16) (.t 17) (kR 17), .ld 19 (.t 18) (kR 17), .ca (some 20) 41 [((.t 19), .v (kR 17))], .ia 21 (.t 14) (.t 15) (kR 17), .st (.t 21) (.t 20) (kR 17)])) (.rg [.mv 12 (.t 4), .bi 13 .add (.t 12) (.i 1), .mv 4 (.t 13)]))
def ir_laws_toPlanS : C := .sq (.rg [.mv 2 (.nl (kR 17))]) (.sq (.rg [.mv 5 (.t 0), .ln 6 false (.t 5), .mk 7 true (kR 17) (.t 6), .mv 3 (.t 7)]) (.sq (.sq (.rg [.mv 4 (.i 0)]) (.bk 0 (.lk [0, 3, 4] [[7]] c9_laws_toPlanS))) c19_laws_toPlanS))
def ir_laws_toPlan : C := .sq (.rg [.bx 1 (.t 0) (kR 17), .al 2 (kR 17)]) (.sq (.rg [.al 3 (kR 17)]) (.sq (.rg [.fa 4 (.t 1) 17 0 0, .ld 5 (.t 4) kI, .fa 6 (.t 3) 17 0 0, .st (.t 6) (.t 5) kI]) (.sq (.rg [.fa 7 (.t 1) 17 1 1, .ld 8 (.t 7) kS, .fa 9 (.t 3) 17 1 1, .st (.t 9) (.t 8) kS]) (.sq (.rg [.fa 10 (.t 1) 17 2 2, .ld 11 (.t 10) kS, .fa 12 (.t 3) 17 2 2, .st (.t 12) (.t 11) kS]) (.sq (.rg [.fa 13 (.t 1) 17 3 3, .ld 14 (.t 13) (kR 2), .ca (some 15) 94 [((.t 14), .v (kR 2))], .fa 16 (.t 3) 17 3 3, .st (.t 16) (.t 15) (kR 2)]) (.sq (.rg [.fa 17 (.t 1) 17 4 11, .ld 18 (.t 17) (kL (kR 2)), .ca (some 19) 95 [((.t 18), .v (kL (kR 2)))], .fa 20 (.t 3) 17 4 11, .st (.t 20) (.t 19) (kL (kR 2))]) (.sq (.rg [.fa 21 (.t 1) 17 5 12, .ld 22 (.t 21) (kL (kR 17)), .ca (some 23) 96 [((.t 22), .v (kL (kR 17)))], .fa 24 (.t 3) 17 5 12, .st (.t 24) (.t 23) (kL (kR 17))]) (.sq (.rg [.ld 25 (.t 3) (kR 17), .st (.t 2) (.t 25) (kR 17)]) .rt))))))))
noncomputable def B_laws_toPlanS (nf : Nat) : XT := [e_laws_toTerm nf, e_laws_toTermS nf]
noncomputable def G_laws_toPlanS (nf : Nat) : Nat → XT
  | 0 => []
  | kf + 1 => [eF 96 [.v (kL (kR 17))] [.o (kL (kR 17))] (fun t => (fun (a : List Plan) => runF (G_laws_toPlanS nf kf ++ B_laws_toPlanS nf) nf [.v (kL (kR 17))] [.t 2 (.o (kL (kR 17)))] ir_laws_toPlanS (a, ())) t.1),
    eF 41 [.v (kR 17)] [.o (kR 17)] (fun t => (fun (a : Plan) => runF (G_laws_toPlanS nf kf ++ B_laws_toPlanS nf) nf [.v (kR 17)] [.c 2 (.o (kR 17))] ir_laws_toPlan (a, ())) t.1)]
noncomputable abbrev T_laws_toPlanS (nf kf : Nat) : XT := G_laws_toPlanS nf kf ++ B_laws_toPlanS nf
noncomputable abbrev T_laws_toPlan (nf kf : Nat) : XT := G_laws_toPlanS nf kf ++ B_laws_toPlanS nf
noncomputable def m_laws_toPlanS (nf kf : Nat) (a : List Plan) : Option (List Plan) := runF (T_laws_toPlanS nf kf) nf [.v (kL (kR 17))] [.t 2 (.o (kL (kR 17)))] ir_laws_toPlanS (a, ())
noncomputable def X_laws_toPlanS {R : Type} (nf kf : Nat) : C → Env → (Xt → Env → Option R) → Option R := xc (R := R) (T_laws_toPlanS nf kf).S nf
noncomputable def m_laws_toPlan (nf kf : Nat) (a : Plan) : Option (Plan) := runF (T_laws_toPlan nf kf) nf [.v (kR 17)] [.c 2 (.o (kR 17))] ir_laws_toPlan (a, ())
noncomputable def l8_laws_toPlanS (nf kf : Nat) (m8 : Nat) (a : List Plan) (x4_8 : Int) (y7_8 : List Plan) : Option (List Plan) := xit [0, 3, 4] [[7]] (X_laws_toPlanS nf kf c9_laws_toPlanS) (qB 0 (qS (X_laws_toPlanS nf kf c19_laws_toPlanS) (KF [.t 2 (.o (kL (kR 17)))]))) m8 ⟨[(0, .v (kL (kR 17)) a), (3, .sl [7]), (4, .v kI x4_8)], [([7], .row true false (kR 17) y7_8)]⟩
theorem l8_laws_toPlanS_eq (nf kf : Nat) (m8 : Nat) (a : List Plan) (x4_8 : Int) (y7_8 : List Plan) : l8_laws_toPlanS nf (kf + 1) (m8 + 1) a x4_8 y7_8 = (
  br (decide (x4_8 < (List.length a : Int))) (
    gg (0 ≤ x4_8 ∧ x4_8 < (List.length a : Int)) <|
      cb (m_laws_toPlan nf kf (gt a x4_8 Plan.zero)) fun r20 =>
        gg (0 ≤ x4_8 ∧ x4_8 < (List.length y7_8 : Int)) <|
          gg (0 ≤ x4_8 ∧ x4_8 < (List.length y7_8 : Int)) <|
            mark (l8_laws_toPlanS nf (kf + 1) m8 a (w64 (x4_8 + (1 : Int))) (List.set y7_8 (Int.toNat x4_8) (Plan.h r20)))) (
    some y7_8)) := by kernel_rfl
theorem m_laws_toPlanS_eq (nf kf : Nat) (a : List Plan) : m_laws_toPlanS nf (kf + 1) a = (
  gg (0 ≤ (List.length a : Int) ∧ (List.length a : Int) ≤ 2147483647) <|
    mark (l8_laws_toPlanS nf (kf + 1) nf a (0 : Int) (List.replicate (Int.toNat (List.length a : Int)) Plan.zero))) := by kernel_rfl
noncomputable def e_laws_toPlanS (nf : Nat) : XE := eF 96 [.v (kL (kR 17))] [.o (kL (kR 17))] (fun t => m_laws_toPlanS nf nf t.1)
theorem m_laws_toPlan_eq (nf kf : Nat) (a : Plan) : m_laws_toPlan nf (kf + 1) a = (
  cb (m_laws_toTerm nf nf (Tm.h a.cond)) fun r15 =>
    cb (m_laws_toTermS nf nf a.keys) fun r19 =>
      cb (m_laws_toPlanS nf kf a.args) fun r23 =>
        some (Plan.mk a.kind a.var a.table (Tm.h r15) r19 r23)) := by kernel_rfl
noncomputable def e_laws_toPlan (nf : Nat) : XE := eF 41 [.v (kR 17)] [.o (kR 17)] (fun t => m_laws_toPlan nf nf t.1)
theorem gok_laws_toPlanS (nf : Nat) : ∀ kf : Nat, XT.ok Try.prog (G_laws_toPlanS nf kf ++ B_laws_toPlanS nf)
  | 0 => by exact ⟨o_laws_toTerm nf, o_laws_toTermS nf, trivial⟩
  | kf + 1 => by
    have ih := gok_laws_toPlanS nf kf
    refine ⟨?_, ?_, (by exact ⟨o_laws_toTerm nf, o_laws_toTermS nf, trivial⟩)⟩
    · refine eF_ok fun t x h => ?_
      obtain ⟨a, _⟩ := t
      exact runF_ok (N := 23) ih Try.func96 (by kernel_rfl) rfl h
    · refine eF_ok fun t x h => ?_
      obtain ⟨a, _⟩ := t
      exact runF_ok (N := 26) ih Try.func41 (by kernel_rfl) rfl h
theorem o_laws_toPlanS (nf : Nat) : conOK Try.prog 96 (e_laws_toPlanS nf).con := by
  have ih := gok_laws_toPlanS nf nf
  refine eF_ok fun t x h => ?_
  obtain ⟨a, _⟩ := t
  exact runF_ok (N := 23) ih Try.func96 (by kernel_rfl) rfl h
theorem o_laws_toPlan (nf : Nat) : conOK Try.prog 41 (e_laws_toPlan nf).con := by
  have ih := gok_laws_toPlanS nf nf
  refine eF_ok fun t x h => ?_
  obtain ⟨a, _⟩ := t
  exact runF_ok (N := 26) ih Try.func41 (by kernel_rfl) rfl h
def c35_laws_szPlanS : C := .sq (.rg [.mv 26 (.t 1), .mv 4 (.t 26)]) .rt
def c17_laws_szPlanS : C := .sq (.sq (.rg [.mv 12 (.t 5), .mv 13 (.t 0), .ln 14 false (.t 13), .bi 15 .lss (.t 12) (.t 14)]) (.cd (.t 15) .skip (.ex 0))) (.sq (.bk 1 (.sq (.rg [.mv 18 (.t 0), .mv 19 (.t 5), .ia 20 (.t 18) (.t 19) (kR 17), .ld 21 (.t 20) (kR 17), .mv 22 (.t 1), .cv (some 23) 39 [((.t 21), .v (kR 17)), ((.t 22), .v kI)], .mv 1 (.t 23)]) (.sq (.rg [.mv 24 (.t 1), .bi 25 .lss (.t 24) (.i 0)]) (.cd (.t 25) (.sq (.rg [.mv 4 (.i (-1))]) .rt) .skip)))) (.rg [.mv 16 (.t 5), .bi 17 .add (.t 16) (.i 1), .mv 5 (.t 17)]))
def ir_laws_szPlanS : C := .sq (.rg [.mv 4 (.i 0)]) (.sq (.rg [.mv 6 (.t 1), .mv 7 (.t 0), .ln 8 false (.t 7), .bi 9 .sub (.t 6) (.t 8), .mv 1 (.t 9)]) (.sq (.sq (.rg [.mv 10 (.t 1), .bi 11 .lss (.t 10) (.i 0)]) (.cd (.t 11) (.sq (.rg [.mv 4 (.i (-1))]) .rt) .skip)) (.sq (.sq (.rg [.mv 5 (.i 0)]) (.bk 0 (.lk [0, 1, 5] [] c17_laws_szPlanS))) c35_laws_szPlanS)))
def ir_laws_szPlan : C := .sq (.rg [.bx 2 (.t 0) (kR 17), .mv 4 (.i 0)]) (.sq (.rg [.mv 5 (.t 1), .fa 6 (.t 2) 17 1 1, .ld 7 (.t 6) kS, .ln 8 true (.t 7), .bi 9 .sub (.t 5) (.t 8), .mv 1 (.t 9)]) (.sq (.sq (.rg [.mv 10 (.t 1), .bi 11 .lss (.t 10) (.i 0)]) (.cd (.t 11) (.sq (.rg [.mv 4 (.i (-1))]) .rt) .skip)) (.sq (.rg [.mv 12 (.t 1), .fa 13 (.t 2) 17 2 2, .ld 14 (.t 13) kS, .ln 15 true (.t 14), .bi 16 .sub (.t 12) (.t 15), .mv 1 (.t 16)]) (.sq (.sq (.rg [.mv 17 (.t 1), .bi 18 .lss (.t 17) (.i 0)]) (.cd (.t 18) (.sq (.rg [.mv 4 (.i (-1))]) .rt) .skip)) (.sq (.rg [.fa 19 (.t 2) 17 3 3, .ld 20 (.t 19) (kR 2), .mv 21 (.t 1), .cv (some 22) 90 [((.t 20), .v (kR 2)), ((.t 21), .v kI)], .mv 1 (.t 22)]) (.sq (.sq (.rg [.mv 23 (.t 1), .bi 24 .lss (.t 23) (.i 0)]) (.cd (.t 24) (.sq (.rg [.mv 4 (.i (-1))]) .rt) .skip)) (.sq (.rg [.fa 25 (.t 2) 17 4 11, .ld 26 (.t 25) (kL (kR 2)), .mv 27 (.t 1), .cv (some 28) 91 [((.t 26), .v (kL (kR 2))), ((.t 27), .v kI)], .mv 1 (.t 28)]) (.sq (.sq (.rg [.mv 29 (.t 1), .bi 30 .lss (.t 29) (.i 0)]) (.cd (.t 30) (.sq (.rg [.mv 4 (.i (-1))]) .rt) .skip)) (.sq (.rg [.fa 31 (.t 2) 17 5 12, .ld 32 (.t 31) (kL (kR 17)), .mv 33 (.t 1), .cv (some 34) 92 [((.t 32), .v (kL (kR 17))), ((.t 33), .v kI)], .mv 1 (.t 34)]) (.sq (.sq (.rg [.mv 35 (.t 1), .bi 36 .lss (.t 35) (.i 0)]) (.cd (.t 36) (.sq (.rg [.mv 4 (.i (-1))]) .rt) .skip)) (.sq (.rg [.mv 37 (.t 1), .mv 4 (.t 37)]) .rt)))))))))))
noncomputable def B_laws_szPlanS (nf : Nat) : XT := [e_laws_szTerm nf, e_laws_szTermS nf]
noncomputable def G_laws_szPlanS (nf : Nat) : Nat → XT
  | 0 => []
  | kf + 1 => [eF 92 [.v (kL (kR 17)), .v kI] [.v kI] (fun t => (fun (a : List Plan) (left : Int) => runF (G_laws_szPlanS nf kf ++ B_laws_szPlanS nf) nf [.v (kL (kR 17)), .v kI] [.t 4 (.v kI)] ir_laws_szPlanS (a, left, ())) t.1 t.2.1),
    eF 39 [.v (kR 17), .v kI] [.v kI] (fun t => (fun (a : Plan) (left : Int) => runF (G_laws_szPlanS nf kf ++ B_laws_szPlanS nf) nf [.v (kR 17), .v kI] [.t 4 (.v kI)] ir_laws_szPlan (a, left, ())) t.1 t.2.1)]
noncomputable abbrev T_laws_szPlanS (nf kf : Nat) : XT := G_laws_szPlanS nf kf ++ B_laws_szPlanS nf
noncomputable abbrev T_laws_szPlan (nf kf : Nat) : XT := G_laws_szPlanS nf kf ++ B_laws_szPlanS nf
noncomputable def m_laws_szPlanS (nf kf : Nat) (a : List Plan) (left : Int) : Option (Int) := runF (T_laws_szPlanS nf kf) nf [.v (kL (kR 17)), .v kI] [.t 4 (.v kI)] ir_laws_szPlanS (a, left, ())
noncomputable def X_laws_szPlanS {R : Type} (nf kf : Nat) : C → Env → (Xt → Env → Option R) → Option R := xc (R := R) (T_laws_szPlanS nf kf).S nf
noncomputable def m_laws_szPlan (nf kf : Nat) (a : Plan) (left : Int) : Option (Int) := runF (T_laws_szPlan nf kf) nf [.v (kR 17), .v kI] [.t 4 (.v kI)] ir_laws_szPlan (a, left, ())
noncomputable def l16_laws_szPlanS (nf kf : Nat) (m16 : Nat) (a : List Plan) (x1_16 : Int) (x5_16 : Int) : Option (Int) := xit [0, 1, 5] [] (X_laws_szPlanS nf kf c17_laws_szPlanS) (qB 0 (qS (X_laws_szPlanS nf kf c35_laws_szPlanS) (KF [.t 4 (.v kI)]))) m16 ⟨[(0, .v (kL (kR 17)) a), (1, .v kI x1_16), (5, .v kI x5_16)], []⟩
theorem l16_laws_szPlanS_eq (nf kf : Nat) (m16 : Nat) (a : List Plan) (x1_16 : Int) (x5_16 : Int) : l16_laws_szPlanS nf (kf + 1) (m16 + 1) a x1_16 x5_16 = (
  br (decide (x5_16 < (List.length a : Int))) (
    gg (0 ≤ x5_16 ∧ x5_16 < (List.length a : Int)) <|
      cb (m_laws_szPlan nf kf (gt a x5_16 Plan.zero) x1_16) fun r23 =>
        br (decide (r23 < (0 : Int))) (
          some (-1 : Int)) (
          mark (l16_laws_szPlanS nf (kf + 1) m16 a r23 (w64 (x5_16 + (1 : Int)))))) (
    some x1_16)) := by kernel_rfl
theorem m_laws_szPlanS_eq (nf kf : Nat) (a : List Plan) (left : Int) : m_laws_szPlanS nf (kf + 1) a left = (
  br (decide ((w64 (left - (List.length a : Int))) < (0 : Int))) (
    some (-1 : Int)) (
    mark (l16_laws_szPlanS nf (kf + 1) nf a (w64 (left - (List.length a : Int))) (0 : Int)))) := by kernel_rfl
noncomputable def e_laws_szPlanS (nf : Nat) : XE := eF 92 [.v (kL (kR 17)), .v kI] [.v kI] (fun t => m_laws_szPlanS nf nf t.1 t.2.1)
theorem m_laws_szPlan_eq (nf kf : Nat) (a : Plan) (left : Int) : m_laws_szPlan nf (kf + 1) a left = (
  br (decide ((w64 (left - (List.length a.var : Int))) < (0 : Int))) (
    some (-1 : Int)) (
    br (decide ((w64 ((w64 (left - (List.length a.var : Int))) - (List.length a.table : Int))) < (0 : Int))) (
      some (-1 : Int)) (
      cb (m_laws_szTerm nf nf (Tm.h a.cond) (w64 ((w64 (left - (List.length a.var : Int))) - (List.length a.table : Int)))) fun r22 =>
        br (decide (r22 < (0 : Int))) (
          some (-1 : Int)) (
          cb (m_laws_szTermS nf nf a.keys r22) fun r28 =>
            br (decide (r28 < (0 : Int))) (
              some (-1 : Int)) (
              cb (m_laws_szPlanS nf kf a.args r28) fun r34 =>
                br (decide (r34 < (0 : Int))) (
                  some (-1 : Int)) (
                  some r34)))))) := by kernel_rfl
noncomputable def e_laws_szPlan (nf : Nat) : XE := eF 39 [.v (kR 17), .v kI] [.v kI] (fun t => m_laws_szPlan nf nf t.1 t.2.1)
theorem gok_laws_szPlanS (nf : Nat) : ∀ kf : Nat, XT.ok Try.prog (G_laws_szPlanS nf kf ++ B_laws_szPlanS nf)
  | 0 => by exact ⟨o_laws_szTerm nf, o_laws_szTermS nf, trivial⟩
  | kf + 1 => by
    have ih := gok_laws_szPlanS nf kf
    refine ⟨?_, ?_, (by exact ⟨o_laws_szTerm nf, o_laws_szTermS nf, trivial⟩)⟩
    · refine eF_ok fun t x h => ?_
      obtain ⟨a, left, _⟩ := t
      exact runF_ok (N := 27) ih Try.func92 (by kernel_rfl) rfl h
    · refine eF_ok fun t x h => ?_
      obtain ⟨a, left, _⟩ := t
      exact runF_ok (N := 38) ih Try.func39 (by kernel_rfl) rfl h
theorem o_laws_szPlanS (nf : Nat) : conOK Try.prog 92 (e_laws_szPlanS nf).con := by
  have ih := gok_laws_szPlanS nf nf
  refine eF_ok fun t x h => ?_
  obtain ⟨a, left, _⟩ := t
  exact runF_ok (N := 27) ih Try.func92 (by kernel_rfl) rfl h
theorem o_laws_szPlan (nf : Nat) : conOK Try.prog 39 (e_laws_szPlan nf).con := by
  have ih := gok_laws_szPlanS nf nf
  refine eF_ok fun t x h => ?_
  obtain ⟨a, left, _⟩ := t
  exact runF_ok (N := 38) ih Try.func39 (by kernel_rfl) rfl h
def c31_laws_eqPlanS : C := .sq (.rg [.mv 4 (.b true)]) .rt
def c15_laws_eqPlanS : C := .sq (.sq (.rg [.mv 11 (.t 5), .mv 12 (.t 0), .ln 13 false (.t 12), .bi 14 .lss (.t 11) (.t 13)]) (.cd (.t 14) .skip (.ex 0))) (.sq (.bk 1 (.sq (.dr [] [.mv 17 (.t 0), .mv 18 (.t 5), .ia 19 (.t 17) (.t 18) (kR 17), .ld 20 (.t 19) (kR 17), .mv 21 (.t 1), .mv 22 (.t 5), .ia 23 (.t 21) (.t 22) (kR 17), .ld 24 (.t 23) (kR 17)] [.cv (some 25) 43 [((.t 20), .v (kR 17)), ((.t 24), .v (kR 17))], .un 26 .not (.t 25)]) (.cd (.t 26) (.sq (.rg [.mv 4 (.b false)]) .rt) .skip))) (.rg [.mv 15 (.t 5), .bi 16 .add (.t 15) (.i 1), .mv 5 (.t 16)]))
def ir_laws_eqPlanS : C := .sq (.rg [.mv 4 (.b false)]) (.sq (.sq (.rg [.mv 6 (.t 0), .ln 7 false (.t 6), .mv 8 (.t 1), .ln 9 false (.t 8), .bi 10 .neq (.t 7) (.t 9)]) (.cd (.t 10) (.sq (.rg [.mv 4 (.b false)]) .rt) .skip)) (.sq (.sq (.rg [.mv 5 (.i 0)]) (.bk 0 (.lk [0, 1, 5] [] c15_laws_eqPlanS))) c31_laws_eqPlanS))
def ir_laws_eqPlan : C := .sq (.rg [.bx 2 (.t 0) (kR 17), .bx 3 (.t 1) (kR 17), .mv 4 (.b false)]) (.sq (.sq (.rg [.fa 5 (.t 2) 17 0 0, .ld 6 (.t 5) kI, .fa 7 (.t 3) 17 0 0, .ld 8 (.t 7) kI, .bi 9 .neq (.t 6) (.t 8)]) (.cd (.t 9) (.sq (.rg [.mv 4 (.b false)]) .rt) .skip)) (.sq (.sq (.rg [.fa 10 (.t 2) 17 1 1, .ld 11 (.t 10) kS, .fa 12 (.t 3) 17 1 1, .ld 13 (.t 12) kS, .bi 14 .neq (.t 11) (.t 13)]) (.cd (.t 14) (.sq (.rg [.mv 4 (.b false)]) .rt) .skip)) (.sq (.sq (.rg [.fa 15 (.t 2) 17 2 2, .ld 16 (.t 15) kS, .fa 17 (.t 3) 17 2 2, .ld 18 (.t 17) kS, .bi 19 .neq (.t 16) (.t 18)]) (.cd (.t 19) (.sq (.rg [.mv 4 (.b false)]) .rt) .skip)) (.sq (.sq (.rg [.fa 20 (.t 2) 17 3 3, .ld 21 (.t 20) (kR 2), .fa 22 (.t 3) 17 3 3, .ld 23 (.t 22) (kR 2), .cv (some 24) 97 [((.t 21), .v (kR 2)), ((.t 23), .v (kR 2))], .un 25 .not (.t 24)]) (.cd (.t 25) (.sq (.rg [.mv 4 (.b false)]) .rt) .skip)) (.sq (.sq (.rg [.fa 26 (.t 2) 17 4 11, .ld 27 (.t 26) (kL (kR 2)), .fa 28 (.t 3) 17 4 11, .ld 29 (.t 28) (kL (kR 2)), .cv (some 30) 98 [((.t 27), .v (kL (kR 2))), ((.t 29), .v (kL (kR 2)))], .un 31 .not (.t 30)]) (.cd (.t 31) (.sq (.rg [.mv 4 (.b false)]) .rt) .skip)) (.sq (.sq (.rg [.fa 32 (.t 2) 17 5 12, .ld 33 (.t 32) (kL (kR 17)), .fa 34 (.t 3) 17 5 12, .ld 35 (.t 34) (kL (kR 17)), .cv (some 36) 99 [((.t 33), .v (kL (kR 17))), ((.t 35), .v (kL (kR 17)))], .un 37 .not (.t 36)]) (.cd (.t 37) (.sq (.rg [.mv 4 (.b false)]) .rt) .skip)) (.sq (.rg [.mv 4 (.b true)]) .rt)))))))
noncomputable def B_laws_eqPlanS (nf : Nat) : XT := [e_laws_eqTerm nf, e_laws_eqTermS nf]
noncomputable def G_laws_eqPlanS (nf : Nat) : Nat → XT
  | 0 => []
  | kf + 1 => [eF 99 [.v (kL (kR 17)), .v (kL (kR 17))] [.v .bool] (fun t => (fun (a : List Plan) (b : List Plan) => runF (G_laws_eqPlanS nf kf ++ B_laws_eqPlanS nf) nf [.v (kL (kR 17)), .v (kL (kR 17))] [.t 4 (.v .bool)] ir_laws_eqPlanS (a, b, ())) t.1 t.2.1),
    eF 43 [.v (kR 17), .v (kR 17)] [.v .bool] (fun t => (fun (a : Plan) (b : Plan) => runF (G_laws_eqPlanS nf kf ++ B_laws_eqPlanS nf) nf [.v (kR 17), .v (kR 17)] [.t 4 (.v .bool)] ir_laws_eqPlan (a, b, ())) t.1 t.2.1)]
noncomputable abbrev T_laws_eqPlanS (nf kf : Nat) : XT := G_laws_eqPlanS nf kf ++ B_laws_eqPlanS nf
noncomputable abbrev T_laws_eqPlan (nf kf : Nat) : XT := G_laws_eqPlanS nf kf ++ B_laws_eqPlanS nf
noncomputable def m_laws_eqPlanS (nf kf : Nat) (a : List Plan) (b : List Plan) : Option (Bool) := runF (T_laws_eqPlanS nf kf) nf [.v (kL (kR 17)), .v (kL (kR 17))] [.t 4 (.v .bool)] ir_laws_eqPlanS (a, b, ())
noncomputable def X_laws_eqPlanS {R : Type} (nf kf : Nat) : C → Env → (Xt → Env → Option R) → Option R := xc (R := R) (T_laws_eqPlanS nf kf).S nf
noncomputable def m_laws_eqPlan (nf kf : Nat) (a : Plan) (b : Plan) : Option (Bool) := runF (T_laws_eqPlan nf kf) nf [.v (kR 17), .v (kR 17)] [.t 4 (.v .bool)] ir_laws_eqPlan (a, b, ())
noncomputable def l14_laws_eqPlanS (nf kf : Nat) (m14 : Nat) (a : List Plan) (b : List Plan) (x5_14 : Int) : Option (Bool) := xit [0, 1, 5] [] (X_laws_eqPlanS nf kf c15_laws_eqPlanS) (qB 0 (qS (X_laws_eqPlanS nf kf c31_laws_eqPlanS) (KF [.t 4 (.v .bool)]))) m14 ⟨[(0, .v (kL (kR 17)) a), (1, .v (kL (kR 17)) b), (5, .v kI x5_14)], []⟩
theorem l14_laws_eqPlanS_eq (nf kf : Nat) (m14 : Nat) (a : List Plan) (b : List Plan) (x5_14 : Int) : l14_laws_eqPlanS nf (kf + 1) (m14 + 1) a b x5_14 = (
  br (decide (x5_14 < (List.length a : Int))) (
    gg (0 ≤ x5_14 ∧ x5_14 < (List.length a : Int)) <|
      gg (0 ≤ x5_14 ∧ x5_14 < (List.length b : Int)) <|
        cb (m_laws_eqPlan nf kf (gt a x5_14 Plan.zero) (gt b x5_14 Plan.zero)) fun r25 =>
          br (!r25) (
            some false) (
            mark (l14_laws_eqPlanS nf (kf + 1) m14 a b (w64 (x5_14 + (1 : Int)))))) (
    some true)) := by kernel_rfl
theorem m_laws_eqPlanS_eq (nf kf : Nat) (a : List Plan) (b : List Plan) : m_laws_eqPlanS nf (kf + 1) a b = (
  br (!((List.length a : Int) == (List.length b : Int))) (
    some false) (
    mark (l14_laws_eqPlanS nf (kf + 1) nf a b (0 : Int)))) := by kernel_rfl
noncomputable def e_laws_eqPlanS (nf : Nat) : XE := eF 99 [.v (kL (kR 17)), .v (kL (kR 17))] [.v .bool] (fun t => m_laws_eqPlanS nf nf t.1 t.2.1)
theorem m_laws_eqPlan_eq (nf kf : Nat) (a : Plan) (b : Plan) : m_laws_eqPlan nf (kf + 1) a b = (
  br (!(a.kind == b.kind)) (
    some false) (
    br (!(a.var == b.var)) (
      some false) (
      br (!(a.table == b.table)) (
        some false) (
        cb (m_laws_eqTerm nf nf (Tm.h a.cond) (Tm.h b.cond)) fun r24 =>
          br (!r24) (
            some false) (
            cb (m_laws_eqTermS nf nf a.keys b.keys) fun r30 =>
              br (!r30) (
                some false) (
                cb (m_laws_eqPlanS nf kf a.args b.args) fun r36 =>
                  br (!r36) (
                    some false) (
                    some true))))))) := by kernel_rfl
noncomputable def e_laws_eqPlan (nf : Nat) : XE := eF 43 [.v (kR 17), .v (kR 17)] [.v .bool] (fun t => m_laws_eqPlan nf nf t.1 t.2.1)
theorem gok_laws_eqPlanS (nf : Nat) : ∀ kf : Nat, XT.ok Try.prog (G_laws_eqPlanS nf kf ++ B_laws_eqPlanS nf)
  | 0 => by exact ⟨o_laws_eqTerm nf, o_laws_eqTermS nf, trivial⟩
  | kf + 1 => by
    have ih := gok_laws_eqPlanS nf kf
    refine ⟨?_, ?_, (by exact ⟨o_laws_eqTerm nf, o_laws_eqTermS nf, trivial⟩)⟩
    · refine eF_ok fun t x h => ?_
      obtain ⟨a, b, _⟩ := t
      exact runF_ok (N := 27) ih Try.func99 (by kernel_rfl) rfl h
    · refine eF_ok fun t x h => ?_
      obtain ⟨a, b, _⟩ := t
      exact runF_ok (N := 38) ih Try.func43 (by kernel_rfl) rfl h
theorem o_laws_eqPlanS (nf : Nat) : conOK Try.prog 99 (e_laws_eqPlanS nf).con := by
  have ih := gok_laws_eqPlanS nf nf
  refine eF_ok fun t x h => ?_
  obtain ⟨a, b, _⟩ := t
  exact runF_ok (N := 27) ih Try.func99 (by kernel_rfl) rfl h
theorem o_laws_eqPlan (nf : Nat) : conOK Try.prog 43 (e_laws_eqPlan nf).con := by
  have ih := gok_laws_eqPlanS nf nf
  refine eF_ok fun t x h => ?_
  obtain ⟨a, b, _⟩ := t
  exact runF_ok (N := 38) ih Try.func43 (by kernel_rfl) rfl h
def ir_laws_toGen : C := .sq (.rg [.bx 1 (.t 0) (kR 3), .al 2 (kR 3)]) (.sq (.rg [.al 3 (kR 3)]) (.sq (.rg [.fa 4 (.t 1) 3 0 0, .ld 5 (.t 4) kS, .fa 6 (.t 3) 3 0 0, .st (.t 6) (.t 5) kS]) (.sq (.rg [.fa 7 (.t 1) 3 1 1, .ld 8 (.t 7) kS, .fa 9 (.t 3) 3 1 1, .st (.t 9) (.t 8) kS]) (.sq (.rg [.ld 10 (.t 3) (kR 3), .st (.t 2) (.t 10) (kR 3)]) .rt))))
noncomputable abbrev T_laws_toGen (nf : Nat) : XT := []
noncomputable def m_laws_toGen (nf : Nat) (a : Gen) : Option (Gen) := runF (T_laws_toGen nf) nf [.v (kR 3)] [.c 2 (.o (kR 3))] ir_laws_toGen (a, ())
theorem m_laws_toGen_eq (nf : Nat) (a : Gen) : m_laws_toGen nf a = (
  some a) := by kernel_rfl
noncomputable def e_laws_toGen (nf : Nat) : XE := eF 86 [.v (kR 3)] [.o (kR 3)] (fun t => m_laws_toGen nf t.1)
theorem o_laws_toGen (nf : Nat) : conOK Try.prog 86 (e_laws_toGen nf).con := by
  have ih : XT.ok Try.prog (T_laws_toGen nf) := by exact trivial
  refine eF_ok fun t x h => ?_
  obtain ⟨a, _⟩ := t
  exact runF_ok (N := 11) ih Try.func86 (by kernel_rfl) rfl h
def c19_laws_toGenS : C := .sq (.rg [.mv 22 (.t 3), .mv 2 (.t 22)]) .rt
def c9_laws_toGenS : C := .sq (.sq (.rg [.mv 8 (.t 4), .mv 9 (.t 0), .ln 10 false (.t 9), .bi 11 .lss (.t 8) (.t 10)]) (.cd (.t 11) .skip (.ex 0))) (.sq (.bk 1 (.rg [.mv 14 (.t 3), .mv 15 (.t 4), .mv 16 (.t 0), .mv 17 (.t 4), .ia 18 (.t 16) (.t 17) (kR 3), .ld 19 (.t 18) (kR 3), .ca (some 20) 86 [((.t 19), .v (kR 3))], .ia 21 (.t 14) (.t 15) (kR 3), .st (.t 21) (.t 20) (kR 3)])) (.rg [.mv 12 (.t 4), .bi 13 .add (.t 12) (.i 1), .mv 4 (.t 13)]))
def ir_laws_toGenS : C := .sq (.rg [.mv 2 (.nl (kR 3))]) (.sq (.rg [.mv 5 (.t 0), .ln 6 false (.t 5), .mk 7 true (kR 3) (.t 6), .mv 3 (.t 7)]) (.sq (.sq (.rg [.mv 4 (.i 0)]) (.bk 0 (.lk [0, 3, 4] [[7]] c9_laws_toGenS))) c19_laws_toGenS))
noncomputable abbrev T_laws_toGenS (nf : Nat) : XT := [e_laws_toGen nf]
noncomputable def m_laws_toGenS (nf : Nat) (a : List Gen) : Option (List Gen) := runF (T_laws_toGenS nf) nf [.v (kL (kR 3))] [.t 2 (.o (kL (kR 3)))] ir_laws_toGenS (a, ())
noncomputable def X_laws_toGenS {R : Type} (nf : Nat) : C → Env → (Xt → Env → Option R) → Option R := xc (R := R) (T_laws_toGenS nf).S nf
noncomputable def l8_laws_toGenS (nf : Nat) (m8 : Nat) (a : List Gen) (x4_8 : Int) (y7_8 : List Gen) : Option (List Gen) := xit [0, 3, 4] [[7]] (X_laws_toGenS nf c9_laws_toGenS) (qB 0 (qS (X_laws_toGenS nf c19_laws_toGenS) (KF [.t 2 (.o (kL (kR 3)))]))) m8 ⟨[(0, .v (kL (kR 3)) a), (3, .sl [7]), (4, .v kI x4_8)], [([7], .row true false (kR 3) y7_8)]⟩
theorem l8_laws_toGenS_eq (nf : Nat) (m8 : Nat) (a : List Gen) (x4_8 : Int) (y7_8 : List Gen) : l8_laws_toGenS nf (m8 + 1) a x4_8 y7_8 = (
  br (decide (x4_8 < (List.length a : Int))) (
    gg (0 ≤ x4_8 ∧ x4_8 < (List.length a : Int)) <|
      cb (m_laws_toGen nf (gt a x4_8 Gen.zero)) fun r20 =>
        gg (0 ≤ x4_8 ∧ x4_8 < (List.length y7_8 : Int)) <|
          gg (0 ≤ x4_8 ∧ x4_8 < (List.length y7_8 : Int)) <|
            mark (l8_laws_toGenS nf m8 a (w64 (x4_8 + (1 : Int))) (List.set y7_8 (Int.toNat x4_8) r20))) (
    some y7_8)) := by kernel_rfl
theorem m_laws_toGenS_eq (nf : Nat) (a : List Gen) : m_laws_toGenS nf a = (
  gg (0 ≤ (List.length a : Int) ∧ (List.length a : Int) ≤ 2147483647) <|
    mark (l8_laws_toGenS nf nf a (0 : Int) (List.replicate (Int.toNat (List.length a : Int)) Gen.zero))) := by kernel_rfl
noncomputable def e_laws_toGenS (nf : Nat) : XE := eF 35 [.v (kL (kR 3))] [.o (kL (kR 3))] (fun t => m_laws_toGenS nf t.1)
theorem o_laws_toGenS (nf : Nat) : conOK Try.prog 35 (e_laws_toGenS nf).con := by
  have ih : XT.ok Try.prog (T_laws_toGenS nf) := by exact ⟨o_laws_toGen nf, trivial⟩
  refine eF_ok fun t x h => ?_
  obtain ⟨a, _⟩ := t
  exact runF_ok (N := 23) ih Try.func35 (by kernel_rfl) rfl h
def ir_laws_szGen : C := .sq (.rg [.bx 2 (.t 0) (kR 3), .mv 4 (.i 0)]) (.sq (.rg [.mv 5 (.t 1), .fa 6 (.t 2) 3 0 0, .ld 7 (.t 6) kS, .ln 8 true (.t 7), .bi 9 .sub (.t 5) (.t 8), .mv 1 (.t 9)]) (.sq (.sq (.rg [.mv 10 (.t 1), .bi 11 .lss (.t 10) (.i 0)]) (.cd (.t 11) (.sq (.rg [.mv 4 (.i (-1))]) .rt) .skip)) (.sq (.rg [.mv 12 (.t 1), .fa 13 (.t 2) 3 1 1, .ld 14 (.t 13) kS, .ln 15 true (.t 14), .bi 16 .sub (.t 12) (.t 15), .mv 1 (.t 16)]) (.sq (.sq (.rg [.mv 17 (.t 1), .bi 18 .lss (.t 17) (.i 0)]) (.cd (.t 18) (.sq (.rg [.mv 4 (.i (-1))]) .rt) .skip)) (.sq (.rg [.mv 19 (.t 1), .mv 4 (.t 19)]) .rt)))))
noncomputable abbrev T_laws_szGen (nf : Nat) : XT := []
noncomputable def m_laws_szGen (nf : Nat) (a : Gen) (left : Int) : Option (Int) := runF (T_laws_szGen nf) nf [.v (kR 3), .v kI] [.t 4 (.v kI)] ir_laws_szGen (a, left, ())
theorem m_laws_szGen_eq (nf : Nat) (a : Gen) (left : Int) : m_laws_szGen nf a left = (
  br (decide ((w64 (left - (List.length a.var : Int))) < (0 : Int))) (
    some (-1 : Int)) (
    br (decide ((w64 ((w64 (left - (List.length a.var : Int))) - (List.length a.table : Int))) < (0 : Int))) (
      some (-1 : Int)) (
      some (w64 ((w64 (left - (List.length a.var : Int))) - (List.length a.table : Int)))))) := by kernel_rfl
noncomputable def e_laws_szGen (nf : Nat) : XE := eF 83 [.v (kR 3), .v kI] [.v kI] (fun t => m_laws_szGen nf t.1 t.2.1)
theorem o_laws_szGen (nf : Nat) : conOK Try.prog 83 (e_laws_szGen nf).con := by
  have ih : XT.ok Try.prog (T_laws_szGen nf) := by exact trivial
  refine eF_ok fun t x h => ?_
  obtain ⟨a, left, _⟩ := t
  exact runF_ok (N := 20) ih Try.func83 (by kernel_rfl) rfl h
def c35_laws_szGenS : C := .sq (.rg [.mv 26 (.t 1), .mv 4 (.t 26)]) .rt
def c17_laws_szGenS : C := .sq (.sq (.rg [.mv 12 (.t 5), .mv 13 (.t 0), .ln 14 false (.t 13), .bi 15 .lss (.t 12) (.t 14)]) (.cd (.t 15) .skip (.ex 0))) (.sq (.bk 1 (.sq (.rg [.mv 18 (.t 0), .mv 19 (.t 5), .ia 20 (.t 18) (.t 19) (kR 3), .ld 21 (.t 20) (kR 3), .mv 22 (.t 1), .cv (some 23) 83 [((.t 21), .v (kR 3)), ((.t 22), .v kI)], .mv 1 (.t 23)]) (.sq (.rg [.mv 24 (.t 1), .bi 25 .lss (.t 24) (.i 0)]) (.cd (.t 25) (.sq (.rg [.mv 4 (.i (-1))]) .rt) .skip)))) (.rg [.mv 16 (.t 5), .bi 17 .add (.t 16) (.i 1), .mv 5 (.t 17)]))
def ir_laws_szGenS : C := .sq (.rg [.mv 4 (.i 0)]) (.sq (.rg [.mv 6 (.t 1), .mv 7 (.t 0), .ln 8 false (.t 7), .bi 9 .sub (.t 6) (.t 8), .mv 1 (.t 9)]) (.sq (.sq (.rg [.mv 10 (.t 1), .bi 11 .lss (.t 10) (.i 0)]) (.cd (.t 11) (.sq (.rg [.mv 4 (.i (-1))]) .rt) .skip)) (.sq (.sq (.rg [.mv 5 (.i 0)]) (.bk 0 (.lk [0, 1, 5] [] c17_laws_szGenS))) c35_laws_szGenS)))
noncomputable abbrev T_laws_szGenS (nf : Nat) : XT := [e_laws_szGen nf]
noncomputable def m_laws_szGenS (nf : Nat) (a : List Gen) (left : Int) : Option (Int) := runF (T_laws_szGenS nf) nf [.v (kL (kR 3)), .v kI] [.t 4 (.v kI)] ir_laws_szGenS (a, left, ())
noncomputable def X_laws_szGenS {R : Type} (nf : Nat) : C → Env → (Xt → Env → Option R) → Option R := xc (R := R) (T_laws_szGenS nf).S nf
noncomputable def l16_laws_szGenS (nf : Nat) (m16 : Nat) (a : List Gen) (x1_16 : Int) (x5_16 : Int) : Option (Int) := xit [0, 1, 5] [] (X_laws_szGenS nf c17_laws_szGenS) (qB 0 (qS (X_laws_szGenS nf c35_laws_szGenS) (KF [.t 4 (.v kI)]))) m16 ⟨[(0, .v (kL (kR 3)) a), (1, .v kI x1_16), (5, .v kI x5_16)], []⟩
theorem l16_laws_szGenS_eq (nf : Nat) (m16 : Nat) (a : List Gen) (x1_16 : Int) (x5_16 : Int) : l16_laws_szGenS nf (m16 + 1) a x1_16 x5_16 = (
  br (decide (x5_16 < (List.length a : Int))) (
    gg (0 ≤ x5_16 ∧ x5_16 < (List.length a : Int)) <|
      cb (m_laws_szGen nf (gt a x5_16 Gen.zero) x1_16) fun r23 =>
        br (decide (r23 < (0 : Int))) (
          some (-1 : Int)) (
          mark (l16_laws_szGenS nf m16 a r23 (w64 (x5_16 + (1 : Int)))))) (
    some x1_16)) := by kernel_rfl
theorem m_laws_szGenS_eq (nf : Nat) (a : List Gen) (left : Int) : m_laws_szGenS nf a left = (
  br (decide ((w64 (left - (List.length a : Int))) < (0 : Int))) (
    some (-1 : Int)) (
    mark (l16_laws_szGenS nf nf a (w64 (left - (List.length a : Int))) (0 : Int)))) := by kernel_rfl
noncomputable def e_laws_szGenS (nf : Nat) : XE := eF 32 [.v (kL (kR 3)), .v kI] [.v kI] (fun t => m_laws_szGenS nf t.1 t.2.1)
theorem o_laws_szGenS (nf : Nat) : conOK Try.prog 32 (e_laws_szGenS nf).con := by
  have ih : XT.ok Try.prog (T_laws_szGenS nf) := by exact ⟨o_laws_szGen nf, trivial⟩
  refine eF_ok fun t x h => ?_
  obtain ⟨a, left, _⟩ := t
  exact runF_ok (N := 27) ih Try.func32 (by kernel_rfl) rfl h
def ir_laws_eqGen : C := .sq (.rg [.bx 2 (.t 0) (kR 3), .bx 3 (.t 1) (kR 3), .mv 4 (.b false)]) (.sq (.sq (.rg [.fa 5 (.t 2) 3 0 0, .ld 6 (.t 5) kS, .fa 7 (.t 3) 3 0 0, .ld 8 (.t 7) kS, .bi 9 .neq (.t 6) (.t 8)]) (.cd (.t 9) (.sq (.rg [.mv 4 (.b false)]) .rt) .skip)) (.sq (.sq (.rg [.fa 10 (.t 2) 3 1 1, .ld 11 (.t 10) kS, .fa 12 (.t 3) 3 1 1, .ld 13 (.t 12) kS, .bi 14 .neq (.t 11) (.t 13)]) (.cd (.t 14) (.sq (.rg [.mv 4 (.b false)]) .rt) .skip)) (.sq (.rg [.mv 4 (.b true)]) .rt)))
noncomputable abbrev T_laws_eqGen (nf : Nat) : XT := []
noncomputable def m_laws_eqGen (nf : Nat) (a : Gen) (b : Gen) : Option (Bool) := runF (T_laws_eqGen nf) nf [.v (kR 3), .v (kR 3)] [.t 4 (.v .bool)] ir_laws_eqGen (a, b, ())
theorem m_laws_eqGen_eq (nf : Nat) (a : Gen) (b : Gen) : m_laws_eqGen nf a b = (
  br (!(a.var == b.var)) (
    some false) (
    br (!(a.table == b.table)) (
      some false) (
      some true))) := by kernel_rfl
noncomputable def e_laws_eqGen (nf : Nat) : XE := eF 89 [.v (kR 3), .v (kR 3)] [.v .bool] (fun t => m_laws_eqGen nf t.1 t.2.1)
theorem o_laws_eqGen (nf : Nat) : conOK Try.prog 89 (e_laws_eqGen nf).con := by
  have ih : XT.ok Try.prog (T_laws_eqGen nf) := by exact trivial
  refine eF_ok fun t x h => ?_
  obtain ⟨a, b, _⟩ := t
  exact runF_ok (N := 15) ih Try.func89 (by kernel_rfl) rfl h
def c31_laws_eqGenS : C := .sq (.rg [.mv 4 (.b true)]) .rt
def c15_laws_eqGenS : C := .sq (.sq (.rg [.mv 11 (.t 5), .mv 12 (.t 0), .ln 13 false (.t 12), .bi 14 .lss (.t 11) (.t 13)]) (.cd (.t 14) .skip (.ex 0))) (.sq (.bk 1 (.sq (.dr [] [.mv 17 (.t 0), .mv 18 (.t 5), .ia 19 (.t 17) (.t 18) (kR 3), .ld 20 (.t 19) (kR 3), .mv 21 (.t 1), .mv 22 (.t 5), .ia 23 (.t 21) (.t 22) (kR 3), .ld 24 (.t 23) (kR 3)] [.cv (some 25) 89 [((.t 20), .v (kR 3)), ((.t 24), .v (kR 3))], .un 26 .not (.t 25)]) (.cd (.t 26) (.sq (.rg [.mv 4 (.b false)]) .rt) .skip))) (.rg [.mv 15 (.t 5), .bi 16 .add (.t 15) (.i 1), .mv 5 (.t 16)]))
def ir_laws_eqGenS : C := .sq (.rg [.mv 4 (.b false)]) (.sq (.sq (.rg [.mv 6 (.t 0), .ln 7 false (.t 6), .mv 8 (.t 1), .ln 9 false (.t 8), .bi 10 .neq (.t 7) (.t 9)]) (.cd (.t 10) (.sq (.rg [.mv 4 (.b false)]) .rt) .skip)) (.sq (.sq (.rg [.mv 5 (.i 0)]) (.bk 0 (.lk [0, 1, 5] [] c15_laws_eqGenS))) c31_laws_eqGenS))
noncomputable abbrev T_laws_eqGenS (nf : Nat) : XT := [e_laws_eqGen nf]
noncomputable def m_laws_eqGenS (nf : Nat) (a : List Gen) (b : List Gen) : Option (Bool) := runF (T_laws_eqGenS nf) nf [.v (kL (kR 3)), .v (kL (kR 3))] [.t 4 (.v .bool)] ir_laws_eqGenS (a, b, ())
noncomputable def X_laws_eqGenS {R : Type} (nf : Nat) : C → Env → (Xt → Env → Option R) → Option R := xc (R := R) (T_laws_eqGenS nf).S nf
noncomputable def l14_laws_eqGenS (nf : Nat) (m14 : Nat) (a : List Gen) (b : List Gen) (x5_14 : Int) : Option (Bool) := xit [0, 1, 5] [] (X_laws_eqGenS nf c15_laws_eqGenS) (qB 0 (qS (X_laws_eqGenS nf c31_laws_eqGenS) (KF [.t 4 (.v .bool)]))) m14 ⟨[(0, .v (kL (kR 3)) a), (1, .v (kL (kR 3)) b), (5, .v kI x5_14)], []⟩
theorem l14_laws_eqGenS_eq (nf : Nat) (m14 : Nat) (a : List Gen) (b : List Gen) (x5_14 : Int) : l14_laws_eqGenS nf (m14 + 1) a b x5_14 = (
  br (decide (x5_14 < (List.length a : Int))) (
    gg (0 ≤ x5_14 ∧ x5_14 < (List.length a : Int)) <|
      gg (0 ≤ x5_14 ∧ x5_14 < (List.length b : Int)) <|
        cb (m_laws_eqGen nf (gt a x5_14 Gen.zero) (gt b x5_14 Gen.zero)) fun r25 =>
          br (!r25) (
            some false) (
            mark (l14_laws_eqGenS nf m14 a b (w64 (x5_14 + (1 : Int)))))) (
    some true)) := by kernel_rfl
theorem m_laws_eqGenS_eq (nf : Nat) (a : List Gen) (b : List Gen) : m_laws_eqGenS nf a b = (
  br (!((List.length a : Int) == (List.length b : Int))) (
    some false) (
    mark (l14_laws_eqGenS nf nf a b (0 : Int)))) := by kernel_rfl
noncomputable def e_laws_eqGenS (nf : Nat) : XE := eF 38 [.v (kL (kR 3)), .v (kL (kR 3))] [.v .bool] (fun t => m_laws_eqGenS nf t.1 t.2.1)
theorem o_laws_eqGenS (nf : Nat) : conOK Try.prog 38 (e_laws_eqGenS nf).con := by
  have ih : XT.ok Try.prog (T_laws_eqGenS nf) := by exact ⟨o_laws_eqGen nf, trivial⟩
  refine eF_ok fun t x h => ?_
  obtain ⟨a, b, _⟩ := t
  exact runF_ok (N := 27) ih Try.func38 (by kernel_rfl) rfl h
def c25_spec_PlanVars : C := .sq (.rg [.mv 32 (.t 3), .mv 2 (.t 32)]) .rt
def c15_spec_PlanVars : C := .sq (.sq (.rg [.mv 17 (.t 4), .fa 18 (.t 1) 17 5 12, .ld 19 (.t 18) (kL (kR 17)), .ln 20 false (.t 19), .bi 21 .lss (.t 17) (.t 20)]) (.cd (.t 21) .skip (.ex 0))) (.sq (.bk 1 (.rg [.mv 24 (.t 3), .fa 25 (.t 1) 17 5 12, .ld 26 (.t 25) (kL (kR 17)), .mv 27 (.t 4), .ia 28 (.t 26) (.t 27) (kR 17), .ld 29 (.t 28) (kR 17), .cv (some 30) 51 [((.t 29), .v (kR 17))], .ap 31 [3] true (kR 3) (.t 24) (.t 30), .mv 3 (.t 31)])) (.rg [.mv 22 (.t 4), .bi 23 .add (.t 22) (.i 1), .mv 4 (.t 23)]))
def c10_spec_PlanVars : C := .sq (.sq (.rg [.mv 4 (.i 0)]) (.bk 0 (.lk [1, 3, 4] [[1], [3]] c15_spec_PlanVars))) c25_spec_PlanVars
def w10_spec_PlanVars : C := .gt 3 true (kR 3) (.kp [1, 3] [[1], [3]] c10_spec_PlanVars)
def ir_spec_PlanVars : C := .sq (.rg [.bx 1 (.t 0) (kR 17), .mv 2 (.nl (kR 3))]) (.sq (.rg [.bs 5 true (kR 3) [], .mv 3 (.t 5)]) (.sq (.sq (.rg [.fa 6 (.t 1) 17 0 0, .ld 7 (.t 6) kI, .bi 8 .eql (.t 7) (.i 2)]) (.cd (.t 8) (.gt 3 true (kR 3) (.rg [.mv 9 (.t 3), .fa 10 (.t 1) 17 1 1, .ld 11 (.t 10) kS, .fa 12 (.t 1) 17 2 2, .ld 13 (.t 12) kS, .bd 14 3 [(0, 1, (.t 11)), (1, 1, (.t 13))], .bs 15 true (kR 3) [(.t 14)], .ap 16 [3] true (kR 3) (.t 9) (.t 15), .mv 3 (.t 16)])) .skip)) w10_spec_PlanVars))
noncomputable def B_spec_PlanVars (nf : Nat) : XT := []
noncomputable def G_spec_PlanVars (nf : Nat) : Nat → XT
  | 0 => []
  | kf + 1 => [eF 51 [.v (kR 17)] [.o (kL (kR 3))] (fun t => (fun (p : Plan) => runF (G_spec_PlanVars nf kf ++ B_spec_PlanVars nf) nf [.v (kR 17)] [.t 2 (.o (kL (kR 3)))] ir_spec_PlanVars (p, ())) t.1)]
noncomputable abbrev T_spec_PlanVars (nf kf : Nat) : XT := G_spec_PlanVars nf kf ++ B_spec_PlanVars nf
noncomputable def m_spec_PlanVars (nf kf : Nat) (p : Plan) : Option (List Gen) := runF (T_spec_PlanVars nf kf) nf [.v (kR 17)] [.t 2 (.o (kL (kR 3)))] ir_spec_PlanVars (p, ())
noncomputable def X_spec_PlanVars {R : Type} (nf kf : Nat) : C → Env → (Xt → Env → Option R) → Option R := xc (R := R) (T_spec_PlanVars nf kf).S nf
noncomputable def l14_spec_PlanVars (nf kf : Nat) (m14 : Nat) (p : Plan) (x4_14 : Int) (y3_14 : List Gen) : Option (List Gen) := xit [1, 3, 4] [[1], [3]] (X_spec_PlanVars nf kf c15_spec_PlanVars) (qB 0 (qS (X_spec_PlanVars nf kf c25_spec_PlanVars) (KF [.t 2 (.o (kL (kR 3)))]))) m14 ⟨[(1, .pt [1] 0), (3, .sl [3]), (4, .v kI x4_14)], [([1], .box [.v kI p.kind, .v kS p.var, .v kS p.table, .v kI p.cond.kind, .v kS p.cond.name, .v kI p.cond.n, .v kI p.cond.type.kind, .v (kL kS) p.cond.type.labels, .v (kL (kR 0)) p.cond.type.args, .v (kL kS) p.cond.labels, .v (kL (kR 2)) p.cond.args, .v (kL (kR 2)) p.keys, .v (kL (kR 17)) p.args]), ([3], .row true false (kR 3) y3_14)]⟩
noncomputable def j10_spec_PlanVars (nf kf : Nat) (p : Plan) (y3_10 : List Gen) : Option (List Gen) := X_spec_PlanVars nf kf c10_spec_PlanVars ⟨[(1, .pt [1] 0), (3, .sl [3])], [([1], .box [.v kI p.kind, .v kS p.var, .v kS p.table, .v kI p.cond.kind, .v kS p.cond.name, .v kI p.cond.n, .v kI p.cond.type.kind, .v (kL kS) p.cond.type.labels, .v (kL (kR 0)) p.cond.type.args, .v (kL kS) p.cond.labels, .v (kL (kR 2)) p.cond.args, .v (kL (kR 2)) p.keys, .v (kL (kR 17)) p.args]), ([3], .row true false (kR 3) y3_10)]⟩ (KF [.t 2 (.o (kL (kR 3)))])
theorem l14_spec_PlanVars_eq (nf kf : Nat) (m14 : Nat) (p : Plan) (x4_14 : Int) (y3_14 : List Gen) : l14_spec_PlanVars nf (kf + 1) (m14 + 1) p x4_14 y3_14 = (
  br (decide (x4_14 < (List.length p.args : Int))) (
    gg (0 ≤ x4_14 ∧ x4_14 < (List.length p.args : Int)) <|
      cb (m_spec_PlanVars nf kf (gt p.args x4_14 Plan.zero)) fun r30 =>
        gg (List.length y3_14 + List.length r30 ≤ 33554432) <|
          mark (l14_spec_PlanVars nf (kf + 1) m14 p (w64 (x4_14 + (1 : Int))) (y3_14 ++ r30))) (
    some y3_14)) := by kernel_rfl
theorem j10_spec_PlanVars_eq (nf kf : Nat) (p : Plan) (y3_10 : List Gen) : j10_spec_PlanVars nf (kf + 1) p y3_10 = (
  mark (l14_spec_PlanVars nf (kf + 1) nf p (0 : Int) y3_10)) := by kernel_rfl
theorem m_spec_PlanVars_eq (nf kf : Nat) (p : Plan) : m_spec_PlanVars nf (kf + 1) p = (
  br (p.kind == (2 : Int)) (
    gg (List.length ([] : List Gen) + List.length ([(Gen.mk p.var p.table)] : List Gen) ≤ 33554432) <|
      mark (j10_spec_PlanVars nf (kf + 1) p (([] : List Gen) ++ ([(Gen.mk p.var p.table)] : List Gen)))) (
    mark (j10_spec_PlanVars nf (kf + 1) p ([] : List Gen)))) := by
  unfold m_spec_PlanVars j10_spec_PlanVars ir_spec_PlanVars w10_spec_PlanVars
  generalize c10_spec_PlanVars = x0
  revert x0
  refine id ?_
  intro x0
  kernel_rfl
noncomputable def e_spec_PlanVars (nf : Nat) : XE := eF 51 [.v (kR 17)] [.o (kL (kR 3))] (fun t => m_spec_PlanVars nf nf t.1)
theorem gok_spec_PlanVars (nf : Nat) : ∀ kf : Nat, XT.ok Try.prog (G_spec_PlanVars nf kf ++ B_spec_PlanVars nf)
  | 0 => by exact trivial
  | kf + 1 => by
    have ih := gok_spec_PlanVars nf kf
    refine ⟨?_, (by exact trivial)⟩
    · refine eF_ok fun t x h => ?_
      obtain ⟨p, _⟩ := t
      exact runF_ok (N := 33) ih Try.func51 (by kernel_rfl) rfl h
theorem o_spec_PlanVars (nf : Nat) : conOK Try.prog 51 (e_spec_PlanVars nf).con := by
  have ih := gok_spec_PlanVars nf nf
  refine eF_ok fun t x h => ?_
  obtain ⟨p, _⟩ := t
  exact runF_ok (N := 33) ih Try.func51 (by kernel_rfl) rfl h
def c25_impl_planVars : C := .sq (.rg [.mv 40 (.t 1), .mv 4 (.t 40)]) .rt
def c13_impl_planVars : C := .sq (.rg [.bi 29 .lss (.t 28) (.t 27)]) (.sq (.cd (.t 29) .skip (.ex 0)) (.sq (.bk 1 (.sq (.rg [.mv 30 (.t 28), .mv 5 (.t 30)]) (.rg [.mv 31 (.t 0), .nck 32 (.t 31), .fa 33 (.t 32) 17 5 12, .ld 34 (.t 33) (kL (kR 17)), .mv 35 (.t 5), .ia 36 (.t 34) (.t 35) (kR 17), .mv 37 (.t 1), .cq (some 38) 109 [((.t 36), .v (.ptr (kR 17))), ((.t 37), .rw true (kR 3))], .rn 1 [1000] (.t 38)]))) (.rg [.bi 39 .add (.t 28) (.i 1), .mv 28 (.t 39)])))
def c8_impl_planVars : C := .sq (.sq (.rg [.mv 23 (.t 0), .nck 24 (.t 23), .fa 25 (.t 24) 17 5 12, .ld 26 (.t 25) (kL (kR 17)), .ln 27 false (.t 26), .mv 28 (.i 0)]) (.bk 0 (.lk [0, 1, 27, 28] [[1000]] c13_impl_planVars))) c25_impl_planVars
def w8_impl_planVars : C := .kp [0, 1] [[1000]] c8_impl_planVars
def ir_impl_planVars : C := .sq (.rg [.mv 4 (.nl (kR 3))]) (.sq (.sq (.rg [.mv 6 (.t 0), .nck 7 (.t 6), .fa 8 (.t 7) 17 0 0, .ld 9 (.t 8) kI, .bi 10 .eql (.t 9) (.i 2)]) (.cd (.t 10) (.dr [21] [.mv 11 (.t 1), .mv 12 (.t 0), .nck 13 (.t 12), .fa 14 (.t 13) 17 1 1, .ld 15 (.t 14) kS, .mv 16 (.t 0), .nck 17 (.t 16), .fa 18 (.t 17) 17 2 2, .ld 19 (.t 18) kS, .bd 20 3 [(0, 1, (.t 15)), (1, 1, (.t 19))], .bs 21 true (kR 3) [(.t 20)]] [.ap 22 [1000] true (kR 3) (.t 11) (.t 21), .mv 1 (.t 22)]) .skip)) w8_impl_planVars)
noncomputable def B_impl_planVars (nf : Nat) : XT := []
noncomputable def G_impl_planVars (nf : Nat) : Nat → XT
  | 0 => []
  | kf + 1 => [eQ 109 [.p (kR 17), .sl 0] [.o (kL (kR 3))] [.row true (kR 3)] [.gone] (fun t u => (fun (p : Plan) (out : List Gen) => runQ (G_impl_planVars nf kf ++ B_impl_planVars nf) nf [.p (kR 17), .sl 0] [.row true (kR 3)] [.gone] [.t 4 (.o (kL (kR 3)))] ir_impl_planVars (p, (), ()) out) t.1 u)]
noncomputable abbrev T_impl_planVars (nf kf : Nat) : XT := G_impl_planVars nf kf ++ B_impl_planVars nf
noncomputable def m_impl_planVars (nf kf : Nat) (p : Plan) (out : List Gen) : Option ((List Gen) × Unit) := runQ (T_impl_planVars nf kf) nf [.p (kR 17), .sl 0] [.row true (kR 3)] [.gone] [.t 4 (.o (kL (kR 3)))] ir_impl_planVars (p, (), ()) out
noncomputable def X_impl_planVars {R : Type} (nf kf : Nat) : C → Env → (Xt → Env → Option R) → Option R := xc (R := R) (T_impl_planVars nf kf).S nf
noncomputable def l12_impl_planVars (nf kf : Nat) (m12 : Nat) (p : Plan) (x28_12 : Int) (y1000_12 : List Gen) : Option ((List Gen) × Unit) := xit [0, 1, 27, 28] [[1000]] (X_impl_planVars nf kf c13_impl_planVars) (qB 0 (qS (X_impl_planVars nf kf c25_impl_planVars) (KQ [.t 4 (.o (kL (kR 3)))] [.gone]))) m12 ⟨[(0, .v (.ptr (kR 17)) (some p)), (1, .sl [1000]), (27, .v kI (List.length p.args : Int)), (28, .v kI x28_12)], [([1000], .row true false (kR 3) y1000_12)]⟩
noncomputable def j8_impl_planVars (nf kf : Nat) (p : Plan) (y1000_8 : List Gen) : Option ((List Gen) × Unit) := X_impl_planVars nf kf c8_impl_planVars ⟨[(0, .v (.ptr (kR 17)) (some p)), (1, .sl [1000])], [([1000], .row true false (kR 3) y1000_8)]⟩ (KQ [.t 4 (.o (kL (kR 3)))] [.gone])
theorem l12_impl_planVars_eq (nf kf : Nat) (m12 : Nat) (p : Plan) (x28_12 : Int) (y1000_12 : List Gen) : l12_impl_planVars nf (kf + 1) (m12 + 1) p x28_12 y1000_12 = (
  br (decide (x28_12 < (List.length p.args : Int))) (
    gg (0 ≤ x28_12 ∧ x28_12 < (List.length p.args : Int)) <|
      cb (m_impl_planVars nf kf (gt p.args x28_12 Plan.zero) y1000_12) fun r38 =>
        mark (l12_impl_planVars nf (kf + 1) m12 p (w64 (x28_12 + (1 : Int))) r38.1)) (
    some (y1000_12, ()))) := by kernel_rfl
theorem j8_impl_planVars_eq (nf kf : Nat) (p : Plan) (y1000_8 : List Gen) : j8_impl_planVars nf (kf + 1) p y1000_8 = (
  mark (l12_impl_planVars nf (kf + 1) nf p (0 : Int) y1000_8)) := by kernel_rfl
theorem m_impl_planVars_eq (nf kf : Nat) (p : Plan) (out : List Gen) : m_impl_planVars nf (kf + 1) p out = (
  br (p.kind == (2 : Int)) (
    gg (List.length out + List.length ([(Gen.mk p.var p.table)] : List Gen) ≤ 33554432) <|
      mark (j8_impl_planVars nf (kf + 1) p (out ++ ([(Gen.mk p.var p.table)] : List Gen)))) (
    mark (j8_impl_planVars nf (kf + 1) p out))) := by
  unfold m_impl_planVars j8_impl_planVars ir_impl_planVars w8_impl_planVars
  generalize c8_impl_planVars = x0
  revert x0
  refine id ?_
  intro x0
  kernel_rfl
noncomputable def e_impl_planVars (nf : Nat) : XE := eQ 109 [.p (kR 17), .sl 0] [.o (kL (kR 3))] [.row true (kR 3)] [.gone] (fun t u => m_impl_planVars nf nf t.1 u)
theorem gok_impl_planVars (nf : Nat) : ∀ kf : Nat, XT.ok Try.prog (G_impl_planVars nf kf ++ B_impl_planVars nf)
  | 0 => by exact trivial
  | kf + 1 => by
    have ih := gok_impl_planVars nf kf
    refine ⟨?_, (by exact trivial)⟩
    · refine eQ_ok fun t u x h => ?_
      obtain ⟨p, _, _⟩ := t
      exact runQ_ok (N := 41) ih Try.func109 (by kernel_rfl) rfl rfl rfl rfl rfl h
theorem o_impl_planVars (nf : Nat) : conOK Try.prog 109 (e_impl_planVars nf).con := by
  have ih := gok_impl_planVars nf nf
  refine eQ_ok fun t u x h => ?_
  obtain ⟨p, _, _⟩ := t
  exact runQ_ok (N := 41) ih Try.func109 (by kernel_rfl) rfl rfl rfl rfl rfl h
def ir_impl_PlanVars : C := .sq (.rg [.bz 1 (.t 0) (kR 17), .mv 2 (.nl (kR 3))]) (.sq (.rg [.cq (some 3) 109 [((.t 1), .v (.ptr (kR 17))), ((.nl (kR 3)), .rw true (kR 3))], .mv 2 (.t 3)]) .rt)
noncomputable abbrev T_impl_PlanVars (nf : Nat) : XT := [e_impl_planVars nf]
noncomputable def m_impl_PlanVars (nf : Nat) (p : Plan) : Option (List Gen) := runF (T_impl_PlanVars nf) nf [.v (kR 17)] [.t 2 (.o (kL (kR 3)))] ir_impl_PlanVars (p, ())
theorem m_impl_PlanVars_eq (nf : Nat) (p : Plan) : m_impl_PlanVars nf p = (
  cb (m_impl_planVars nf nf p ([] : List Gen)) fun r3 =>
    some r3.1) := by kernel_rfl
noncomputable def e_impl_PlanVars (nf : Nat) : XE := eF 52 [.v (kR 17)] [.o (kL (kR 3))] (fun t => m_impl_PlanVars nf t.1)
theorem o_impl_PlanVars (nf : Nat) : conOK Try.prog 52 (e_impl_PlanVars nf).con := by
  have ih : XT.ok Try.prog (T_impl_PlanVars nf) := by exact ⟨o_impl_planVars nf, trivial⟩
  refine eF_ok fun t x h => ?_
  obtain ⟨p, _⟩ := t
  exact runF_ok (N := 4) ih Try.func52 (by kernel_rfl) rfl h
end Go.Q
