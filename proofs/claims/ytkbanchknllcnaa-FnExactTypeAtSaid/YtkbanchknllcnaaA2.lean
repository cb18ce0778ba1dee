/- The families. -/
import Derived.Test.YtkbanchknllcnaaQe
import Derived.Test.YtkbanchknllcnaaProg
import Derived.KernelRfl
set_option linter.unusedVariables false
set_option linter.unusedSimpArgs false
namespace Go.Q
open Go.Proofs
set_option linter.unusedVariables false
set_option maxRecDepth 20000
set_option maxHeartbeats 4000000
def c35_laws_szStringS : C := .sq (.rg [.mv 27 (.t 1), .mv 4 (.t 27)]) .rt
def c17_laws_szStringS : C := .sq (.sq (.rg [.mv 12 (.t 5), .mv 13 (.t 0), .ln 14 false (.t 13), .bi 15 .lss (.t 12) (.t 14)]) (.cd (.t 15) .skip (.ex 0))) (.sq (.bk 1 (.sq (.rg [.mv 18 (.t 1), .mv 19 (.t 0), .mv 20 (.t 5), .ia 21 (.t 19) (.t 20) kS, .ld 22 (.t 21) kS, .ln 23 true (.t 22), .bi 24 .sub (.t 18) (.t 23), .mv 1 (.t 24)]) (.sq (.rg [.mv 25 (.t 1), .bi 26 .lss (.t 25) (.i 0)]) (.cd (.t 26) (.sq (.rg [.mv 4 (.i (-1))]) .rt) .skip)))) (.rg [.mv 16 (.t 5), .bi 17 .add (.t 16) (.i 1), .mv 5 (.t 17)]))
def ir_laws_szStringS : C := .sq (.rg [.mv 4 (.i 0)]) (.sq (.rg [.mv 6 (.t 1), .mv 7 (.t 0), .ln 8 false (.t 7), .bi 9 .sub (.t 6) (.t 8), .mv 1 (.t 9)]) (.sq (.sq (.rg [.mv 10 (.t 1), .bi 11 .lss (.t 10) (.i 0)]) (.cd (.t 11) (.sq (.rg [.mv 4 (.i (-1))]) .rt) .skip)) (.sq (.sq (.rg [.mv 5 (.i 0)]) (.bk 0 (.lk [0, 1, 5] [] c17_laws_szStringS))) c35_laws_szStringS)))
noncomputable abbrev T_laws_szStringS (nf : Nat) : XT := []
noncomputable def m_laws_szStringS (nf : Nat) (a : List Str) (left : Int) : Option (Int) := runF (T_laws_szStringS nf) nf [.v (kL kS), .v kI] [.t 4 (.v kI)] ir_laws_szStringS (a, left, ())
noncomputable def X_laws_szStringS {R : Type} (nf : Nat) : C → Env → (Xt → Env → Option R) → Option R := xc (R := R) (T_laws_szStringS nf).S nf
noncomputable def l16_laws_szStringS (nf : Nat) (m16 : Nat) (a : List Str) (x1_16 : Int) (x5_16 : Int) : Option (Int) := xit [0, 1, 5] [] (X_laws_szStringS nf c17_laws_szStringS) (qB 0 (qS (X_laws_szStringS nf c35_laws_szStringS) (KF [.t 4 (.v kI)]))) m16 ⟨[(0, .v (kL kS) a), (1, .v kI x1_16), (5, .v kI x5_16)], []⟩
theorem l16_laws_szStringS_eq (nf : Nat) (m16 : Nat) (a : List Str) (x1_16 : Int) (x5_16 : Int) : l16_laws_szStringS nf (m16 + 1) a x1_16 x5_16 = (
  br (decide (x5_16 < (List.length a : Int))) (
    gg (0 ≤ x5_16 ∧ x5_16 < (List.length a : Int)) <|
      br (decide ((w64 (x1_16 - (List.length (gt a x5_16 ([] : Str)) : Int))) < (0 : Int))) (
        some (-1 : Int)) (
        mark (l16_laws_szStringS nf m16 a (w64 (x1_16 - (List.length (gt a x5_16 ([] : Str)) : Int))) (w64 (x5_16 + (1 : Int)))))) (
    some x1_16)) := by kernel_rfl
theorem m_laws_szStringS_eq (nf : Nat) (a : List Str) (left : Int) : m_laws_szStringS nf a left = (
  br (decide ((w64 (left - (List.length a : Int))) < (0 : Int))) (
    some (-1 : Int)) (
    mark (l16_laws_szStringS nf nf a (w64 (left - (List.length a : Int))) (0 : Int)))) := by kernel_rfl
noncomputable def e_laws_szStringS (nf : Nat) : XE := eF 38 [.v (kL kS), .v kI] [.v kI] (fun t => m_laws_szStringS nf t.1 t.2.1)
theorem o_laws_szStringS (nf : Nat) : conOK Try.prog 38 (e_laws_szStringS nf).con := by
  have ih : XT.ok Try.prog (T_laws_szStringS nf) := by exact trivial
  refine eF_ok fun t x h => ?_
  obtain ⟨a, left, _⟩ := t
  exact runF_ok (N := 28) ih Try.func38 (by kernel_rfl) rfl h
def c35_laws_szTypeS : C := .sq (.rg [.mv 26 (.t 1), .mv 4 (.t 26)]) .rt
def c17_laws_szTypeS : C := .sq (.sq (.rg [.mv 12 (.t 5), .mv 13 (.t 0), .ln 14 false (.t 13), .bi 15 .lss (.t 12) (.t 14)]) (.cd (.t 15) .skip (.ex 0))) (.sq (.bk 1 (.sq (.rg [.mv 18 (.t 0), .mv 19 (.t 5), .ia 20 (.t 18) (.t 19) (kR 0), .ld 21 (.t 20) (kR 0), .mv 22 (.t 1), .cv (some 23) 13 [((.t 21), .v (kR 0)), ((.t 22), .v kI)], .mv 1 (.t 23)]) (.sq (.rg [.mv 24 (.t 1), .bi 25 .lss (.t 24) (.i 0)]) (.cd (.t 25) (.sq (.rg [.mv 4 (.i (-1))]) .rt) .skip)))) (.rg [.mv 16 (.t 5), .bi 17 .add (.t 16) (.i 1), .mv 5 (.t 17)]))
def ir_laws_szTypeS : C := .sq (.rg [.mv 4 (.i 0)]) (.sq (.rg [.mv 6 (.t 1), .mv 7 (.t 0), .ln 8 false (.t 7), .bi 9 .sub (.t 6) (.t 8), .mv 1 (.t 9)]) (.sq (.sq (.rg [.mv 10 (.t 1), .bi 11 .lss (.t 10) (.i 0)]) (.cd (.t 11) (.sq (.rg [.mv 4 (.i (-1))]) .rt) .skip)) (.sq (.sq (.rg [.mv 5 (.i 0)]) (.bk 0 (.lk [0, 1, 5] [] c17_laws_szTypeS))) c35_laws_szTypeS)))
def ir_laws_szType : C := .sq (.rg [.bx 2 (.t 0) (kR 0), .mv 4 (.i 0)]) (.sq (.rg [.fa 5 (.t 2) 0 1 1, .ld 6 (.t 5) (kL kS), .mv 7 (.t 1), .cv (some 8) 38 [((.t 6), .v (kL kS)), ((.t 7), .v kI)], .mv 1 (.t 8)]) (.sq (.sq (.rg [.mv 9 (.t 1), .bi 10 .lss (.t 9) (.i 0)]) (.cd (.t 10) (.sq (.rg [.mv 4 (.i (-1))]) .rt) .skip)) (.sq (.rg [.fa 11 (.t 2) 0 2 2, .ld 12 (.t 11) (kL (kR 0)), .mv 13 (.t 1), .cv (some 14) 77 [((.t 12), .v (kL (kR 0))), ((.t 13), .v kI)], .mv 1 (.t 14)]) (.sq (.sq (.rg [.mv 15 (.t 1), .bi 16 .lss (.t 15) (.i 0)]) (.cd (.t 16) (.sq (.rg [.mv 4 (.i (-1))]) .rt) .skip)) (.sq (.rg [.mv 17 (.t 1), .mv 4 (.t 17)]) .rt)))))
noncomputable def B_laws_szTypeS (nf : Nat) : XT := [e_laws_szStringS nf]
noncomputable def G_laws_szTypeS (nf : Nat) : Nat → XT
  | 0 => []
  | kf + 1 => [eF 77 [.v (kL (kR 0)), .v kI] [.v kI] (fun t => (fun (a : List Ty) (left : Int) => runF (G_laws_szTypeS nf kf ++ B_laws_szTypeS nf) nf [.v (kL (kR 0)), .v kI] [.t 4 (.v kI)] ir_laws_szTypeS (a, left, ())) t.1 t.2.1),
    eF 13 [.v (kR 0), .v kI] [.v kI] (fun t => (fun (a : Ty) (left : Int) => runF (G_laws_szTypeS nf kf ++ B_laws_szTypeS nf) nf [.v (kR 0), .v kI] [.t 4 (.v kI)] ir_laws_szType (a, left, ())) t.1 t.2.1)]
noncomputable abbrev T_laws_szTypeS (nf kf : Nat) : XT := G_laws_szTypeS nf kf ++ B_laws_szTypeS nf
noncomputable abbrev T_laws_szType (nf kf : Nat) : XT := G_laws_szTypeS nf kf ++ B_laws_szTypeS nf
noncomputable def m_laws_szTypeS (nf kf : Nat) (a : List Ty) (left : Int) : Option (Int) := runF (T_laws_szTypeS nf kf) nf [.v (kL (kR 0)), .v kI] [.t 4 (.v kI)] ir_laws_szTypeS (a, left, ())
noncomputable def X_laws_szTypeS {R : Type} (nf kf : Nat) : C → Env → (Xt → Env → Option R) → Option R := xc (R := R) (T_laws_szTypeS nf kf).S nf
noncomputable def m_laws_szType (nf kf : Nat) (a : Ty) (left : Int) : Option (Int) := runF (T_laws_szType nf kf) nf [.v (kR 0), .v kI] [.t 4 (.v kI)] ir_laws_szType (a, left, ())
noncomputable def l16_laws_szTypeS (nf kf : Nat) (m16 : Nat) (a : List Ty) (x1_16 : Int) (x5_16 : Int) : Option (Int) := xit [0, 1, 5] [] (X_laws_szTypeS nf kf c17_laws_szTypeS) (qB 0 (qS (X_laws_szTypeS nf kf c35_laws_szTypeS) (KF [.t 4 (.v kI)]))) m16 ⟨[(0, .v (kL (kR 0)) a), (1, .v kI x1_16), (5, .v kI x5_16)], []⟩
theorem l16_laws_szTypeS_eq (nf kf : Nat) (m16 : Nat) (a : List Ty) (x1_16 : Int) (x5_16 : Int) : l16_laws_szTypeS nf (kf + 1) (m16 + 1) a x1_16 x5_16 = (
  br (decide (x5_16 < (List.length a : Int))) (
    gg (0 ≤ x5_16 ∧ x5_16 < (List.length a : Int)) <|
      cb (m_laws_szType nf kf (gt a x5_16 Ty.zero) x1_16) fun r23 =>
        br (decide (r23 < (0 : Int))) (
          some (-1 : Int)) (
          mark (l16_laws_szTypeS nf (kf + 1) m16 a r23 (w64 (x5_16 + (1 : Int)))))) (
    some x1_16)) := by kernel_rfl
theorem m_laws_szTypeS_eq (nf kf : Nat) (a : List Ty) (left : Int) : m_laws_szTypeS nf (kf + 1) a left = (
  br (decide ((w64 (left - (List.length a : Int))) < (0 : Int))) (
    some (-1 : Int)) (
    mark (l16_laws_szTypeS nf (kf + 1) nf a (w64 (left - (List.length a : Int))) (0 : Int)))) := by kernel_rfl
theorem m_laws_szType_eq (nf kf : Nat) (a : Ty) (left : Int) : m_laws_szType nf (kf + 1) a left = (
  cb (m_laws_szStringS nf a.labels left) fun r8 =>
    br (decide (r8 < (0 : Int))) (
      some (-1 : Int)) (
      cb (m_laws_szTypeS nf kf a.args r8) fun r14 =>
        br (decide (r14 < (0 : Int))) (
          some (-1 : Int)) (
          some r14))) := by kernel_rfl
noncomputable def e_laws_szType (nf : Nat) : XE := eF 13 [.v (kR 0), .v kI] [.v kI] (fun t => m_laws_szType nf nf t.1 t.2.1)
theorem gok_laws_szTypeS (nf : Nat) : ∀ kf : Nat, XT.ok Try.prog (G_laws_szTypeS nf kf ++ B_laws_szTypeS nf)
  | 0 => by exact ⟨o_laws_szStringS nf, trivial⟩
  | kf + 1 => by
    have ih := gok_laws_szTypeS nf kf
    refine ⟨?_, ?_, (by exact ⟨o_laws_szStringS nf, trivial⟩)⟩
    · refine eF_ok fun t x h => ?_
      obtain ⟨a, left, _⟩ := t
      exact runF_ok (N := 27) ih Try.func77 (by kernel_rfl) rfl h
    · refine eF_ok fun t x h => ?_
      obtain ⟨a, left, _⟩ := t
      exact runF_ok (N := 18) ih Try.func13 (by kernel_rfl) rfl h
theorem o_laws_szType (nf : Nat) : conOK Try.prog 13 (e_laws_szType nf).con := by
  have ih := gok_laws_szTypeS nf nf
  refine eF_ok fun t x h => ?_
  obtain ⟨a, left, _⟩ := t
  exact runF_ok (N := 18) ih Try.func13 (by kernel_rfl) rfl h
def c19_laws_toStringS : C := .sq (.rg [.mv 21 (.t 3), .mv 2 (.t 21)]) .rt
def c9_laws_toStringS : C := .sq (.sq (.rg [.mv 8 (.t 4), .mv 9 (.t 0), .ln 10 false (.t 9), .bi 11 .lss (.t 8) (.t 10)]) (.cd (.t 11) .skip (.ex 0))) (.sq (.bk 1 (.rg [.mv 14 (.t 3), .mv 15 (.t 4), .mv 16 (.t 0), .mv 17 (.t 4), .ia 18 (.t 16) (.t 17) kS, .ld 19 (.t 18) kS, .ia 20 (.t 14) (.t 15) kS, .st (.t 20) (.t 19) kS])) (.rg [.mv 12 (.t 4), .bi 13 .add (.t 12) (.i 1), .mv 4 (.t 13)]))
def ir_laws_toStringS : C := .sq (.rg [.mv 2 (.nl kS)]) (.sq (.rg [.mv 5 (.t 0), .ln 6 false (.t 5), .mk 7 true kS (.t 6), .mv 3 (.t 7)]) (.sq (.sq (.rg [.mv 4 (.i 0)]) (.bk 0 (.lk [0, 3, 4] [[7]] c9_laws_toStringS))) c19_laws_toStringS))
noncomputable abbrev T_laws_toStringS (nf : Nat) : XT := []
noncomputable def m_laws_toStringS (nf : Nat) (a : List Str) : Option (List Str) := runF (T_laws_toStringS nf) nf [.v (kL kS)] [.t 2 (.o (kL kS))] ir_laws_toStringS (a, ())
noncomputable def X_laws_toStringS {R : Type} (nf : Nat) : C → Env → (Xt → Env → Option R) → Option R := xc (R := R) (T_laws_toStringS nf).S nf
noncomputable def l8_laws_toStringS (nf : Nat) (m8 : Nat) (a : List Str) (x4_8 : Int) (y7_8 : List Str) : Option (List Str) := xit [0, 3, 4] [[7]] (X_laws_toStringS nf c9_laws_toStringS) (qB 0 (qS (X_laws_toStringS nf c19_laws_toStringS) (KF [.t 2 (.o (kL kS))]))) m8 ⟨[(0, .v (kL kS) a), (3, .sl [7]), (4, .v kI x4_8)], [([7], .row true false kS y7_8)]⟩
theorem l8_laws_toStringS_eq (nf : Nat) (m8 : Nat) (a : List Str) (x4_8 : Int) (y7_8 : List Str) : l8_laws_toStringS nf (m8 + 1) a x4_8 y7_8 = (
  br (decide (x4_8 < (List.length a : Int))) (
    gg (0 ≤ x4_8 ∧ x4_8 < (List.length a : Int)) <|
      gg (0 ≤ x4_8 ∧ x4_8 < (List.length y7_8 : Int)) <|
        gg (0 ≤ x4_8 ∧ x4_8 < (List.length y7_8 : Int)) <|
          mark (l8_laws_toStringS nf m8 a (w64 (x4_8 + (1 : Int))) (List.set y7_8 (Int.toNat x4_8) (gt a x4_8 ([] : Str))))) (
    some y7_8)) := by kernel_rfl
theorem m_laws_toStringS_eq (nf : Nat) (a : List Str) : m_laws_toStringS nf a = (
  gg (0 ≤ (List.length a : Int) ∧ (List.length a : Int) ≤ 2147483647) <|
    mark (l8_laws_toStringS nf nf a (0 : Int) (List.replicate (Int.toNat (List.length a : Int)) ([] : Str)))) := by kernel_rfl
noncomputable def e_laws_toStringS (nf : Nat) : XE := eF 40 [.v (kL kS)] [.o (kL kS)] (fun t => m_laws_toStringS nf t.1)
theorem o_laws_toStringS (nf : Nat) : conOK Try.prog 40 (e_laws_toStringS nf).con := by
  have ih : XT.ok Try.prog (T_laws_toStringS nf) := by exact trivial
  refine eF_ok fun t x h => ?_
  obtain ⟨a, _⟩ := t
  exact runF_ok (N := 22) ih Try.func40 (by kernel_rfl) rfl h
def c19_laws_toTypeS : C := .sq (.rg [.mv 22 (.t 3), .mv 2 (.t 22)]) .rt
def c9_laws_toTypeS : C := .sq (.sq (.rg [.mv 8 (.t 4), .mv 9 (.t 0), .ln 10 false (.t 9), .bi 11 .lss (.t 8) (.t 10)]) (.cd (.t 11) .skip (.ex 0))) (.sq (.bk 1 (.rg [.mv 14 (.t 3), .mv 15 (.t 4), .mv 16 (.t 0), .mv 17 (.t 4), .ia 18 (.t 16) (.t 17) (kR 0), .ld 19 (.t 18) (kR 0), .ca (some 20) 15 [((.t 19), .v (kR 0))], .ia 21 (.t 14) (.t 15) (kR 0), .st (.t 21) (.t 20) (kR 0)])) (.rg [.mv 12 (.t 4), .bi 13 .add (.t 12) (.i 1), .mv 4 (.t 13)]))
def ir_laws_toTypeS : C := .sq (.rg [.mv 2 (.nl (kR 0))]) (.sq (.rg [.mv 5 (.t 0), .ln 6 false (.t 5), .mk 7 true (kR 0) (.t 6), .mv 3 (.t 7)]) (.sq (.sq (.rg [.mv 4 (.i 0)]) (.bk 0 (.lk [0, 3, 4] [[7]] c9_laws_toTypeS))) c19_laws_toTypeS))
def ir_laws_toType : C := .sq (.rg [.bx 1 (.t 0) (kR 0), .al 2 (kR 0)]) (.sq (.rg [.al 3 (kR 0)]) (.sq (.rg [.fa 4 (.t 1) 0 0 0, .ld 5 (.t 4) kI, .fa 6 (.t 3) 0 0 0, .st (.t 6) (.t 5) kI]) (.sq (.rg [.fa 7 (.t 1) 0 1 1, .ld 8 (.t 7) (kL kS), .ca (some 9) 40 [((.t 8), .v (kL kS))], .fa 10 (.t 3) 0 1 1, .st (.t 10) (.t 9) (kL kS)]) (.sq (.rg [.fa 11 (.t 1) 0 2 2, .ld 12 (.t 11) (kL (kR 0)), .ca (some 13) 79 [((.t 12), .v (kL (kR 0)))], .fa 14 (.t 3) 0 2 2, .st (.t 14) (.t 13) (kL (kR 0))]) (.sq (.rg [.ld 15 (.t 3) (kR 0), .st (.t 2) (.t 15) (kR 0)]) .rt)))))
noncomputable def B_laws_toTypeS (nf : Nat) : XT := [e_laws_toStringS nf]
noncomputable def G_laws_toTypeS (nf : Nat) : Nat → XT
  | 0 => []
  | kf + 1 => [eF 79 [.v (kL (kR 0))] [.o (kL (kR 0))] (fun t => (fun (a : List Ty) => runF (G_laws_toTypeS nf kf ++ B_laws_toTypeS nf) nf [.v (kL (kR 0))] [.t 2 (.o (kL (kR 0)))] ir_laws_toTypeS (a, ())) t.1),
    eF 15 [.v (kR 0)] [.o (kR 0)] (fun t => (fun (a : Ty) => runF (G_laws_toTypeS nf kf ++ B_laws_toTypeS nf) nf [.v (kR 0)] [.c 2 (.o (kR 0))] ir_laws_toType (a, ())) t.1)]
noncomputable abbrev T_laws_toTypeS (nf kf : Nat) : XT := G_laws_toTypeS nf kf ++ B_laws_toTypeS nf
noncomputable abbrev T_laws_toType (nf kf : Nat) : XT := G_laws_toTypeS nf kf ++ B_laws_toTypeS nf
noncomputable def m_laws_toTypeS (nf kf : Nat) (a : List Ty) : Option (List Ty) := runF (T_laws_toTypeS nf kf) nf [.v (kL (kR 0))] [.t 2 (.o (kL (kR 0)))] ir_laws_toTypeS (a, ())
noncomputable def X_laws_toTypeS {R : Type} (nf kf : Nat) : C → Env → (Xt → Env → Option R) → Option R := xc (R := R) (T_laws_toTypeS nf kf).S nf
noncomputable def m_laws_toType (nf kf : Nat) (a : Ty) : Option (Ty) := runF (T_laws_toType nf kf) nf [.v (kR 0)] [.c 2 (.o (kR 0))] ir_laws_toType (a, ())
noncomputable def l8_laws_toTypeS (nf kf : Nat) (m8 : Nat) (a : List Ty) (x4_8 : Int) (y7_8 : List Ty) : Option (List Ty) := xit [0, 3, 4] [[7]] (X_laws_toTypeS nf kf c9_laws_toTypeS) (qB 0 (qS (X_laws_toTypeS nf kf c19_laws_toTypeS) (KF [.t 2 (.o (kL (kR 0)))]))) m8 ⟨[(0, .v (kL (kR 0)) a), (3, .sl [7]), (4, .v kI x4_8)], [([7], .row true false (kR 0) y7_8)]⟩
theorem l8_laws_toTypeS_eq (nf kf : Nat) (m8 : Nat) (a : List Ty) (x4_8 : Int) (y7_8 : List Ty) : l8_laws_toTypeS nf (kf + 1) (m8 + 1) a x4_8 y7_8 = (
  br (decide (x4_8 < (List.length a : Int))) (
    gg (0 ≤ x4_8 ∧ x4_8 < (List.length a : Int)) <|
      cb (m_laws_toType nf kf (gt a x4_8 Ty.zero)) fun r20 =>
        gg (0 ≤ x4_8 ∧ x4_8 < (List.length y7_8 : Int)) <|
          gg (0 ≤ x4_8 ∧ x4_8 < (List.length y7_8 : Int)) <|
            mark (l8_laws_toTypeS nf (kf + 1) m8 a (w64 (x4_8 + (1 : Int))) (List.set y7_8 (Int.toNat x4_8) (Ty.h r20)))) (
    some y7_8)) := by kernel_rfl
theorem m_laws_toTypeS_eq (nf kf : Nat) (a : List Ty) : m_laws_toTypeS nf (kf + 1) a = (
  gg (0 ≤ (List.length a : Int) ∧ (List.length a : Int) ≤ 2147483647) <|
    mark (l8_laws_toTypeS nf (kf + 1) nf a (0 : Int) (List.replicate (Int.toNat (List.length a : Int)) Ty.zero))) := by kernel_rfl
theorem m_laws_toType_eq (nf kf : Nat) (a : Ty) : m_laws_toType nf (kf + 1) a = (
  cb (m_laws_toStringS nf a.labels) fun r9 =>
    cb (m_laws_toTypeS nf kf a.args) fun r13 =>
      some (Ty.mk a.kind r9 r13)) := by kernel_rfl
noncomputable def e_laws_toType (nf : Nat) : XE := eF 15 [.v (kR 0)] [.o (kR 0)] (fun t => m_laws_toType nf nf t.1)
theorem gok_laws_toTypeS (nf : Nat) : ∀ kf : Nat, XT.ok Try.prog (G_laws_toTypeS nf kf ++ B_laws_toTypeS nf)
  | 0 => by exact ⟨o_laws_toStringS nf, trivial⟩
  | kf + 1 => by
    have ih := gok_laws_toTypeS nf kf
    refine ⟨?_, ?_, (by exact ⟨o_laws_toStringS nf, trivial⟩)⟩
    · refine eF_ok fun t x h => ?_
      obtain ⟨a, _⟩ := t
      exact runF_ok (N := 23) ih Try.func79 (by kernel_rfl) rfl h
    · refine eF_ok fun t x h => ?_
      obtain ⟨a, _⟩ := t
      exact runF_ok (N := 16) ih Try.func15 (by kernel_rfl) rfl h
theorem o_laws_toType (nf : Nat) : conOK Try.prog 15 (e_laws_toType nf).con := by
  have ih := gok_laws_toTypeS nf nf
  refine eF_ok fun t x h => ?_
  obtain ⟨a, _⟩ := t
  exact runF_ok (N := 16) ih Try.func15 (by kernel_rfl) rfl h
def c31_laws_eqStringS : C := .sq (.rg [.mv 4 (.b true)]) .rt
def c15_laws_eqStringS : C := .sq (.sq (.rg [.mv 11 (.t 5), .mv 12 (.t 0), .ln 13 false (.t 12), .bi 14 .lss (.t 11) (.t 13)]) (.cd (.t 14) .skip (.ex 0))) (.sq (.bk 1 (.sq (.dr [] [.mv 17 (.t 0), .mv 18 (.t 5), .ia 19 (.t 17) (.t 18) kS, .ld 20 (.t 19) kS, .mv 21 (.t 1), .mv 22 (.t 5), .ia 23 (.t 21) (.t 22) kS, .ld 24 (.t 23) kS] [.bi 25 .neq (.t 20) (.t 24)]) (.cd (.t 25) (.sq (.rg [.mv 4 (.b false)]) .rt) .skip))) (.rg [.mv 15 (.t 5), .bi 16 .add (.t 15) (.i 1), .mv 5 (.t 16)]))
def ir_laws_eqStringS : C := .sq (.rg [.mv 4 (.b false)]) (.sq (.sq (.rg [.mv 6 (.t 0), .ln 7 false (.t 6), .mv 8 (.t 1), .ln 9 false (.t 8), .bi 10 .neq (.t 7) (.t 9)]) (.cd (.t 10) (.sq (.rg [.mv 4 (.b false)]) .rt) .skip)) (.sq (.sq (.rg [.mv 5 (.i 0)]) (.bk 0 (.lk [0, 1, 5] [] c15_laws_eqStringS))) c31_laws_eqStringS))
noncomputable abbrev T_laws_eqStringS (nf : Nat) : XT := []
noncomputable def m_laws_eqStringS (nf : Nat) (a : List Str) (b : List Str) : Option (Bool) := runF (T_laws_eqStringS nf) nf [.v (kL kS), .v (kL kS)] [.t 4 (.v .bool)] ir_laws_eqStringS (a, b, ())
noncomputable def X_laws_eqStringS {R : Type} (nf : Nat) : C → Env → (Xt → Env → Option R) → Option R := xc (R := R) (T_laws_eqStringS nf).S nf
noncomputable def l14_laws_eqStringS (nf : Nat) (m14 : Nat) (a : List Str) (b : List Str) (x5_14 : Int) : Option (Bool) := xit [0, 1, 5] [] (X_laws_eqStringS nf c15_laws_eqStringS) (qB 0 (qS (X_laws_eqStringS nf c31_laws_eqStringS) (KF [.t 4 (.v .bool)]))) m14 ⟨[(0, .v (kL kS) a), (1, .v (kL kS) b), (5, .v kI x5_14)], []⟩
theorem l14_laws_eqStringS_eq (nf : Nat) (m14 : Nat) (a : List Str) (b : List Str) (x5_14 : Int) : l14_laws_eqStringS nf (m14 + 1) a b x5_14 = (
  br (decide (x5_14 < (List.length a : Int))) (
    gg (0 ≤ x5_14 ∧ x5_14 < (List.length a : Int)) <|
      gg (0 ≤ x5_14 ∧ x5_14 < (List.length b : Int)) <|
        br (!((gt a x5_14 ([] : Str)) == (gt b x5_14 ([] : Str)))) (
          some false) (
          mark (l14_laws_eqStringS nf m14 a b (w64 (x5_14 + (1 : Int)))))) (
    some true)) := by kernel_rfl
theorem m_laws_eqStringS_eq (nf : Nat) (a : List Str) (b : List Str) : m_laws_eqStringS nf a b = (
  br (!((List.length a : Int) == (List.length b : Int))) (
    some false) (
    mark (l14_laws_eqStringS nf nf a b (0 : Int)))) := by kernel_rfl
noncomputable def e_laws_eqStringS (nf : Nat) : XE := eF 42 [.v (kL kS), .v (kL kS)] [.v .bool] (fun t => m_laws_eqStringS nf t.1 t.2.1)
theorem o_laws_eqStringS (nf : Nat) : conOK Try.prog 42 (e_laws_eqStringS nf).con := by
  have ih : XT.ok Try.prog (T_laws_eqStringS nf) := by exact trivial
  refine eF_ok fun t x h => ?_
  obtain ⟨a, b, _⟩ := t
  exact runF_ok (N := 26) ih Try.func42 (by kernel_rfl) rfl h
def c31_laws_eqTypeS : C := .sq (.rg [.mv 4 (.b true)]) .rt
def c15_laws_eqTypeS : C := .sq (.sq (.rg [.mv 11 (.t 5), .mv 12 (.t 0), .ln 13 false (.t 12), .bi 14 .lss (.t 11) (.t 13)]) (.cd (.t 14) .skip (.ex 0))) (.sq (.bk 1 (.sq (.dr [] [.mv 17 (.t 0), .mv 18 (.t 5), .ia 19 (.t 17) (.t 18) (kR 0), .ld 20 (.t 19) (kR 0), .mv 21 (.t 1), .mv 22 (.t 5), .ia 23 (.t 21) (.t 22) (kR 0), .ld 24 (.t 23) (kR 0)] [.cv (some 25) 18 [((.t 20), .v (kR 0)), ((.t 24), .v (kR 0))], .un 26 .not (.t 25)]) (.cd (.t 26) (.sq (.rg [.mv 4 (.b false)]) .rt) .skip))) (.rg [.mv 15 (.t 5), .bi 16 .add (.t 15) (.i 1), .mv 5 (.t 16)]))
def ir_laws_eqTypeS : C := .sq (.rg [.mv 4 (.b false)]) (.sq (.sq (.rg [.mv 6 (.t 0), .ln 7 false (.t 6), .mv 8 (.t 1), .ln 9 false (.t 8), .bi 10 .neq (.t 7) (.t 9)]) (.cd (.t 10) (.sq (.rg [.mv 4 (.b false)]) .rt) .skip)) (.sq (.sq (.rg [.mv 5 (.i 0)]) (.bk 0 (.lk [0, 1, 5] [] c15_laws_eqTypeS))) c31_laws_eqTypeS))
def ir_laws_eqType : C := .sq (.rg [.bx 2 (.t 0) (kR 0), .bx 3 (.t 1) (kR 0), .mv 4 (.b false)]) (.sq (.sq (.rg [.fa 5 (.t 2) 0 0 0, .ld 6 (.t 5) kI, .fa 7 (.t 3) 0 0 0, .ld 8 (.t 7) kI, .bi 9 .neq (.t 6) (.t 8)]) (.cd (.t 9) (.sq (.rg [.mv 4 (.b false)]) .rt) .skip)) (.sq (.sq (.rg [.fa 10 (.t 2) 0 1 1, .ld 11 (.t 10) (kL kS), .fa 12 (.t 3) 0 1 1, .ld 13 (.t 12) (kL kS), .cv (some 14) 42 [((.t 11), .v (kL kS)), ((.t 13), .v (kL kS))], .un 15 .not (.t 14)]) (.cd (.t 15) (.sq (.rg [.mv 4 (.b false)]) .rt) .skip)) (.sq (.sq (.rg [.fa 16 (.t 2) 0 2 2, .ld 17 (.t 16) (kL (kR 0)), .fa 18 (.t 3) 0 2 2, .ld 19 (.t 18) (kL (kR 0)), .cv (some 20) 82 [((.t 17), .v (kL (kR 0))), ((.t 19), .v (kL (kR 0)))], .un 21 .not (.t 20)]) (.cd (.t 21) (.sq (.rg [.mv 4 (.b false)]) .rt) .skip)) (.sq (.rg [.mv 4 (.b true)]) .rt))))
noncomputable def B_laws_eqTypeS (nf : Nat) : XT := [e_laws_eqStringS nf]
noncomputable def G_laws_eqTypeS (nf : Nat) : Nat → XT
  | 0 => []
  | kf + 1 => [eF 82 [.v (kL (kR 0)), .v (kL (kR 0))] [.v .bool] (fun t => (fun (a : List Ty) (b : List Ty) => runF (G_laws_eqTypeS nf kf ++ B_laws_eqTypeS nf) nf [.v (kL (kR 0)), .v (kL (kR 0))] [.t 4 (.v .bool)] ir_laws_eqTypeS (a, b, ())) t.1 t.2.1),
    eF 18 [.v (kR 0), .v (kR 0)] [.v .bool] (fun t => (fun (a : Ty) (b : Ty) => runF (G_laws_eqTypeS nf kf ++ B_laws_eqTypeS nf) nf [.v (kR 0), .v (kR 0)] [.t 4 (.v .bool)] ir_laws_eqType (a, b, ())) t.1 t.2.1)]
noncomputable abbrev T_laws_eqTypeS (nf kf : Nat) : XT := G_laws_eqTypeS nf kf ++ B_laws_eqTypeS nf
noncomputable abbrev T_laws_eqType (nf kf : Nat) : XT := G_laws_eqTypeS nf kf ++ B_laws_eqTypeS nf
noncomputable def m_laws_eqTypeS (nf kf : Nat) (a : List Ty) (b : List Ty) : Option (Bool) := runF (T_laws_eqTypeS nf kf) nf [.v (kL (kR 0)), .v (kL (kR 0))] [.t 4 (.v .bool)] ir_laws_eqTypeS (a, b, ())
noncomputable def X_laws_eqTypeS {R : Type} (nf kf : Nat) : C → Env → (Xt → Env → Option R) → Option R := xc (R := R) (T_laws_eqTypeS nf kf).S nf
noncomputable def m_laws_eqType (nf kf : Nat) (a : Ty) (b : Ty) : Option (Bool) := runF (T_laws_eqType nf kf) nf [.v (kR 0), .v (kR 0)] [.t 4 (.v .bool)] ir_laws_eqType (a, b, ())
noncomputable def l14_laws_eqTypeS (nf kf : Nat) (m14 : Nat) (a : List Ty) (b : List Ty) (x5_14 : Int) : Option (Bool) := xit [0, 1, 5] [] (X_laws_eqTypeS nf kf c15_laws_eqTypeS) (qB 0 (qS (X_laws_eqTypeS nf kf c31_laws_eqTypeS) (KF [.t 4 (.v .bool)]))) m14 ⟨[(0, .v (kL (kR 0)) a), (1, .v (kL (kR 0)) b), (5, .v kI x5_14)], []⟩
theorem l14_laws_eqTypeS_eq (nf kf : Nat) (m14 : Nat) (a : List Ty) (b : List Ty) (x5_14 : Int) : l14_laws_eqTypeS nf (kf + 1) (m14 + 1) a b x5_14 = (
  br (decide (x5_14 < (List.length a : Int))) (
    gg (0 ≤ x5_14 ∧ x5_14 < (List.length a : Int)) <|
      gg (0 ≤ x5_14 ∧ x5_14 < (List.length b : Int)) <|
        cb (m_laws_eqType nf kf (gt a x5_14 Ty.zero) (gt b x5_14 Ty.zero)) fun r25 =>
          br (!r25) (
            some false) (
            mark (l14_laws_eqTypeS nf (kf + 1) m14 a b (w64 (x5_14 + (1 : Int)))))) (
    some true)) := by kernel_rfl
theorem m_laws_eqTypeS_eq (nf kf : Nat) (a : List Ty) (b : List Ty) : m_laws_eqTypeS nf (kf + 1) a b = (
  br (!((List.length a : Int) == (List.length b : Int))) (
    some false) (
    mark (l14_laws_eqTypeS nf (kf + 1) nf a b (0 : Int)))) := by kernel_rfl
theorem m_laws_eqType_eq (nf kf : Nat) (a : Ty) (b : Ty) : m_laws_eqType nf (kf + 1) a b = (
  br (!(a.kind == b.kind)) (
    some false) (
    cb (m_laws_eqStringS nf a.labels b.labels) fun r14 =>
      br (!r14) (
        some false) (
        cb (m_laws_eqTypeS nf kf a.args b.args) fun r20 =>
          br (!r20) (
            some false) (
            some true)))) := by kernel_rfl
noncomputable def e_laws_eqType (nf : Nat) : XE := eF 18 [.v (kR 0), .v (kR 0)] [.v .bool] (fun t => m_laws_eqType nf nf t.1 t.2.1)
theorem gok_laws_eqTypeS (nf : Nat) : ∀ kf : Nat, XT.ok Try.prog (G_laws_eqTypeS nf kf ++ B_laws_eqTypeS nf)
  | 0 => by exact ⟨o_laws_eqStringS nf, trivial⟩
  | kf + 1 => by
    have ih := gok_laws_eqTypeS nf kf
    refine ⟨?_, ?_, (by exact ⟨o_laws_eqStringS nf, trivial⟩)⟩
    · refine eF_ok fun t x h => ?_
      obtain ⟨a, b, _⟩ := t
      exact runF_ok (N := 27) ih Try.func82 (by kernel_rfl) rfl h
    · refine eF_ok fun t x h => ?_
      obtain ⟨a, b, _⟩ := t
      exact runF_ok (N := 22) ih Try.func18 (by kernel_rfl) rfl h
theorem o_laws_eqType (nf : Nat) : conOK Try.prog 18 (e_laws_eqType nf).con := by
  have ih := gok_laws_eqTypeS nf nf
  refine eF_ok fun t x h => ?_
  obtain ⟨a, b, _⟩ := t
  exact runF_ok (N := 22) ih Try.func18 (by kernel_rfl) rfl h
def c25_laws_markText : C := .sq (.rg [.mv 18 (.t 3), .bi 19 .add (.s [109]) (.t 18), .mv 2 (.t 19)]) .rt
def c15_laws_markText : C := .sq (.sq (.rg [.mv 6 (.t 0), .bi 7 .gtr (.t 6) (.i 0)]) (.cd (.t 7) .skip (.ex 0))) (.bk 1 (.sq (.rg [.mv 8 (.t 0), .bi 9 .rem (.t 8) (.i 10), .bi 10 .add (.i 48) (.t 9), .ci 11 .u8 (.t 10), .bs 12 true (.int .u8) [(.t 11)], .cs 13 (.t 12), .mv 14 (.t 3), .bi 15 .add (.t 13) (.t 14), .mv 3 (.t 15)]) (.rg [.mv 16 (.t 0), .bi 17 .quo (.t 16) (.i 10), .mv 0 (.t 17)])))
def ir_laws_markText : C := .sq (.rg [.mv 2 (.s [])]) (.sq (.sq (.rg [.mv 4 (.t 0), .bi 5 .leq (.t 4) (.i 0)]) (.cd (.t 5) (.sq (.rg [.mv 2 (.s [109, 48])]) .rt) .skip)) (.sq (.rg [.mv 3 (.s [])]) (.sq (.bk 0 (.lk [0, 3] [] c15_laws_markText)) c25_laws_markText)))
noncomputable abbrev T_laws_markText (nf : Nat) : XT := []
noncomputable def m_laws_markText (nf : Nat) (k : Int) : Option (Str) := runF (T_laws_markText nf) nf [.v kI] [.t 2 (.v kS)] ir_laws_markText (k, ())
noncomputable def X_laws_markText {R : Type} (nf : Nat) : C → Env → (Xt → Env → Option R) → Option R := xc (R := R) (T_laws_markText nf).S nf
noncomputable def l14_laws_markText (nf : Nat) (m14 : Nat) (x0_14 : Int) (x3_14 : Str) : Option (Str) := xit [0, 3] [] (X_laws_markText nf c15_laws_markText) (qB 0 (qS (X_laws_markText nf c25_laws_markText) (KF [.t 2 (.v kS)]))) m14 ⟨[(0, .v kI x0_14), (3, .v kS x3_14)], []⟩
theorem l14_laws_markText_eq (nf : Nat) (m14 : Nat) (x0_14 : Int) (x3_14 : Str) : l14_laws_markText nf (m14 + 1) x0_14 x3_14 = (
  br (decide ((0 : Int) < x0_14)) (
    gg ((10 : Int) ≠ 0) <|
      gg (List.length (bytesOf ([(IntKind.u8.wrap (w64 ((48 : Int) + (w64 (Int.tmod x0_14 (10 : Int))))))] : List Int)) + List.length x3_14 ≤ 9223372036854775807) <|
        gg ((10 : Int) ≠ 0) <|
          mark (l14_laws_markText nf m14 (w64 (Int.tdiv x0_14 (10 : Int))) ((bytesOf ([(IntKind.u8.wrap (w64 ((48 : Int) + (w64 (Int.tmod x0_14 (10 : Int))))))] : List Int)) ++ x3_14))) (
    gg (List.length ([109] : Str) + List.length x3_14 ≤ 9223372036854775807) <|
      some (([109] : Str) ++ x3_14))) := by kernel_rfl
theorem m_laws_markText_eq (nf : Nat) (k : Int) : m_laws_markText nf k = (
  br (decide (k ≤ (0 : Int))) (
    some ([109, 48] : Str)) (
    mark (l14_laws_markText nf nf k ([] : Str)))) := by kernel_rfl
noncomputable def e_laws_markText (nf : Nat) : XE := eF 91 [.v kI] [.v kS] (fun t => m_laws_markText nf t.1)
theorem o_laws_markText (nf : Nat) : conOK Try.prog 91 (e_laws_markText nf).con := by
  have ih : XT.ok Try.prog (T_laws_markText nf) := by exact trivial
  refine eF_ok fun t x h => ?_
  obtain ⟨k, _⟩ := t
  exact runF_ok (N := 20) ih Try.func91 (by kernel_rfl) rfl h
def c19_laws_markStringS : C := .sq (.rg [.mv 19 (.t 1), .mv 4 (.t 19)]) .rt
def c7_laws_markStringS : C := .sq (.sq (.rg [.mv 6 (.t 5), .mv 7 (.t 0), .ln 8 false (.t 7), .bi 9 .lss (.t 6) (.t 8)]) (.cd (.t 9) .skip (.ex 0))) (.sq (.bk 1 (.sq (.rg [.mv 12 (.t 0), .mv 13 (.t 5), .mv 14 (.t 1), .cv (some 15) 91 [((.t 14), .v kI)], .ia 16 (.t 12) (.t 13) kS, .st (.t 16) (.t 15) kS]) (.rg [.mv 17 (.t 1), .bi 18 .add (.t 17) (.i 1), .mv 1 (.t 18)]))) (.rg [.mv 10 (.t 5), .bi 11 .add (.t 10) (.i 1), .mv 5 (.t 11)]))
def ir_laws_markStringS : C := .sq (.rg [.mv 4 (.i 0)]) (.sq (.sq (.rg [.mv 5 (.i 0)]) (.bk 0 (.lk [0, 1, 5] [[20]] c7_laws_markStringS))) c19_laws_markStringS)
noncomputable abbrev T_laws_markStringS (nf : Nat) : XT := [e_laws_markText nf]
noncomputable def m_laws_markStringS (nf : Nat) (a : List Str) (k : Int) : Option (List Str × Int) := runW (T_laws_markStringS nf) nf 20 4 kS ir_laws_markStringS a k
noncomputable def X_laws_markStringS {R : Type} (nf : Nat) : C → Env → (Xt → Env → Option R) → Option R := xc (R := R) (T_laws_markStringS nf).S nf
noncomputable def l6_laws_markStringS (nf : Nat) (m6 : Nat) (x1_6 : Int) (x5_6 : Int) (y20_6 : List Str) : Option (List Str × Int) := xit [0, 1, 5] [[20]] (X_laws_markStringS nf c7_laws_markStringS) (qB 0 (qS (X_laws_markStringS nf c19_laws_markStringS) (KW 4 20 kS))) m6 ⟨[(0, .sl [20]), (1, .v kI x1_6), (5, .v kI x5_6)], [([20], .row true true kS y20_6)]⟩
theorem l6_laws_markStringS_eq (nf : Nat) (m6 : Nat) (x1_6 : Int) (x5_6 : Int) (y20_6 : List Str) : l6_laws_markStringS nf (m6 + 1) x1_6 x5_6 y20_6 = (
  br (decide (x5_6 < (List.length y20_6 : Int))) (
    cb (m_laws_markText nf x1_6) fun r15 =>
      gg (0 ≤ x5_6 ∧ x5_6 < (List.length y20_6 : Int)) <|
        gg (0 ≤ x5_6 ∧ x5_6 < (List.length y20_6 : Int)) <|
          mark (l6_laws_markStringS nf m6 (w64 (x1_6 + (1 : Int))) (w64 (x5_6 + (1 : Int))) (List.set y20_6 (Int.toNat x5_6) r15))) (
    some (y20_6, x1_6))) := by kernel_rfl
theorem m_laws_markStringS_eq (nf : Nat) (a : List Str) (k : Int) : m_laws_markStringS nf a k = (
  mark (l6_laws_markStringS nf nf k (0 : Int) a)) := by kernel_rfl
noncomputable def e_laws_markStringS (nf : Nat) : XE := eW 43 kS (fun a j => m_laws_markStringS nf a j)
theorem o_laws_markStringS (nf : Nat) : conOK Try.prog 43 (e_laws_markStringS nf).con := by
  have ih : XT.ok Try.prog (T_laws_markStringS nf) := by exact ⟨o_laws_markText nf, trivial⟩
  refine eW_ok fun a j x h => ?_
  exact runW_ok (N := 20) ih Try.func43 (by kernel_rfl) rfl h
def c23_laws_markTypeS : C := .sq (.rg [.mv 33 (.t 1), .mv 4 (.t 33)]) .rt
def c22_laws_markTypeS : C := .rg [.mv 10 (.t 5), .bi 11 .add (.t 10) (.i 1), .mv 5 (.t 11)]
def c21_laws_markTypeS : C := .rl [.mv 26 (.t 0), .mv 27 (.t 5), .ia 28 (.t 26) (.t 27) (kR 0), .fa 29 (.t 28) 0 2 2] 30 (.t 29) 31 (.t 1) 32 83 (kR 0) [.mv 1 (.t 32)]
def w21_laws_markTypeS : C := .kp [0, 1, 5] [[34]] c21_laws_markTypeS
def c7_laws_markTypeS : C := .sq (.sq (.rg [.mv 6 (.t 5), .mv 7 (.t 0), .ln 8 false (.t 7), .bi 9 .lss (.t 6) (.t 8)]) (.cd (.t 9) .skip (.ex 0))) (.sq (.bk 1 (.sq (.rg [.mv 12 (.t 0), .mv 13 (.t 5), .mv 14 (.t 1), .ia 15 (.t 12) (.t 13) (kR 0), .fa 16 (.t 15) 0 0 0, .sf (.t 16) (.t 14) kI]) (.sq (.rg [.mv 17 (.t 1), .bi 18 .add (.t 17) (.i 1), .mv 1 (.t 18)]) (.sq (.rl [.mv 19 (.t 0), .mv 20 (.t 5), .ia 21 (.t 19) (.t 20) (kR 0), .fa 22 (.t 21) 0 1 1] 23 (.t 22) 24 (.t 1) 25 43 kS [.mv 1 (.t 25)]) w21_laws_markTypeS)))) c22_laws_markTypeS)
def ir_laws_markTypeS : C := .sq (.rg [.mv 4 (.i 0)]) (.sq (.sq (.rg [.mv 5 (.i 0)]) (.bk 0 (.lk [0, 1, 5] [[34]] c7_laws_markTypeS))) c23_laws_markTypeS)
noncomputable def B_laws_markTypeS (nf : Nat) : XT := [e_laws_markStringS nf]
noncomputable def G_laws_markTypeS (nf : Nat) : Nat → XT
  | 0 => []
  | kf + 1 => [eW 83 (kR 0) (fun a j => (fun (a : List Ty) (k : Int) => runW (G_laws_markTypeS nf kf ++ B_laws_markTypeS nf) nf 34 4 (kR 0) ir_laws_markTypeS a k) a j)]
noncomputable abbrev T_laws_markTypeS (nf kf : Nat) : XT := G_laws_markTypeS nf kf ++ B_laws_markTypeS nf
noncomputable def m_laws_markTypeS (nf kf : Nat) (a : List Ty) (k : Int) : Option (List Ty × Int) := runW (T_laws_markTypeS nf kf) nf 34 4 (kR 0) ir_laws_markTypeS a k
noncomputable def X_laws_markTypeS {R : Type} (nf kf : Nat) : C → Env → (Xt → Env → Option R) → Option R := xc (R := R) (T_laws_markTypeS nf kf).S nf
noncomputable def j21_laws_markTypeS (nf kf : Nat) (m6 : Nat) (r25 : List Str × Int) (x5_6 : Int) (y34_21 : List Ty) : Option (List Ty × Int) := X_laws_markTypeS nf kf c21_laws_markTypeS ⟨[(0, .sl [34]), (1, .v kI r25.2), (5, .v kI x5_6)], [([34], .row true true (kR 0) y34_21)]⟩ (qB 1 (qS (X_laws_markTypeS nf kf c22_laws_markTypeS) (qM [0, 1, 5] [[34]] (X_laws_markTypeS nf kf c7_laws_markTypeS) m6 (qB 0 (qS (X_laws_markTypeS nf kf c23_laws_markTypeS) (KW 4 34 (kR 0)))))))
noncomputable def l6_laws_markTypeS (nf kf : Nat) (m6 : Nat) (x1_6 : Int) (x5_6 : Int) (y34_6 : List Ty) : Option (List Ty × Int) := xit [0, 1, 5] [[34]] (X_laws_markTypeS nf kf c7_laws_markTypeS) (qB 0 (qS (X_laws_markTypeS nf kf c23_laws_markTypeS) (KW 4 34 (kR 0)))) m6 ⟨[(0, .sl [34]), (1, .v kI x1_6), (5, .v kI x5_6)], [([34], .row true true (kR 0) y34_6)]⟩
theorem j21_laws_markTypeS_eq (nf kf : Nat) (m6 : Nat) (r25 : List Str × Int) (x5_6 : Int) (y34_21 : List Ty) : j21_laws_markTypeS nf (kf + 1) m6 r25 x5_6 y34_21 = (
  gg (0 ≤ x5_6 ∧ x5_6 < (List.length y34_21 : Int)) <|
    gg (0 ≤ x5_6 ∧ x5_6 < (List.length y34_21 : Int)) <|
      cb (m_laws_markTypeS nf kf ((gt y34_21 x5_6 Ty.zero).args) r25.2) fun r32 =>
        mark (l6_laws_markTypeS nf (kf + 1) m6 r32.2 (w64 (x5_6 + (1 : Int))) (List.set y34_21 (Int.toNat x5_6) (Ty.mk ((gt y34_21 x5_6 Ty.zero).kind) ((gt y34_21 x5_6 Ty.zero).labels) r32.1)))) := by kernel_rfl
theorem l6_laws_markTypeS_eq (nf kf : Nat) (m6 : Nat) (x1_6 : Int) (x5_6 : Int) (y34_6 : List Ty) : l6_laws_markTypeS nf (kf + 1) (m6 + 1) x1_6 x5_6 y34_6 = (
  br (decide (x5_6 < (List.length y34_6 : Int))) (
    gg (0 ≤ x5_6 ∧ x5_6 < (List.length y34_6 : Int)) <|
      gg (0 ≤ x5_6 ∧ x5_6 < (List.length y34_6 : Int)) <|
        gg (0 ≤ x5_6 ∧ x5_6 < (List.length (List.set y34_6 (Int.toNat x5_6) (Ty.mk x1_6 ((gt y34_6 x5_6 Ty.zero).labels) ((gt y34_6 x5_6 Ty.zero).args))) : Int)) <|
          gg (0 ≤ x5_6 ∧ x5_6 < (List.length (List.set y34_6 (Int.toNat x5_6) (Ty.mk x1_6 ((gt y34_6 x5_6 Ty.zero).labels) ((gt y34_6 x5_6 Ty.zero).args))) : Int)) <|
            cb (m_laws_markStringS nf ((gt (List.set y34_6 (Int.toNat x5_6) (Ty.mk x1_6 ((gt y34_6 x5_6 Ty.zero).labels) ((gt y34_6 x5_6 Ty.zero).args))) x5_6 Ty.zero).labels) (w64 (x1_6 + (1 : Int)))) fun r25 =>
              mark (j21_laws_markTypeS nf (kf + 1) m6 r25 x5_6 (List.set (List.set y34_6 (Int.toNat x5_6) (Ty.mk x1_6 ((gt y34_6 x5_6 Ty.zero).labels) ((gt y34_6 x5_6 Ty.zero).args))) (Int.toNat x5_6) (Ty.mk ((gt (List.set y34_6 (Int.toNat x5_6) (Ty.mk x1_6 ((gt y34_6 x5_6 Ty.zero).labels) ((gt y34_6 x5_6 Ty.zero).args))) x5_6 Ty.zero).kind) r25.1 ((gt (List.set y34_6 (Int.toNat x5_6) (Ty.mk x1_6 ((gt y34_6 x5_6 Ty.zero).labels) ((gt y34_6 x5_6 Ty.zero).args))) x5_6 Ty.zero).args))))) (
    some (y34_6, x1_6))) := by
  unfold l6_laws_markTypeS j21_laws_markTypeS c7_laws_markTypeS c23_laws_markTypeS w21_laws_markTypeS c22_laws_markTypeS
  generalize c21_laws_markTypeS = x0
  revert x0
  refine id ?_
  intro x0
  kernel_rfl
theorem m_laws_markTypeS_eq (nf kf : Nat) (a : List Ty) (k : Int) : m_laws_markTypeS nf (kf + 1) a k = (
  mark (l6_laws_markTypeS nf (kf + 1) nf k (0 : Int) a)) := by kernel_rfl
noncomputable def e_laws_markTypeS (nf : Nat) : XE := eW 83 (kR 0) (fun a j => m_laws_markTypeS nf nf a j)
theorem gok_laws_markTypeS (nf : Nat) : ∀ kf : Nat, XT.ok Try.prog (G_laws_markTypeS nf kf ++ B_laws_markTypeS nf)
  | 0 => by exact ⟨o_laws_markStringS nf, trivial⟩
  | kf + 1 => by
    have ih := gok_laws_markTypeS nf kf
    refine ⟨?_, (by exact ⟨o_laws_markStringS nf, trivial⟩)⟩
    · refine eW_ok fun a j x h => ?_
      exact runW_ok (N := 34) ih Try.func83 (by kernel_rfl) rfl h
theorem o_laws_markTypeS (nf : Nat) : conOK Try.prog 83 (e_laws_markTypeS nf).con := by
  have ih := gok_laws_markTypeS nf nf
  refine eW_ok fun a j x h => ?_
  exact runW_ok (N := 34) ih Try.func83 (by kernel_rfl) rfl h
def ir_laws_markType : C := .sq (.rg [.bx 2 (.t 0) (kR 0), .mv 4 (.i 0)]) (.sq (.rg [.fa 5 (.t 2) 0 1 1, .ld 6 (.t 5) (kL kS), .mv 7 (.t 1), .cw (some 8) 43 kS (.t 6) (.t 7), .mv 1 (.t 8)]) (.sq (.rg [.fa 9 (.t 2) 0 2 2, .ld 10 (.t 9) (kL (kR 0)), .mv 11 (.t 1), .cw (some 12) 83 (kR 0) (.t 10) (.t 11), .mv 1 (.t 12)]) (.sq (.rg [.mv 13 (.t 1), .mv 4 (.t 13)]) .rt)))
noncomputable abbrev T_laws_markType (nf : Nat) : XT := [e_laws_markStringS nf, e_laws_markTypeS nf]
noncomputable def m_laws_markType (nf : Nat) (a_kind : Int) (k : Int) (a_labels : List Str) (a_args : List Ty) : Option ((Int) × (List Str) × (List Ty)) := runQ (T_laws_markType nf) nf [.ag 0 [.v kI, .sl 0, .sl 1], .v kI] [.row true kS, .row true (kR 0)] [.row true kS, .row true (kR 0)] [.t 4 (.v kI)] ir_laws_markType ((a_kind, (), (), ()), k, ()) (a_labels, a_args)
theorem m_laws_markType_eq (nf : Nat) (a_kind : Int) (k : Int) (a_labels : List Str) (a_args : List Ty) : m_laws_markType nf a_kind k a_labels a_args = (
  cb (m_laws_markStringS nf a_labels k) fun r8 =>
    cb (m_laws_markTypeS nf nf a_args r8.2) fun r12 =>
      some (r12.2, (r8.1, r12.1))) := by kernel_rfl
noncomputable def e_laws_markType (nf : Nat) : XE := eQ 19 [.ag 0 [.v kI, .sl 0, .sl 1], .v kI] [.v kI] [.row true kS, .row true (kR 0)] [.row true kS, .row true (kR 0)] (fun t u => m_laws_markType nf t.1.1 t.2.1 u.1 u.2)
theorem o_laws_markType (nf : Nat) : conOK Try.prog 19 (e_laws_markType nf).con := by
  have ih : XT.ok Try.prog (T_laws_markType nf) := by exact ⟨o_laws_markStringS nf, o_laws_markTypeS nf, trivial⟩
  refine eQ_ok fun t u x h => ?_
  obtain ⟨⟨a_kind, _, _, _⟩, k, _⟩ := t
  exact runQ_ok (N := 14) ih Try.func19 (by kernel_rfl) rfl rfl rfl rfl rfl h
def c25_laws_heldStringS : C := .sq (.rg [.mv 21 (.t 1), .mv 4 (.t 21)]) .rt
def c7_laws_heldStringS : C := .sq (.sq (.rg [.mv 6 (.t 5), .mv 7 (.t 0), .ln 8 false (.t 7), .bi 9 .lss (.t 6) (.t 8)]) (.cd (.t 9) .skip (.ex 0))) (.sq (.bk 1 (.sq (.sq (.dr [] [.mv 12 (.t 0), .mv 13 (.t 5), .ia 14 (.t 12) (.t 13) kS, .ld 15 (.t 14) kS, .mv 16 (.t 1), .cv (some 17) 91 [((.t 16), .v kI)]] [.bi 18 .neq (.t 15) (.t 17)]) (.cd (.t 18) (.sq (.rg [.mv 4 (.i (-1))]) .rt) .skip)) (.rg [.mv 19 (.t 1), .bi 20 .add (.t 19) (.i 1), .mv 1 (.t 20)]))) (.rg [.mv 10 (.t 5), .bi 11 .add (.t 10) (.i 1), .mv 5 (.t 11)]))
def ir_laws_heldStringS : C := .sq (.rg [.mv 4 (.i 0)]) (.sq (.sq (.rg [.mv 5 (.i 0)]) (.bk 0 (.lk [0, 1, 5] [] c7_laws_heldStringS))) c25_laws_heldStringS)
noncomputable abbrev T_laws_heldStringS (nf : Nat) : XT := [e_laws_markText nf]
noncomputable def m_laws_heldStringS (nf : Nat) (a : List Str) (k : Int) : Option (Int) := runF (T_laws_heldStringS nf) nf [.v (kL kS), .v kI] [.t 4 (.v kI)] ir_laws_heldStringS (a, k, ())
noncomputable def X_laws_heldStringS {R : Type} (nf : Nat) : C → Env → (Xt → Env → Option R) → Option R := xc (R := R) (T_laws_heldStringS nf).S nf
noncomputable def l6_laws_heldStringS (nf : Nat) (m6 : Nat) (a : List Str) (x1_6 : Int) (x5_6 : Int) : Option (Int) := xit [0, 1, 5] [] (X_laws_heldStringS nf c7_laws_heldStringS) (qB 0 (qS (X_laws_heldStringS nf c25_laws_heldStringS) (KF [.t 4 (.v kI)]))) m6 ⟨[(0, .v (kL kS) a), (1, .v kI x1_6), (5, .v kI x5_6)], []⟩
theorem l6_laws_heldStringS_eq (nf : Nat) (m6 : Nat) (a : List Str) (x1_6 : Int) (x5_6 : Int) : l6_laws_heldStringS nf (m6 + 1) a x1_6 x5_6 = (
  br (decide (x5_6 < (List.length a : Int))) (
    gg (0 ≤ x5_6 ∧ x5_6 < (List.length a : Int)) <|
      cb (m_laws_markText nf x1_6) fun r17 =>
        br (!((gt a x5_6 ([] : Str)) == r17)) (
          some (-1 : Int)) (
          mark (l6_laws_heldStringS nf m6 a (w64 (x1_6 + (1 : Int))) (w64 (x5_6 + (1 : Int)))))) (
    some x1_6)) := by kernel_rfl
theorem m_laws_heldStringS_eq (nf : Nat) (a : List Str) (k : Int) : m_laws_heldStringS nf a k = (
  mark (l6_laws_heldStringS nf nf a k (0 : Int))) := by kernel_rfl
noncomputable def e_laws_heldStringS (nf : Nat) : XE := eF 84 [.v (kL kS), .v kI] [.v kI] (fun t => m_laws_heldStringS nf t.1 t.2.1)
theorem o_laws_heldStringS (nf : Nat) : conOK Try.prog 84 (e_laws_heldStringS nf).con := by
  have ih : XT.ok Try.prog (T_laws_heldStringS nf) := by exact ⟨o_laws_markText nf, trivial⟩
  refine eF_ok fun t x h => ?_
  obtain ⟨a, k, _⟩ := t
  exact runF_ok (N := 22) ih Try.func84 (by kernel_rfl) rfl h
def c45_laws_heldTypeS : C := .sq (.rg [.mv 39 (.t 1), .mv 4 (.t 39)]) .rt
def c7_laws_heldTypeS : C := .sq (.sq (.rg [.mv 6 (.t 5), .mv 7 (.t 0), .ln 8 false (.t 7), .bi 9 .lss (.t 6) (.t 8)]) (.cd (.t 9) .skip (.ex 0))) (.sq (.bk 1 (.sq (.sq (.rg [.mv 12 (.t 0), .mv 13 (.t 5), .ia 14 (.t 12) (.t 13) (kR 0), .fa 15 (.t 14) 0 0 0, .ld 16 (.t 15) kI, .mv 17 (.t 1), .bi 18 .neq (.t 16) (.t 17)]) (.cd (.t 18) (.sq (.rg [.mv 4 (.i (-1))]) .rt) .skip)) (.sq (.rg [.mv 19 (.t 1), .bi 20 .add (.t 19) (.i 1), .mv 1 (.t 20)]) (.sq (.rg [.mv 21 (.t 0), .mv 22 (.t 5), .ia 23 (.t 21) (.t 22) (kR 0), .fa 24 (.t 23) 0 1 1, .ld 25 (.t 24) (kL kS), .mv 26 (.t 1), .cv (some 27) 84 [((.t 25), .v (kL kS)), ((.t 26), .v kI)], .mv 1 (.t 27)]) (.sq (.sq (.rg [.mv 28 (.t 1), .bi 29 .lss (.t 28) (.i 0)]) (.cd (.t 29) (.sq (.rg [.mv 4 (.i (-1))]) .rt) .skip)) (.sq (.rg [.mv 30 (.t 0), .mv 31 (.t 5), .ia 32 (.t 30) (.t 31) (kR 0), .fa 33 (.t 32) 0 2 2, .ld 34 (.t 33) (kL (kR 0)), .mv 35 (.t 1), .cv (some 36) 92 [((.t 34), .v (kL (kR 0))), ((.t 35), .v kI)], .mv 1 (.t 36)]) (.sq (.rg [.mv 37 (.t 1), .bi 38 .lss (.t 37) (.i 0)]) (.cd (.t 38) (.sq (.rg [.mv 4 (.i (-1))]) .rt) .skip)))))))) (.rg [.mv 10 (.t 5), .bi 11 .add (.t 10) (.i 1), .mv 5 (.t 11)]))
def ir_laws_heldTypeS : C := .sq (.rg [.mv 4 (.i 0)]) (.sq (.sq (.rg [.mv 5 (.i 0)]) (.bk 0 (.lk [0, 1, 5] [] c7_laws_heldTypeS))) c45_laws_heldTypeS)
noncomputable def B_laws_heldTypeS (nf : Nat) : XT := [e_laws_heldStringS nf]
noncomputable def G_laws_heldTypeS (nf : Nat) : Nat → XT
  | 0 => []
  | kf + 1 => [eF 92 [.v (kL (kR 0)), .v kI] [.v kI] (fun t => (fun (a : List Ty) (k : Int) => runF (G_laws_heldTypeS nf kf ++ B_laws_heldTypeS nf) nf [.v (kL (kR 0)), .v kI] [.t 4 (.v kI)] ir_laws_heldTypeS (a, k, ())) t.1 t.2.1)]
noncomputable abbrev T_laws_heldTypeS (nf kf : Nat) : XT := G_laws_heldTypeS nf kf ++ B_laws_heldTypeS nf
noncomputable def m_laws_heldTypeS (nf kf : Nat) (a : List Ty) (k : Int) : Option (Int) := runF (T_laws_heldTypeS nf kf) nf [.v (kL (kR 0)), .v kI] [.t 4 (.v kI)] ir_laws_heldTypeS (a, k, ())
noncomputable def X_laws_heldTypeS {R : Type} (nf kf : Nat) : C → Env → (Xt → Env → Option R) → Option R := xc (R := R) (T_laws_heldTypeS nf kf).S nf
noncomputable def l6_laws_heldTypeS (nf kf : Nat) (m6 : Nat) (a : List Ty) (x1_6 : Int) (x5_6 : Int) : Option (Int) := xit [0, 1, 5] [] (X_laws_heldTypeS nf kf c7_laws_heldTypeS) (qB 0 (qS (X_laws_heldTypeS nf kf c45_laws_heldTypeS) (KF [.t 4 (.v kI)]))) m6 ⟨[(0, .v (kL (kR 0)) a), (1, .v kI x1_6), (5, .v kI x5_6)], []⟩
theorem l6_laws_heldTypeS_eq (nf kf : Nat) (m6 : Nat) (a : List Ty) (x1_6 : Int) (x5_6 : Int) : l6_laws_heldTypeS nf (kf + 1) (m6 + 1) a x1_6 x5_6 = (
  br (decide (x5_6 < (List.length a : Int))) (
    gg (0 ≤ x5_6 ∧ x5_6 < (List.length a : Int)) <|
      br (!(((gt a x5_6 Ty.zero).kind) == x1_6)) (
        some (-1 : Int)) (
        gg (0 ≤ x5_6 ∧ x5_6 < (List.length a : Int)) <|
          cb (m_laws_heldStringS nf ((gt a x5_6 Ty.zero).labels) (w64 (x1_6 + (1 : Int)))) fun r27 =>
            br (decide (r27 < (0 : Int))) (
              some (-1 : Int)) (
              gg (0 ≤ x5_6 ∧ x5_6 < (List.length a : Int)) <|
                cb (m_laws_heldTypeS nf kf ((gt a x5_6 Ty.zero).args) r27) fun r36 =>
                  br (decide (r36 < (0 : Int))) (
                    some (-1 : Int)) (
                    mark (l6_laws_heldTypeS nf (kf + 1) m6 a r36 (w64 (x5_6 + (1 : Int)))))))) (
    some x1_6)) := by kernel_rfl
theorem m_laws_heldTypeS_eq (nf kf : Nat) (a : List Ty) (k : Int) : m_laws_heldTypeS nf (kf + 1) a k = (
  mark (l6_laws_heldTypeS nf (kf + 1) nf a k (0 : Int))) := by kernel_rfl
noncomputable def e_laws_heldTypeS (nf : Nat) : XE := eF 92 [.v (kL (kR 0)), .v kI] [.v kI] (fun t => m_laws_heldTypeS nf nf t.1 t.2.1)
theorem gok_laws_heldTypeS (nf : Nat) : ∀ kf : Nat, XT.ok Try.prog (G_laws_heldTypeS nf kf ++ B_laws_heldTypeS nf)
  | 0 => by exact ⟨o_laws_heldStringS nf, trivial⟩
  | kf + 1 => by
    have ih := gok_laws_heldTypeS nf kf
    refine ⟨?_, (by exact ⟨o_laws_heldStringS nf, trivial⟩)⟩
    · refine eF_ok fun t x h => ?_
      obtain ⟨a, k, _⟩ := t
      exact runF_ok (N := 40) ih Try.func92 (by kernel_rfl) rfl h
theorem o_laws_heldTypeS (nf : Nat) : conOK Try.prog 92 (e_laws_heldTypeS nf).con := by
  have ih := gok_laws_heldTypeS nf nf
  refine eF_ok fun t x h => ?_
  obtain ⟨a, k, _⟩ := t
  exact runF_ok (N := 40) ih Try.func92 (by kernel_rfl) rfl h
def ir_laws_heldType : C := .sq (.rg [.bx 2 (.t 0) (kR 0), .mv 4 (.i 0)]) (.sq (.rg [.fa 5 (.t 2) 0 1 1, .ld 6 (.t 5) (kL kS), .mv 7 (.t 1), .cv (some 8) 84 [((.t 6), .v (kL kS)), ((.t 7), .v kI)], .mv 1 (.t 8)]) (.sq (.sq (.rg [.mv 9 (.t 1), .bi 10 .lss (.t 9) (.i 0)]) (.cd (.t 10) (.sq (.rg [.mv 4 (.i (-1))]) .rt) .skip)) (.sq (.rg [.fa 11 (.t 2) 0 2 2, .ld 12 (.t 11) (kL (kR 0)), .mv 13 (.t 1), .cv (some 14) 92 [((.t 12), .v (kL (kR 0))), ((.t 13), .v kI)], .mv 1 (.t 14)]) (.sq (.sq (.rg [.mv 15 (.t 1), .bi 16 .lss (.t 15) (.i 0)]) (.cd (.t 16) (.sq (.rg [.mv 4 (.i (-1))]) .rt) .skip)) (.sq (.rg [.mv 17 (.t 1), .mv 4 (.t 17)]) .rt)))))
noncomputable abbrev T_laws_heldType (nf : Nat) : XT := [e_laws_heldStringS nf, e_laws_heldTypeS nf]
noncomputable def m_laws_heldType (nf : Nat) (a : Ty) (k : Int) : Option (Int) := runF (T_laws_heldType nf) nf [.v (kR 0), .v kI] [.t 4 (.v kI)] ir_laws_heldType (a, k, ())
theorem m_laws_heldType_eq (nf : Nat) (a : Ty) (k : Int) : m_laws_heldType nf a k = (
  cb (m_laws_heldStringS nf a.labels k) fun r8 =>
    br (decide (r8 < (0 : Int))) (
      some (-1 : Int)) (
      cb (m_laws_heldTypeS nf nf a.args r8) fun r14 =>
        br (decide (r14 < (0 : Int))) (
          some (-1 : Int)) (
          some r14))) := by kernel_rfl
noncomputable def e_laws_heldType (nf : Nat) : XE := eF 44 [.v (kR 0), .v kI] [.v kI] (fun t => m_laws_heldType nf t.1 t.2.1)
theorem o_laws_heldType (nf : Nat) : conOK Try.prog 44 (e_laws_heldType nf).con := by
  have ih : XT.ok Try.prog (T_laws_heldType nf) := by exact ⟨o_laws_heldStringS nf, o_laws_heldTypeS nf, trivial⟩
  refine eF_ok fun t x h => ?_
  obtain ⟨a, k, _⟩ := t
  exact runF_ok (N := 18) ih Try.func44 (by kernel_rfl) rfl h
end Go.Q
