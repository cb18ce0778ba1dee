import Derived.Test.YtjogpopbgmjlbaaGreatInC
import Derived.Test.YtjogpopbgmjlbaaGreatQe
import Derived.Test.YtjogpopbgmjlbaaGreatProg
import Derived.KernelRfl
set_option linter.unusedVariables false
set_option linter.unusedSimpArgs false
namespace Go.Q
open Go.Proofs
set_option linter.unusedVariables false
set_option maxRecDepth 20000
set_option maxHeartbeats 4000000
def c35_laws_szStringS : C := .sq (.rg [.mv 27 (.t 1), .mv 4 (.t 27)]) .rt
def c17_laws_szStringS : C := .sq (.sq (.rg [.mv 12 (.t 5), .mv 13 (.t 0), .ln 14 false (.t 13), .bi 15 .lss (.t 12) (.t 14)]) (.cd (.t 15) .skip (.ex 0))) (.sq (.bk 1 (.sq (.rg [.mv 18 (.t 1), .mv 19 (.t 0), .mv 20 (.t 5), .ia 21 (.t 19) (.t 20) kS, .ld 22 (.t 21) kS, .ln 23 true (.t 22), .bi 24 .sub (.t 18) (.t 23), .mv 1 (.t 24)]) (.sq (.rg [.mv 25 (.t 1), .bi 26 .lss (.t 25) (.i 0)]) (.cd (.t 26) (.sq (.rg [.mv 4 (.i (-1))]) .rt) .skip)))) (.rg [.mv 16 (.t 5), .bi 17 .add (.t 16) (.i 1), .mv 5 (.t 17)]))
def ir_laws_szStringS : C := .sq (.rg [.mv 4 (.i 0)]) (.sq (.rg [.mv 6 (.t 1), .mv 7 (.t 0), .ln 8 false (.t 7), .bi 9 .sub (.t 6) (.t 8), .mv 1 (.t 9)]) (.sq (.sq (.rg [.mv 10 (.t 1), .bi 11 .lss (.t 10) (.i 0)]) (.cd (.t 11) (.sq (.rg [.mv 4 (.i (-1))]) .rt) .skip)) (.sq (.sq (.rg [.mv 5 (.i 0)]) (.bk 0 (.lk [0, 1, 5] [] c17_laws_szStringS))) c35_laws_szStringS)))
noncomputable abbrev T_laws_szStringS (nf : Nat) : XT := []
noncomputable def m_laws_szStringS (nf : Nat) (a : List Str) (left : Int) : Option (Int) := runF (T_laws_szStringS nf) nf [.v (kL kS), .v kI] [.t 4 (.v kI)] ir_laws_szStringS (a, left, ())
noncomputable def X_laws_szStringS {R : Type} (nf : Nat) : C → Env → (Xt → Env → Option R) → Option R := xc (R := R) (T_laws_szStringS nf).S nf
noncomputable def l16_laws_szStringS (nf : Nat) (m16 : Nat) (a : List Str) (x1_16 : Int) (x5_16 : Int) : Option (Int) := xit [0, 1, 5] [] (X_laws_szStringS nf c17_laws_szStringS) (qB 0 (qS (X_laws_szStringS nf c35_laws_szStringS) (KF [.t 4 (.v kI)]))) m16 ⟨[(0, .v (kL kS) a), (1, .v kI x1_16), (5, .v kI x5_16)], []⟩
theorem l16_laws_szStringS_eq (nf : Nat) (m16 : Nat) (a : List Str) (x1_16 : Int) (x5_16 : Int) : l16_laws_szStringS nf (m16 + 1) a x1_16 x5_16 = (
  br (decide (x5_16 < (List.length a : Int))) (
    gg (0 ≤ x5_16 ∧ x5_16 < (List.length a : Int)) <|
      br (decide ((w64 (x1_16 - (List.length (gt a x5_16 ([] : Str)) : Int))) < (0 : Int))) (
        some (-1 : Int)) (
        mark (l16_laws_szStringS nf m16 a (w64 (x1_16 - (List.length (gt a x5_16 ([] : Str)) : Int))) (w64 (x5_16 + (1 : Int)))))) (
    some x1_16)) := by kernel_rfl
theorem m_laws_szStringS_eq (nf : Nat) (a : List Str) (left : Int) : m_laws_szStringS nf a left = (
  br (decide ((w64 (left - (List.length a : Int))) < (0 : Int))) (
    some (-1 : Int)) (
    mark (l16_laws_szStringS nf nf a (w64 (left - (List.length a : Int))) (0 : Int)))) := by kernel_rfl
noncomputable def e_laws_szStringS (nf : Nat) : XE := eF 29 [.v (kL kS), .v kI] [.v kI] (fun t => m_laws_szStringS nf t.1 t.2.1)
theorem o_laws_szStringS (nf : Nat) : conOK Tryz.prog 29 (e_laws_szStringS nf).con := by
  have ih : XT.ok Tryz.prog (T_laws_szStringS nf) := by exact trivial
  refine eF_ok fun t x h => ?_
  obtain ⟨a, left, _⟩ := t
  exact runF_ok (N := 28) ih Tryz.func29 (by kernel_rfl) rfl h
def c35_laws_szTypeS : C := .sq (.rg [.mv 26 (.t 1), .mv 4 (.t 26)]) .rt
def c17_laws_szTypeS : C := .sq (.sq (.rg [.mv 12 (.t 5), .mv 13 (.t 0), .ln 14 false (.t 13), .bi 15 .lss (.t 12) (.t 14)]) (.cd (.t 15) .skip (.ex 0))) (.sq (.bk 1 (.sq (.rg [.mv 18 (.t 0), .mv 19 (.t 5), .ia 20 (.t 18) (.t 19) (kR 0), .ld 21 (.t 20) (kR 0), .mv 22 (.t 1), .cv (some 23) 28 [((.t 21), .v (kR 0)), ((.t 22), .v kI)], .mv 1 (.t 23)]) (.sq (.rg [.mv 24 (.t 1), .bi 25 .lss (.t 24) (.i 0)]) (.cd (.t 25) (.sq (.rg [.mv 4 (.i (-1))]) .rt) .skip)))) (.rg [.mv 16 (.t 5), .bi 17 .add (.t 16) (.i 1), .mv 5 (.t 17)]))
def ir_laws_szTypeS : C := .sq (.rg [.mv 4 (.i 0)]) (.sq (.rg [.mv 6 (.t 1), .mv 7 (.t 0), .ln 8 false (.t 7), .bi 9 .sub (.t 6) (.t 8), .mv 1 (.t 9)]) (.sq (.sq (.rg [.mv 10 (.t 1), .bi 11 .lss (.t 10) (.i 0)]) (.cd (.t 11) (.sq (.rg [.mv 4 (.i (-1))]) .rt) .skip)) (.sq (.sq (.rg [.mv 5 (.i 0)]) (.bk 0 (.lk [0, 1, 5] [] c17_laws_szTypeS))) c35_laws_szTypeS)))
def ir_laws_szType : C := .sq (.rg [.bx 2 (.t 0) (kR 0), .mv 4 (.i 0)]) (.sq (.rg [.fa 5 (.t 2) 0 1 1, .ld 6 (.t 5) (kL kS), .mv 7 (.t 1), .cv (some 8) 29 [((.t 6), .v (kL kS)), ((.t 7), .v kI)], .mv 1 (.t 8)]) (.sq (.sq (.rg [.mv 9 (.t 1), .bi 10 .lss (.t 9) (.i 0)]) (.cd (.t 10) (.sq (.rg [.mv 4 (.i (-1))]) .rt) .skip)) (.sq (.rg [.fa 11 (.t 2) 0 2 2, .ld 12 (.t 11) (kL (kR 0)), .mv 13 (.t 1), .cv (some 14) 63 [((.t 12), .v (kL (kR 0))), ((.t 13), .v kI)], .mv 1 (.t 14)]) (.sq (.sq (.rg [.mv 15 (.t 1), .bi 16 .lss (.t 15) (.i 0)]) (.cd (.t 16) (.sq (.rg [.mv 4 (.i (-1))]) .rt) .skip)) (.sq (.rg [.mv 17 (.t 1), .mv 4 (.t 17)]) .rt)))))
noncomputable def B_laws_szTypeS (nf : Nat) : XT := [e_laws_szStringS nf]
noncomputable def G_laws_szTypeS (nf : Nat) : Nat → XT
  | 0 => []
  | kf + 1 => [eF 63 [.v (kL (kR 0)), .v kI] [.v kI] (fun t => (fun (a : List Ty) (left : Int) => runF (G_laws_szTypeS nf kf ++ B_laws_szTypeS nf) nf [.v (kL (kR 0)), .v kI] [.t 4 (.v kI)] ir_laws_szTypeS (a, left, ())) t.1 t.2.1),
    eF 28 [.v (kR 0), .v kI] [.v kI] (fun t => (fun (a : Ty) (left : Int) => runF (G_laws_szTypeS nf kf ++ B_laws_szTypeS nf) nf [.v (kR 0), .v kI] [.t 4 (.v kI)] ir_laws_szType (a, left, ())) t.1 t.2.1)]
noncomputable abbrev T_laws_szTypeS (nf kf : Nat) : XT := G_laws_szTypeS nf kf ++ B_laws_szTypeS nf
noncomputable abbrev T_laws_szType (nf kf : Nat) : XT := G_laws_szTypeS nf kf ++ B_laws_szTypeS nf
noncomputable def m_laws_szTypeS (nf kf : Nat) (a : List Ty) (left : Int) : Option (Int) := runF (T_laws_szTypeS nf kf) nf [.v (kL (kR 0)), .v kI] [.t 4 (.v kI)] ir_laws_szTypeS (a, left, ())
noncomputable def X_laws_szTypeS {R : Type} (nf kf : Nat) : C → Env → (Xt → Env → Option R) → Option R := xc (R := R) (T_laws_szTypeS nf kf).S nf
noncomputable def m_laws_szType (nf kf : Nat) (a : Ty) (left : Int) : Option (Int) := runF (T_laws_szType nf kf) nf [.v (kR 0), .v kI] [.t 4 (.v kI)] ir_laws_szType (a, left, ())
noncomputable def l16_laws_szTypeS (nf kf : Nat) (m16 : Nat) (a : List Ty) (x1_16 : Int) (x5_16 : Int) : Option (Int) := xit [0, 1, 5] [] (X_laws_szTypeS nf kf c17_laws_szTypeS) (qB 0 (qS (X_laws_szTypeS nf kf c35_laws_szTypeS) (KF [.t 4 (.v kI)]))) m16 ⟨[(0, .v (kL (kR 0)) a), (1, .v kI x1_16), (5, .v kI x5_16)], []⟩
theorem l16_laws_szTypeS_eq (nf kf : Nat) (m16 : Nat) (a : List Ty) (x1_16 : Int) (x5_16 : Int) : l16_laws_szTypeS nf (kf + 1) (m16 + 1) a x1_16 x5_16 = (
  br (decide (x5_16 < (List.length a : Int))) (
    gg (0 ≤ x5_16 ∧ x5_16 < (List.length a : Int)) <|
      cb (m_laws_szType nf kf (gt a x5_16 Ty.zero) x1_16) fun r23 =>
        br (decide (r23 < (0 : Int))) (
          some (-1 : Int)) (
          mark (l16_laws_szTypeS nf (kf + 1) m16 a r23 (w64 (x5_16 + (1 : Int)))))) (
    some x1_16)) := by kernel_rfl
theorem m_laws_szTypeS_eq (nf kf : Nat) (a : List Ty) (left : Int) : m_laws_szTypeS nf (kf + 1) a left = (
  br (decide ((w64 (left - (List.length a : Int))) < (0 : Int))) (
    some (-1 : Int)) (
    mark (l16_laws_szTypeS nf (kf + 1) nf a (w64 (left - (List.length a : Int))) (0 : Int)))) := by kernel_rfl
theorem m_laws_szType_eq (nf kf : Nat) (a : Ty) (left : Int) : m_laws_szType nf (kf + 1) a left = (
  cb (m_laws_szStringS nf a.labels left) fun r8 =>
    br (decide (r8 < (0 : Int))) (
      some (-1 : Int)) (
      cb (m_laws_szTypeS nf kf a.args r8) fun r14 =>
        br (decide (r14 < (0 : Int))) (
          some (-1 : Int)) (
          some r14))) := by kernel_rfl
noncomputable def e_laws_szType (nf : Nat) : XE := eF 28 [.v (kR 0), .v kI] [.v kI] (fun t => m_laws_szType nf nf t.1 t.2.1)
theorem gok_laws_szTypeS (nf : Nat) : ∀ kf : Nat, XT.ok Tryz.prog (G_laws_szTypeS nf kf ++ B_laws_szTypeS nf)
  | 0 => by exact ⟨o_laws_szStringS nf, trivial⟩
  | kf + 1 => by
    have ih := gok_laws_szTypeS nf kf
    refine ⟨?_, ?_, (by exact ⟨o_laws_szStringS nf, trivial⟩)⟩
    · refine eF_ok fun t x h => ?_
      obtain ⟨a, left, _⟩ := t
      exact runF_ok (N := 27) ih Tryz.func63 (by kernel_rfl) rfl h
    · refine eF_ok fun t x h => ?_
      obtain ⟨a, left, _⟩ := t
      exact runF_ok (N := 18) ih Tryz.func28 (by kernel_rfl) rfl h
theorem o_laws_szType (nf : Nat) : conOK Tryz.prog 28 (e_laws_szType nf).con := by
  have ih := gok_laws_szTypeS nf nf
  refine eF_ok fun t x h => ?_
  obtain ⟨a, left, _⟩ := t
  exact runF_ok (N := 18) ih Tryz.func28 (by kernel_rfl) rfl h
def ir_laws_szTableDecl : C := .sq (.rg [.bx 2 (.t 0) (kR 4), .mv 4 (.i 0)]) (.sq (.rg [.mv 5 (.t 1), .fa 6 (.t 2) 4 0 0, .ld 7 (.t 6) kS, .ln 8 true (.t 7), .bi 9 .sub (.t 5) (.t 8), .mv 1 (.t 9)]) (.sq (.sq (.rg [.mv 10 (.t 1), .bi 11 .lss (.t 10) (.i 0)]) (.cd (.t 11) (.sq (.rg [.mv 4 (.i (-1))]) .rt) .skip)) (.sq (.rg [.fa 12 (.t 2) 4 1 1, .ld 13 (.t 12) (kR 0), .mv 14 (.t 1), .cv (some 15) 28 [((.t 13), .v (kR 0)), ((.t 14), .v kI)], .mv 1 (.t 15)]) (.sq (.sq (.rg [.mv 16 (.t 1), .bi 17 .lss (.t 16) (.i 0)]) (.cd (.t 17) (.sq (.rg [.mv 4 (.i (-1))]) .rt) .skip)) (.sq (.rg [.mv 18 (.t 1), .mv 4 (.t 18)]) .rt)))))
noncomputable abbrev T_laws_szTableDecl (nf : Nat) : XT := [e_laws_szType nf]
noncomputable def m_laws_szTableDecl (nf : Nat) (a : TDecl) (left : Int) : Option (Int) := runF (T_laws_szTableDecl nf) nf [.v (kR 4), .v kI] [.t 4 (.v kI)] ir_laws_szTableDecl (a, left, ())
theorem m_laws_szTableDecl_eq (nf : Nat) (a : TDecl) (left : Int) : m_laws_szTableDecl nf a left = (
  br (decide ((w64 (left - (List.length a.name : Int))) < (0 : Int))) (
    some (-1 : Int)) (
    cb (m_laws_szType nf nf (Ty.h a.row) (w64 (left - (List.length a.name : Int)))) fun r15 =>
      br (decide (r15 < (0 : Int))) (
        some (-1 : Int)) (
        some r15))) := by kernel_rfl
noncomputable def e_laws_szTableDecl (nf : Nat) : XE := eF 62 [.v (kR 4), .v kI] [.v kI] (fun t => m_laws_szTableDecl nf t.1 t.2.1)
theorem o_laws_szTableDecl (nf : Nat) : conOK Tryz.prog 62 (e_laws_szTableDecl nf).con := by
  have ih : XT.ok Tryz.prog (T_laws_szTableDecl nf) := by exact ⟨o_laws_szType nf, trivial⟩
  refine eF_ok fun t x h => ?_
  obtain ⟨a, left, _⟩ := t
  exact runF_ok (N := 19) ih Tryz.func62 (by kernel_rfl) rfl h
def c35_laws_szTableDeclS : C := .sq (.rg [.mv 26 (.t 1), .mv 4 (.t 26)]) .rt
def c17_laws_szTableDeclS : C := .sq (.sq (.rg [.mv 12 (.t 5), .mv 13 (.t 0), .ln 14 false (.t 13), .bi 15 .lss (.t 12) (.t 14)]) (.cd (.t 15) .skip (.ex 0))) (.sq (.bk 1 (.sq (.rg [.mv 18 (.t 0), .mv 19 (.t 5), .ia 20 (.t 18) (.t 19) (kR 4), .ld 21 (.t 20) (kR 4), .mv 22 (.t 1), .cv (some 23) 62 [((.t 21), .v (kR 4)), ((.t 22), .v kI)], .mv 1 (.t 23)]) (.sq (.rg [.mv 24 (.t 1), .bi 25 .lss (.t 24) (.i 0)]) (.cd (.t 25) (.sq (.rg [.mv 4 (.i (-1))]) .rt) .skip)))) (.rg [.mv 16 (.t 5), .bi 17 .add (.t 16) (.i 1), .mv 5 (.t 17)]))
def ir_laws_szTableDeclS : C := .sq (.rg [.mv 4 (.i 0)]) (.sq (.rg [.mv 6 (.t 1), .mv 7 (.t 0), .ln 8 false (.t 7), .bi 9 .sub (.t 6) (.t 8), .mv 1 (.t 9)]) (.sq (.sq (.rg [.mv 10 (.t 1), .bi 11 .lss (.t 10) (.i 0)]) (.cd (.t 11) (.sq (.rg [.mv 4 (.i (-1))]) .rt) .skip)) (.sq (.sq (.rg [.mv 5 (.i 0)]) (.bk 0 (.lk [0, 1, 5] [] c17_laws_szTableDeclS))) c35_laws_szTableDeclS)))
noncomputable abbrev T_laws_szTableDeclS (nf : Nat) : XT := [e_laws_szTableDecl nf]
noncomputable def m_laws_szTableDeclS (nf : Nat) (a : List TDecl) (left : Int) : Option (Int) := runF (T_laws_szTableDeclS nf) nf [.v (kL (kR 4)), .v kI] [.t 4 (.v kI)] ir_laws_szTableDeclS (a, left, ())
noncomputable def X_laws_szTableDeclS {R : Type} (nf : Nat) : C → Env → (Xt → Env → Option R) → Option R := xc (R := R) (T_laws_szTableDeclS nf).S nf
noncomputable def l16_laws_szTableDeclS (nf : Nat) (m16 : Nat) (a : List TDecl) (x1_16 : Int) (x5_16 : Int) : Option (Int) := xit [0, 1, 5] [] (X_laws_szTableDeclS nf c17_laws_szTableDeclS) (qB 0 (qS (X_laws_szTableDeclS nf c35_laws_szTableDeclS) (KF [.t 4 (.v kI)]))) m16 ⟨[(0, .v (kL (kR 4)) a), (1, .v kI x1_16), (5, .v kI x5_16)], []⟩
theorem l16_laws_szTableDeclS_eq (nf : Nat) (m16 : Nat) (a : List TDecl) (x1_16 : Int) (x5_16 : Int) : l16_laws_szTableDeclS nf (m16 + 1) a x1_16 x5_16 = (
  br (decide (x5_16 < (List.length a : Int))) (
    gg (0 ≤ x5_16 ∧ x5_16 < (List.length a : Int)) <|
      cb (m_laws_szTableDecl nf (gt a x5_16 TDecl.zero) x1_16) fun r23 =>
        br (decide (r23 < (0 : Int))) (
          some (-1 : Int)) (
          mark (l16_laws_szTableDeclS nf m16 a r23 (w64 (x5_16 + (1 : Int)))))) (
    some x1_16)) := by kernel_rfl
theorem m_laws_szTableDeclS_eq (nf : Nat) (a : List TDecl) (left : Int) : m_laws_szTableDeclS nf a left = (
  br (decide ((w64 (left - (List.length a : Int))) < (0 : Int))) (
    some (-1 : Int)) (
    mark (l16_laws_szTableDeclS nf nf a (w64 (left - (List.length a : Int))) (0 : Int)))) := by kernel_rfl
noncomputable def e_laws_szTableDeclS (nf : Nat) : XE := eF 27 [.v (kL (kR 4)), .v kI] [.v kI] (fun t => m_laws_szTableDeclS nf t.1 t.2.1)
theorem o_laws_szTableDeclS (nf : Nat) : conOK Tryz.prog 27 (e_laws_szTableDeclS nf).con := by
  have ih : XT.ok Tryz.prog (T_laws_szTableDeclS nf) := by exact ⟨o_laws_szTableDecl nf, trivial⟩
  refine eF_ok fun t x h => ?_
  obtain ⟨a, left, _⟩ := t
  exact runF_ok (N := 27) ih Tryz.func27 (by kernel_rfl) rfl h
def ir_laws_szSchema : C := .sq (.rg [.bx 2 (.t 0) (kR 5), .mv 4 (.i 0)]) (.sq (.rg [.fa 5 (.t 2) 5 0 0, .ld 6 (.t 5) (kL (kR 4)), .mv 7 (.t 1), .cv (some 8) 27 [((.t 6), .v (kL (kR 4))), ((.t 7), .v kI)], .mv 1 (.t 8)]) (.sq (.sq (.rg [.mv 9 (.t 1), .bi 10 .lss (.t 9) (.i 0)]) (.cd (.t 10) (.sq (.rg [.mv 4 (.i (-1))]) .rt) .skip)) (.sq (.rg [.mv 11 (.t 1), .mv 4 (.t 11)]) .rt)))
noncomputable abbrev T_laws_szSchema (nf : Nat) : XT := [e_laws_szTableDeclS nf]
noncomputable def m_laws_szSchema (nf : Nat) (a : Schema) (left : Int) : Option (Int) := runF (T_laws_szSchema nf) nf [.v (kR 5), .v kI] [.t 4 (.v kI)] ir_laws_szSchema (a, left, ())
theorem m_laws_szSchema_eq (nf : Nat) (a : Schema) (left : Int) : m_laws_szSchema nf a left = (
  cb (m_laws_szTableDeclS nf a.tables left) fun r8 =>
    br (decide (r8 < (0 : Int))) (
      some (-1 : Int)) (
      some r8)) := by kernel_rfl
noncomputable def e_laws_szSchema (nf : Nat) : XE := eF 6 [.v (kR 5), .v kI] [.v kI] (fun t => m_laws_szSchema nf t.1 t.2.1)
theorem o_laws_szSchema (nf : Nat) : conOK Tryz.prog 6 (e_laws_szSchema nf).con := by
  have ih : XT.ok Tryz.prog (T_laws_szSchema nf) := by exact ⟨o_laws_szTableDeclS nf, trivial⟩
  refine eF_ok fun t x h => ?_
  obtain ⟨a, left, _⟩ := t
  exact runF_ok (N := 12) ih Tryz.func6 (by kernel_rfl) rfl h
def c35_laws_szTermS : C := .sq (.rg [.mv 26 (.t 1), .mv 4 (.t 26)]) .rt
def c17_laws_szTermS : C := .sq (.sq (.rg [.mv 12 (.t 5), .mv 13 (.t 0), .ln 14 false (.t 13), .bi 15 .lss (.t 12) (.t 14)]) (.cd (.t 15) .skip (.ex 0))) (.sq (.bk 1 (.sq (.rg [.mv 18 (.t 0), .mv 19 (.t 5), .ia 20 (.t 18) (.t 19) (kR 2), .ld 21 (.t 20) (kR 2), .mv 22 (.t 1), .cv (some 23) 7 [((.t 21), .v (kR 2)), ((.t 22), .v kI)], .mv 1 (.t 23)]) (.sq (.rg [.mv 24 (.t 1), .bi 25 .lss (.t 24) (.i 0)]) (.cd (.t 25) (.sq (.rg [.mv 4 (.i (-1))]) .rt) .skip)))) (.rg [.mv 16 (.t 5), .bi 17 .add (.t 16) (.i 1), .mv 5 (.t 17)]))
def ir_laws_szTermS : C := .sq (.rg [.mv 4 (.i 0)]) (.sq (.rg [.mv 6 (.t 1), .mv 7 (.t 0), .ln 8 false (.t 7), .bi 9 .sub (.t 6) (.t 8), .mv 1 (.t 9)]) (.sq (.sq (.rg [.mv 10 (.t 1), .bi 11 .lss (.t 10) (.i 0)]) (.cd (.t 11) (.sq (.rg [.mv 4 (.i (-1))]) .rt) .skip)) (.sq (.sq (.rg [.mv 5 (.i 0)]) (.bk 0 (.lk [0, 1, 5] [] c17_laws_szTermS))) c35_laws_szTermS)))
def ir_laws_szTerm : C := .sq (.rg [.bx 2 (.t 0) (kR 2), .mv 4 (.i 0)]) (.sq (.rg [.mv 5 (.t 1), .fa 6 (.t 2) 2 1 1, .ld 7 (.t 6) kS, .ln 8 true (.t 7), .bi 9 .sub (.t 5) (.t 8), .mv 1 (.t 9)]) (.sq (.sq (.rg [.mv 10 (.t 1), .bi 11 .lss (.t 10) (.i 0)]) (.cd (.t 11) (.sq (.rg [.mv 4 (.i (-1))]) .rt) .skip)) (.sq (.rg [.fa 12 (.t 2) 2 3 3, .ld 13 (.t 12) (kR 0), .mv 14 (.t 1), .cv (some 15) 28 [((.t 13), .v (kR 0)), ((.t 14), .v kI)], .mv 1 (.t 15)]) (.sq (.sq (.rg [.mv 16 (.t 1), .bi 17 .lss (.t 16) (.i 0)]) (.cd (.t 17) (.sq (.rg [.mv 4 (.i (-1))]) .rt) .skip)) (.sq (.rg [.fa 18 (.t 2) 2 4 6, .ld 19 (.t 18) (kL kS), .mv 20 (.t 1), .cv (some 21) 29 [((.t 19), .v (kL kS)), ((.t 20), .v kI)], .mv 1 (.t 21)]) (.sq (.sq (.rg [.mv 22 (.t 1), .bi 23 .lss (.t 22) (.i 0)]) (.cd (.t 23) (.sq (.rg [.mv 4 (.i (-1))]) .rt) .skip)) (.sq (.rg [.fa 24 (.t 2) 2 5 7, .ld 25 (.t 24) (kL (kR 2)), .mv 26 (.t 1), .cv (some 27) 30 [((.t 25), .v (kL (kR 2))), ((.t 26), .v kI)], .mv 1 (.t 27)]) (.sq (.sq (.rg [.mv 28 (.t 1), .bi 29 .lss (.t 28) (.i 0)]) (.cd (.t 29) (.sq (.rg [.mv 4 (.i (-1))]) .rt) .skip)) (.sq (.rg [.mv 30 (.t 1), .mv 4 (.t 30)]) .rt)))))))))
noncomputable def B_laws_szTermS (nf : Nat) : XT := [e_laws_szType nf, e_laws_szStringS nf]
noncomputable def G_laws_szTermS (nf : Nat) : Nat → XT
  | 0 => []
  | kf + 1 => [eF 30 [.v (kL (kR 2)), .v kI] [.v kI] (fun t => (fun (a : List Tm) (left : Int) => runF (G_laws_szTermS nf kf ++ B_laws_szTermS nf) nf [.v (kL (kR 2)), .v kI] [.t 4 (.v kI)] ir_laws_szTermS (a, left, ())) t.1 t.2.1),
    eF 7 [.v (kR 2), .v kI] [.v kI] (fun t => (fun (a : Tm) (left : Int) => runF (G_laws_szTermS nf kf ++ B_laws_szTermS nf) nf [.v (kR 2), .v kI] [.t 4 (.v kI)] ir_laws_szTerm (a, left, ())) t.1 t.2.1)]
noncomputable abbrev T_laws_szTermS (nf kf : Nat) : XT := G_laws_szTermS nf kf ++ B_laws_szTermS nf
noncomputable abbrev T_laws_szTerm (nf kf : Nat) : XT := G_laws_szTermS nf kf ++ B_laws_szTermS nf
noncomputable def m_laws_szTermS (nf kf : Nat) (a : List Tm) (left : Int) : Option (Int) := runF (T_laws_szTermS nf kf) nf [.v (kL (kR 2)), .v kI] [.t 4 (.v kI)] ir_laws_szTermS (a, left, ())
noncomputable def X_laws_szTermS {R : Type} (nf kf : Nat) : C → Env → (Xt → Env → Option R) → Option R := xc (R := R) (T_laws_szTermS nf kf).S nf
noncomputable def m_laws_szTerm (nf kf : Nat) (a : Tm) (left : Int) : Option (Int) := runF (T_laws_szTerm nf kf) nf [.v (kR 2), .v kI] [.t 4 (.v kI)] ir_laws_szTerm (a, left, ())
noncomputable def l16_laws_szTermS (nf kf : Nat) (m16 : Nat) (a : List Tm) (x1_16 : Int) (x5_16 : Int) : Option (Int) := xit [0, 1, 5] [] (X_laws_szTermS nf kf c17_laws_szTermS) (qB 0 (qS (X_laws_szTermS nf kf c35_laws_szTermS) (KF [.t 4 (.v kI)]))) m16 ⟨[(0, .v (kL (kR 2)) a), (1, .v kI x1_16), (5, .v kI x5_16)], []⟩
theorem l16_laws_szTermS_eq (nf kf : Nat) (m16 : Nat) (a : List Tm) (x1_16 : Int) (x5_16 : Int) : l16_laws_szTermS nf (kf + 1) (m16 + 1) a x1_16 x5_16 = (
  br (decide (x5_16 < (List.length a : Int))) (
    gg (0 ≤ x5_16 ∧ x5_16 < (List.length a : Int)) <|
      cb (m_laws_szTerm nf kf (gt a x5_16 Tm.zero) x1_16) fun r23 =>
        br (decide (r23 < (0 : Int))) (
          some (-1 : Int)) (
          mark (l16_laws_szTermS nf (kf + 1) m16 a r23 (w64 (x5_16 + (1 : Int)))))) (
    some x1_16)) := by kernel_rfl
theorem m_laws_szTermS_eq (nf kf : Nat) (a : List Tm) (left : Int) : m_laws_szTermS nf (kf + 1) a left = (
  br (decide ((w64 (left - (List.length a : Int))) < (0 : Int))) (
    some (-1 : Int)) (
    mark (l16_laws_szTermS nf (kf + 1) nf a (w64 (left - (List.length a : Int))) (0 : Int)))) := by kernel_rfl
theorem m_laws_szTerm_eq (nf kf : Nat) (a : Tm) (left : Int) : m_laws_szTerm nf (kf + 1) a left = (
  br (decide ((w64 (left - (List.length a.name : Int))) < (0 : Int))) (
    some (-1 : Int)) (
    cb (m_laws_szType nf nf (Ty.h a.type) (w64 (left - (List.length a.name : Int)))) fun r15 =>
      br (decide (r15 < (0 : Int))) (
        some (-1 : Int)) (
        cb (m_laws_szStringS nf a.labels r15) fun r21 =>
          br (decide (r21 < (0 : Int))) (
            some (-1 : Int)) (
            cb (m_laws_szTermS nf kf a.args r21) fun r27 =>
              br (decide (r27 < (0 : Int))) (
                some (-1 : Int)) (
                some r27))))) := by kernel_rfl
noncomputable def e_laws_szTerm (nf : Nat) : XE := eF 7 [.v (kR 2), .v kI] [.v kI] (fun t => m_laws_szTerm nf nf t.1 t.2.1)
theorem gok_laws_szTermS (nf : Nat) : ∀ kf : Nat, XT.ok Tryz.prog (G_laws_szTermS nf kf ++ B_laws_szTermS nf)
  | 0 => by exact ⟨o_laws_szType nf, o_laws_szStringS nf, trivial⟩
  | kf + 1 => by
    have ih := gok_laws_szTermS nf kf
    refine ⟨?_, ?_, (by exact ⟨o_laws_szType nf, o_laws_szStringS nf, trivial⟩)⟩
    · refine eF_ok fun t x h => ?_
      obtain ⟨a, left, _⟩ := t
      exact runF_ok (N := 27) ih Tryz.func30 (by kernel_rfl) rfl h
    · refine eF_ok fun t x h => ?_
      obtain ⟨a, left, _⟩ := t
      exact runF_ok (N := 31) ih Tryz.func7 (by kernel_rfl) rfl h
theorem o_laws_szTerm (nf : Nat) : conOK Tryz.prog 7 (e_laws_szTerm nf).con := by
  have ih := gok_laws_szTermS nf nf
  refine eF_ok fun t x h => ?_
  obtain ⟨a, left, _⟩ := t
  exact runF_ok (N := 31) ih Tryz.func7 (by kernel_rfl) rfl h
def c19_laws_toStringS : C := .sq (.rg [.mv 21 (.t 3), .mv 2 (.t 21)]) .rt
def c9_laws_toStringS : C := .sq (.sq (.rg [.mv 8 (.t 4), .mv 9 (.t 0), .ln 10 false (.t 9), .bi 11 .lss (.t 8) (.t 10)]) (.cd (.t 11) .skip (.ex 0))) (.sq (.bk 1 (.rg [.mv 14 (.t 3), .mv 15 (.t 4), .mv 16 (.t 0), .mv 17 (.t 4), .ia 18 (.t 16) (.t 17) kS, .ld 19 (.t 18) kS, .ia 20 (.t 14) (.t 15) kS, .st (.t 20) (.t 19) kS])) (.rg [.mv 12 (.t 4), .bi 13 .add (.t 12) (.i 1), .mv 4 (.t 13)]))
def ir_laws_toStringS : C := .sq (.rg [.mv 2 (.nl kS)]) (.sq (.rg [.mv 5 (.t 0), .ln 6 false (.t 5), .mk 7 true kS (.t 6), .mv 3 (.t 7)]) (.sq (.sq (.rg [.mv 4 (.i 0)]) (.bk 0 (.lk [0, 3, 4] [[7]] c9_laws_toStringS))) c19_laws_toStringS))
noncomputable abbrev T_laws_toStringS (nf : Nat) : XT := []
noncomputable def m_laws_toStringS (nf : Nat) (a : List Str) : Option (List Str) := runF (T_laws_toStringS nf) nf [.v (kL kS)] [.t 2 (.o (kL kS))] ir_laws_toStringS (a, ())
noncomputable def X_laws_toStringS {R : Type} (nf : Nat) : C → Env → (Xt → Env → Option R) → Option R := xc (R := R) (T_laws_toStringS nf).S nf
noncomputable def l8_laws_toStringS (nf : Nat) (m8 : Nat) (a : List Str) (x4_8 : Int) (y7_8 : List Str) : Option (List Str) := xit [0, 3, 4] [[7]] (X_laws_toStringS nf c9_laws_toStringS) (qB 0 (qS (X_laws_toStringS nf c19_laws_toStringS) (KF [.t 2 (.o (kL kS))]))) m8 ⟨[(0, .v (kL kS) a), (3, .sl [7]), (4, .v kI x4_8)], [([7], .row true false kS y7_8)]⟩
theorem l8_laws_toStringS_eq (nf : Nat) (m8 : Nat) (a : List Str) (x4_8 : Int) (y7_8 : List Str) : l8_laws_toStringS nf (m8 + 1) a x4_8 y7_8 = (
  br (decide (x4_8 < (List.length a : Int))) (
    gg (0 ≤ x4_8 ∧ x4_8 < (List.length a : Int)) <|
      gg (0 ≤ x4_8 ∧ x4_8 < (List.length y7_8 : Int)) <|
        gg (0 ≤ x4_8 ∧ x4_8 < (List.length y7_8 : Int)) <|
          mark (l8_laws_toStringS nf m8 a (w64 (x4_8 + (1 : Int))) (List.set y7_8 (Int.toNat x4_8) (gt a x4_8 ([] : Str))))) (
    some y7_8)) := by kernel_rfl
theorem m_laws_toStringS_eq (nf : Nat) (a : List Str) : m_laws_toStringS nf a = (
  gg (0 ≤ (List.length a : Int) ∧ (List.length a : Int) ≤ 2147483647) <|
    mark (l8_laws_toStringS nf nf a (0 : Int) (List.replicate (Int.toNat (List.length a : Int)) ([] : Str)))) := by kernel_rfl
noncomputable def e_laws_toStringS (nf : Nat) : XE := eF 34 [.v (kL kS)] [.o (kL kS)] (fun t => m_laws_toStringS nf t.1)
theorem o_laws_toStringS (nf : Nat) : conOK Tryz.prog 34 (e_laws_toStringS nf).con := by
  have ih : XT.ok Tryz.prog (T_laws_toStringS nf) := by exact trivial
  refine eF_ok fun t x h => ?_
  obtain ⟨a, _⟩ := t
  exact runF_ok (N := 22) ih Tryz.func34 (by kernel_rfl) rfl h
def c19_laws_toTypeS : C := .sq (.rg [.mv 22 (.t 3), .mv 2 (.t 22)]) .rt
def c9_laws_toTypeS : C := .sq (.sq (.rg [.mv 8 (.t 4), .mv 9 (.t 0), .ln 10 false (.t 9), .bi 11 .lss (.t 8) (.t 10)]) (.cd (.t 11) .skip (.ex 0))) (.sq (.bk 1 (.rg [.mv 14 (.t 3), .mv 15 (.t 4), .mv 16 (.t 0), .mv 17 (.t 4), .ia 18 (.t 16) (.t 17) (kR 0), .ld 19 (.t 18) (kR 0), .ca (some 20) 33 [((.t 19), .v (kR 0))], .ia 21 (.t 14) (.t 15) (kR 0), .st (.t 21) (.t 20) (kR 0)])) (.rg [.mv 12 (.t 4), .bi 13 .add (.t 12) (.i 1), .mv 4 (.t 13)]))
def ir_laws_toTypeS : C := .sq (.rg [.mv 2 (.nl (kR 0))]) (.sq (.rg [.mv 5 (.t 0), .ln 6 false (.t 5), .mk 7 true (kR 0) (.t 6), .mv 3 (.t 7)]) (.sq (.sq (.rg [.mv 4 (.i 0)]) (.bk 0 (.lk [0, 3, 4] [[7]] c9_laws_toTypeS))) c19_laws_toTypeS))
def ir_laws_toType : C := .sq (.rg [.bx 1 (.t 0) (kR 0), .al 2 (kR 0)]) (.sq (.rg [.al 3 (kR 0)]) (.sq (.rg [.fa 4 (.t 1) 0 0 0, .ld 5 (.t 4) kI, .fa 6 (.t 3) 0 0 0, .st (.t 6) (.t 5) kI]) (.sq (.rg [.fa 7 (.t 1) 0 1 1, .ld 8 (.t 7) (kL kS), .ca (some 9) 34 [((.t 8), .v (kL kS))], .fa 10 (.t 3) 0 1 1, .st (.t 10) (.t 9) (kL kS)]) (.sq (.rg [.fa 11 (.t 1) 0 2 2, .ld 12 (.t 11) (kL (kR 0)), .ca (some 13) 67 [((.t 12), .v (kL (kR 0)))], .fa 14 (.t 3) 0 2 2, .st (.t 14) (.t 13) (kL (kR 0))]) (.sq (.rg [.ld 15 (.t 3) (kR 0), .st (.t 2) (.t 15) (kR 0)]) .rt)))))
noncomputable def B_laws_toTypeS (nf : Nat) : XT := [e_laws_toStringS nf]
noncomputable def G_laws_toTypeS (nf : Nat) : Nat → XT
  | 0 => []
  | kf + 1 => [eF 67 [.v (kL (kR 0))] [.o (kL (kR 0))] (fun t => (fun (a : List Ty) => runF (G_laws_toTypeS nf kf ++ B_laws_toTypeS nf) nf [.v (kL (kR 0))] [.t 2 (.o (kL (kR 0)))] ir_laws_toTypeS (a, ())) t.1),
    eF 33 [.v (kR 0)] [.o (kR 0)] (fun t => (fun (a : Ty) => runF (G_laws_toTypeS nf kf ++ B_laws_toTypeS nf) nf [.v (kR 0)] [.c 2 (.o (kR 0))] ir_laws_toType (a, ())) t.1)]
noncomputable abbrev T_laws_toTypeS (nf kf : Nat) : XT := G_laws_toTypeS nf kf ++ B_laws_toTypeS nf
noncomputable abbrev T_laws_toType (nf kf : Nat) : XT := G_laws_toTypeS nf kf ++ B_laws_toTypeS nf
noncomputable def m_laws_toTypeS (nf kf : Nat) (a : List Ty) : Option (List Ty) := runF (T_laws_toTypeS nf kf) nf [.v (kL (kR 0))] [.t 2 (.o (kL (kR 0)))] ir_laws_toTypeS (a, ())
noncomputable def X_laws_toTypeS {R : Type} (nf kf : Nat) : C → Env → (Xt → Env → Option R) → Option R := xc (R := R) (T_laws_toTypeS nf kf).S nf
noncomputable def m_laws_toType (nf kf : Nat) (a : Ty) : Option (Ty) := runF (T_laws_toType nf kf) nf [.v (kR 0)] [.c 2 (.o (kR 0))] ir_laws_toType (a, ())
noncomputable def l8_laws_toTypeS (nf kf : Nat) (m8 : Nat) (a : List Ty) (x4_8 : Int) (y7_8 : List Ty) : Option (List Ty) := xit [0, 3, 4] [[7]] (X_laws_toTypeS nf kf c9_laws_toTypeS) (qB 0 (qS (X_laws_toTypeS nf kf c19_laws_toTypeS) (KF [.t 2 (.o (kL (kR 0)))]))) m8 ⟨[(0, .v (kL (kR 0)) a), (3, .sl [7]), (4, .v kI x4_8)], [([7], .row true false (kR 0) y7_8)]⟩
theorem l8_laws_toTypeS_eq (nf kf : Nat) (m8 : Nat) (a : List Ty) (x4_8 : Int) (y7_8 : List Ty) : l8_laws_toTypeS nf (kf + 1) (m8 + 1) a x4_8 y7_8 = (
  br (decide (x4_8 < (List.length a : Int))) (
    gg (0 ≤ x4_8 ∧ x4_8 < (List.length a : Int)) <|
      cb (m_laws_toType nf kf (gt a x4_8 Ty.zero)) fun r20 =>
        gg (0 ≤ x4_8 ∧ x4_8 < (List.length y7_8 : Int)) <|
          gg (0 ≤ x4_8 ∧ x4_8 < (List.length y7_8 : Int)) <|
            mark (l8_laws_toTypeS nf (kf + 1) m8 a (w64 (x4_8 + (1 : Int))) (List.set y7_8 (Int.toNat x4_8) (Ty.h r20)))) (
    some y7_8)) := by kernel_rfl
theorem m_laws_toTypeS_eq (nf kf : Nat) (a : List Ty) : m_laws_toTypeS nf (kf + 1) a = (
  gg (0 ≤ (List.length a : Int) ∧ (List.length a : Int) ≤ 2147483647) <|
    mark (l8_laws_toTypeS nf (kf + 1) nf a (0 : Int) (List.replicate (Int.toNat (List.length a : Int)) Ty.zero))) := by kernel_rfl
theorem m_laws_toType_eq (nf kf : Nat) (a : Ty) : m_laws_toType nf (kf + 1) a = (
  cb (m_laws_toStringS nf a.labels) fun r9 =>
    cb (m_laws_toTypeS nf kf a.args) fun r13 =>
      some (Ty.mk a.kind r9 r13)) := by kernel_rfl
noncomputable def e_laws_toType (nf : Nat) : XE := eF 33 [.v (kR 0)] [.o (kR 0)] (fun t => m_laws_toType nf nf t.1)
theorem gok_laws_toTypeS (nf : Nat) : ∀ kf : Nat, XT.ok Tryz.prog (G_laws_toTypeS nf kf ++ B_laws_toTypeS nf)
  | 0 => by exact ⟨o_laws_toStringS nf, trivial⟩
  | kf + 1 => by
    have ih := gok_laws_toTypeS nf kf
    refine ⟨?_, ?_, (by exact ⟨o_laws_toStringS nf, trivial⟩)⟩
    · refine eF_ok fun t x h => ?_
      obtain ⟨a, _⟩ := t
      exact runF_ok (N := 23) ih Tryz.func67 (by kernel_rfl) rfl h
    · refine eF_ok fun t x h => ?_
      obtain ⟨a, _⟩ := t
      exact runF_ok (N := 16) ih Tryz.func33 (by kernel_rfl) rfl h
theorem o_laws_toType (nf : Nat) : conOK Tryz.prog 33 (e_laws_toType nf).con := by
  have ih := gok_laws_toTypeS nf nf
  refine eF_ok fun t x h => ?_
  obtain ⟨a, _⟩ := t
  exact runF_ok (N := 16) ih Tryz.func33 (by kernel_rfl) rfl h
def ir_laws_toTableDecl : C := .sq (.rg [.bx 1 (.t 0) (kR 4), .al 2 (kR 4)]) (.sq (.rg [.al 3 (kR 4)]) (.sq (.rg [.fa 4 (.t 1) 4 0 0, .ld 5 (.t 4) kS, .fa 6 (.t 3) 4 0 0, .st (.t 6) (.t 5) kS]) (.sq (.rg [.fa 7 (.t 1) 4 1 1, .ld 8 (.t 7) (kR 0), .ca (some 9) 33 [((.t 8), .v (kR 0))], .fa 10 (.t 3) 4 1 1, .st (.t 10) (.t 9) (kR 0)]) (.sq (.rg [.ld 11 (.t 3) (kR 4), .st (.t 2) (.t 11) (kR 4)]) .rt))))
noncomputable abbrev T_laws_toTableDecl (nf : Nat) : XT := [e_laws_toType nf]
noncomputable def m_laws_toTableDecl (nf : Nat) (a : TDecl) : Option (TDecl) := runF (T_laws_toTableDecl nf) nf [.v (kR 4)] [.c 2 (.o (kR 4))] ir_laws_toTableDecl (a, ())
theorem m_laws_toTableDecl_eq (nf : Nat) (a : TDecl) : m_laws_toTableDecl nf a = (
  cb (m_laws_toType nf nf (Ty.h a.row)) fun r9 =>
    some (TDecl.mk a.name (Ty.h r9))) := by kernel_rfl
noncomputable def e_laws_toTableDecl (nf : Nat) : XE := eF 66 [.v (kR 4)] [.o (kR 4)] (fun t => m_laws_toTableDecl nf t.1)
theorem o_laws_toTableDecl (nf : Nat) : conOK Tryz.prog 66 (e_laws_toTableDecl nf).con := by
  have ih : XT.ok Tryz.prog (T_laws_toTableDecl nf) := by exact ⟨o_laws_toType nf, trivial⟩
  refine eF_ok fun t x h => ?_
  obtain ⟨a, _⟩ := t
  exact runF_ok (N := 12) ih Tryz.func66 (by kernel_rfl) rfl h
def c19_laws_toTableDeclS : C := .sq (.rg [.mv 22 (.t 3), .mv 2 (.t 22)]) .rt
def c9_laws_toTableDeclS : C := .sq (.sq (.rg [.mv 8 (.t 4), .mv 9 (.t 0), .ln 10 false (.t 9), .bi 11 .lss (.t 8) (.t 10)]) (.cd (.t 11) .skip (.ex 0))) (.sq (.bk 1 (.rg [.mv 14 (.t 3), .mv 15 (.t 4), .mv 16 (.t 0), .mv 17 (.t 4), .ia 18 (.t 16) (.t 17) (kR 4), .ld 19 (.t 18) (kR 4), .ca (some 20) 66 [((.t 19), .v (kR 4))], .ia 21 (.t 14) (.t 15) (kR 4), .st (.t 21) (.t 20) (kR 4)])) (.rg [.mv 12 (.t 4), .bi 13 .add (.t 12) (.i 1), .mv 4 (.t 13)]))
def ir_laws_toTableDeclS : C := .sq (.rg [.mv 2 (.nl (kR 4))]) (.sq (.rg [.mv 5 (.t 0), .ln 6 false (.t 5), .mk 7 true (kR 4) (.t 6), .mv 3 (.t 7)]) (.sq (.sq (.rg [.mv 4 (.i 0)]) (.bk 0 (.lk [0, 3, 4] [[7]] c9_laws_toTableDeclS))) c19_laws_toTableDeclS))
noncomputable abbrev T_laws_toTableDeclS (nf : Nat) : XT := [e_laws_toTableDecl nf]
noncomputable def m_laws_toTableDeclS (nf : Nat) (a : List TDecl) : Option (List TDecl) := runF (T_laws_toTableDeclS nf) nf [.v (kL (kR 4))] [.t 2 (.o (kL (kR 4)))] ir_laws_toTableDeclS (a, ())
noncomputable def X_laws_toTableDeclS {R : Type} (nf : Nat) : C → Env → (Xt → Env → Option R) → Option R := xc (R := R) (T_laws_toTableDeclS nf).S nf
noncomputable def l8_laws_toTableDeclS (nf : Nat) (m8 : Nat) (a : List TDecl) (x4_8 : Int) (y7_8 : List TDecl) : Option (List TDecl) := xit [0, 3, 4] [[7]] (X_laws_toTableDeclS nf c9_laws_toTableDeclS) (qB 0 (qS (X_laws_toTableDeclS nf c19_laws_toTableDeclS) (KF [.t 2 (.o (kL (kR 4)))]))) m8 ⟨[(0, .v (kL (kR 4)) a), (3, .sl [7]), (4, .v kI x4_8)], [([7], .row true false (kR 4) y7_8)]⟩
theorem l8_laws_toTableDeclS_eq (nf : Nat) (m8 : Nat) (a : List TDecl) (x4_8 : Int) (y7_8 : List TDecl) : l8_laws_toTableDeclS nf (m8 + 1) a x4_8 y7_8 = (
  br (decide (x4_8 < (List.length a : Int))) (
    gg (0 ≤ x4_8 ∧ x4_8 < (List.length a : Int)) <|
      cb (m_laws_toTableDecl nf (gt a x4_8 TDecl.zero)) fun r20 =>
        gg (0 ≤ x4_8 ∧ x4_8 < (List.length y7_8 : Int)) <|
          gg (0 ≤ x4_8 ∧ x4_8 < (List.length y7_8 : Int)) <|
            mark (l8_laws_toTableDeclS nf m8 a (w64 (x4_8 + (1 : Int))) (List.set y7_8 (Int.toNat x4_8) (TDecl.h r20)))) (
    some y7_8)) := by kernel_rfl
theorem m_laws_toTableDeclS_eq (nf : Nat) (a : List TDecl) : m_laws_toTableDeclS nf a = (
  gg (0 ≤ (List.length a : Int) ∧ (List.length a : Int) ≤ 2147483647) <|
    mark (l8_laws_toTableDeclS nf nf a (0 : Int) (List.replicate (Int.toNat (List.length a : Int)) TDecl.zero))) := by kernel_rfl
noncomputable def e_laws_toTableDeclS (nf : Nat) : XE := eF 32 [.v (kL (kR 4))] [.o (kL (kR 4))] (fun t => m_laws_toTableDeclS nf t.1)
theorem o_laws_toTableDeclS (nf : Nat) : conOK Tryz.prog 32 (e_laws_toTableDeclS nf).con := by
  have ih : XT.ok Tryz.prog (T_laws_toTableDeclS nf) := by exact ⟨o_laws_toTableDecl nf, trivial⟩
  refine eF_ok fun t x h => ?_
  obtain ⟨a, _⟩ := t
  exact runF_ok (N := 23) ih Tryz.func32 (by kernel_rfl) rfl h
def ir_laws_toSchema : C := .sq (.rg [.bx 1 (.t 0) (kR 5), .al 2 (kR 5)]) (.sq (.rg [.al 3 (kR 5)]) (.sq (.rg [.fa 4 (.t 1) 5 0 0, .ld 5 (.t 4) (kL (kR 4)), .ca (some 6) 32 [((.t 5), .v (kL (kR 4)))], .fa 7 (.t 3) 5 0 0, .st (.t 7) (.t 6) (kL (kR 4))]) (.sq (.rg [.ld 8 (.t 3) (kR 5), .st (.t 2) (.t 8) (kR 5)]) .rt)))
noncomputable abbrev T_laws_toSchema (nf : Nat) : XT := [e_laws_toTableDeclS nf]
noncomputable def m_laws_toSchema (nf : Nat) (a : Schema) : Option (Schema) := runF (T_laws_toSchema nf) nf [.v (kR 5)] [.c 2 (.o (kR 5))] ir_laws_toSchema (a, ())
theorem m_laws_toSchema_eq (nf : Nat) (a : Schema) : m_laws_toSchema nf a = (
  cb (m_laws_toTableDeclS nf a.tables) fun r6 =>
    some (Schema.mk r6)) := by kernel_rfl
noncomputable def e_laws_toSchema (nf : Nat) : XE := eF 9 [.v (kR 5)] [.o (kR 5)] (fun t => m_laws_toSchema nf t.1)
theorem o_laws_toSchema (nf : Nat) : conOK Tryz.prog 9 (e_laws_toSchema nf).con := by
  have ih : XT.ok Tryz.prog (T_laws_toSchema nf) := by exact ⟨o_laws_toTableDeclS nf, trivial⟩
  refine eF_ok fun t x h => ?_
  obtain ⟨a, _⟩ := t
  exact runF_ok (N := 9) ih Tryz.func9 (by kernel_rfl) rfl h
def c19_laws_toTermS : C := .sq (.rg [.mv 22 (.t 3), .mv 2 (.t 22)]) .rt
def c9_laws_toTermS : C := .sq (.sq (.rg [.mv 8 (.t 4), .mv 9 (.t 0), .ln 10 false (.t 9), .bi 11 .lss (.t 8) (.t 10)]) (.cd (.t 11) .skip (.ex 0))) (.sq (.bk 1 (.rg [.mv 14 (.t 3), .mv 15 (.t 4), .mv 16 (.t 0), .mv 17 (.t 4), .ia 18 (.t 16) (.t 17) (kR 2), .ld 19 (.t 18) (kR 2), .ca (some 20) 10 [((.t 19), .v (kR 2))], .ia 21 (.t 14) (.t 15) (kR 2), .st (.t 21) (.t 20) (kR 2)])) (.rg [.mv 12 (.t 4), .bi 13 .add (.t 12) (.i 1), .mv 4 (.t 13)]))
def ir_laws_toTermS : C := .sq (.rg [.mv 2 (.nl (kR 2))]) (.sq (.rg [.mv 5 (.t 0), .ln 6 false (.t 5), .mk 7 true (kR 2) (.t 6), .mv 3 (.t 7)]) (.sq (.sq (.rg [.mv 4 (.i 0)]) (.bk 0 (.lk [0, 3, 4] [[7]] c9_laws_toTermS))) c19_laws_toTermS))
def ir_laws_toTerm : C := .sq (.rg [.bx 1 (.t 0) (kR 2), .al 2 (kR 2)]) (.sq (.rg [.al 3 (kR 2)]) (.sq (.rg [.fa 4 (.t 1) 2 0 0, .ld 5 (.t 4) kI, .fa 6 (.t 3) 2 0 0, .st (.t 6) (.t 5) kI]) (.sq (.rg [.fa 7 (.t 1) 2 1 1, .ld 8 (.t 7) kS, .fa 9 (.t 3) 2 1 1, .st (.t 9) (.t 8) kS]) (.sq (.rg [.fa 10 (.t 1) 2 2 2, .ld 11 (.t 10) kI, .fa 12 (.t 3) 2 2 2, .st (.t 12) (.t 11) kI]) (.sq (.rg [.fa 13 (.t 1) 2 3 3, .ld 14 (.t 13) (kR 0), .ca (some 15) 33 [((.t 14), .v (kR 0))], .fa 16 (.t 3) 2 3 3, .st (.t 16) (.t 15) (kR 0)]) (.sq (.rg [.fa 17 (.t 1) 2 4 6, .ld 18 (.t 17) (kL kS), .ca (some 19) 34 [((.t 18), .v (kL kS))], .fa 20 (.t 3) 2 4 6, .st (.t 20) (.t 19) (kL kS)]) (.sq (.rg [.fa 21 (.t 1) 2 5 7, .ld 22 (.t 21) (kL (kR 2)), .ca (some 23) 35 [((.t 22), .v (kL (kR 2)))], .fa 24 (.t 3) 2 5 7, .st (.t 24) (.t 23) (kL (kR 2))]) (.sq (.rg [.ld 25 (.t 3) (kR 2), .st (.t 2) (.t 25) (kR 2)]) .rt))))))))
noncomputable def B_laws_toTermS (nf : Nat) : XT := [e_laws_toType nf, e_laws_toStringS nf]
noncomputable def G_laws_toTermS (nf : Nat) : Nat → XT
  | 0 => []
  | kf + 1 => [eF 35 [.v (kL (kR 2))] [.o (kL (kR 2))] (fun t => (fun (a : List Tm) => runF (G_laws_toTermS nf kf ++ B_laws_toTermS nf) nf [.v (kL (kR 2))] [.t 2 (.o (kL (kR 2)))] ir_laws_toTermS (a, ())) t.1),
    eF 10 [.v (kR 2)] [.o (kR 2)] (fun t => (fun (a : Tm) => runF (G_laws_toTermS nf kf ++ B_laws_toTermS nf) nf [.v (kR 2)] [.c 2 (.o (kR 2))] ir_laws_toTerm (a, ())) t.1)]
noncomputable abbrev T_laws_toTermS (nf kf : Nat) : XT := G_laws_toTermS nf kf ++ B_laws_toTermS nf
noncomputable abbrev T_laws_toTerm (nf kf : Nat) : XT := G_laws_toTermS nf kf ++ B_laws_toTermS nf
noncomputable def m_laws_toTermS (nf kf : Nat) (a : List Tm) : Option (List Tm) := runF (T_laws_toTermS nf kf) nf [.v (kL (kR 2))] [.t 2 (.o (kL (kR 2)))] ir_laws_toTermS (a, ())
noncomputable def X_laws_toTermS {R : Type} (nf kf : Nat) : C → Env → (Xt → Env → Option R) → Option R := xc (R := R) (T_laws_toTermS nf kf).S nf
noncomputable def m_laws_toTerm (nf kf : Nat) (a : Tm) : Option (Tm) := runF (T_laws_toTerm nf kf) nf [.v (kR 2)] [.c 2 (.o (kR 2))] ir_laws_toTerm (a, ())
noncomputable def l8_laws_toTermS (nf kf : Nat) (m8 : Nat) (a : List Tm) (x4_8 : Int) (y7_8 : List Tm) : Option (List Tm) := xit [0, 3, 4] [[7]] (X_laws_toTermS nf kf c9_laws_toTermS) (qB 0 (qS (X_laws_toTermS nf kf c19_laws_toTermS) (KF [.t 2 (.o (kL (kR 2)))]))) m8 ⟨[(0, .v (kL (kR 2)) a), (3, .sl [7]), (4, .v kI x4_8)], [([7], .row true false (kR 2) y7_8)]⟩
theorem l8_laws_toTermS_eq (nf kf : Nat) (m8 : Nat) (a : List Tm) (x4_8 : Int) (y7_8 : List Tm) : l8_laws_toTermS nf (kf + 1) (m8 + 1) a x4_8 y7_8 = (
  br (decide (x4_8 < (List.length a : Int))) (
    gg (0 ≤ x4_8 ∧ x4_8 < (List.length a : Int)) <|
      cb (m_laws_toTerm nf kf (gt a x4_8 Tm.zero)) fun r20 =>
        gg (0 ≤ x4_8 ∧ x4_8 < (List.length y7_8 : Int)) <|
          gg (0 ≤ x4_8 ∧ x4_8 < (List.length y7_8 : Int)) <|
            mark (l8_laws_toTermS nf (kf + 1) m8 a (w64 (x4_8 + (1 : Int))) (List.set y7_8 (Int.toNat x4_8) (Tm.h r20)))) (
    some y7_8)) := by kernel_rfl
theorem m_laws_toTermS_eq (nf kf : Nat) (a : List Tm) : m_laws_toTermS nf (kf + 1) a = (
  gg (0 ≤ (List.length a : Int) ∧ (List.length a : Int) ≤ 2147483647) <|
    mark (l8_laws_toTermS nf (kf + 1) nf a (0 : Int) (List.replicate (Int.toNat (List.length a : Int)) Tm.zero))) := by kernel_rfl
theorem m_laws_toTerm_eq (nf kf : Nat) (a : Tm) : m_laws_toTerm nf (kf + 1) a = (
  cb (m_laws_toType nf nf (Ty.h a.type)) fun r15 =>
    cb (m_laws_toStringS nf a.labels) fun r19 =>
      cb (m_laws_toTermS nf kf a.args) fun r23 =>
        some (Tm.mk a.kind a.name a.n (Ty.h r15) r19 r23)) := by kernel_rfl
noncomputable def e_laws_toTerm (nf : Nat) : XE := eF 10 [.v (kR 2)] [.o (kR 2)] (fun t => m_laws_toTerm nf nf t.1)
theorem gok_laws_toTermS (nf : Nat) : ∀ kf : Nat, XT.ok Tryz.prog (G_laws_toTermS nf kf ++ B_laws_toTermS nf)
  | 0 => by exact ⟨o_laws_toType nf, o_laws_toStringS nf, trivial⟩
  | kf + 1 => by
    have ih := gok_laws_toTermS nf kf
    refine ⟨?_, ?_, (by exact ⟨o_laws_toType nf, o_laws_toStringS nf, trivial⟩)⟩
    · refine eF_ok fun t x h => ?_
      obtain ⟨a, _⟩ := t
      exact runF_ok (N := 23) ih Tryz.func35 (by kernel_rfl) rfl h
    · refine eF_ok fun t x h => ?_
      obtain ⟨a, _⟩ := t
      exact runF_ok (N := 26) ih Tryz.func10 (by kernel_rfl) rfl h
theorem o_laws_toTerm (nf : Nat) : conOK Tryz.prog 10 (e_laws_toTerm nf).con := by
  have ih := gok_laws_toTermS nf nf
  refine eF_ok fun t x h => ?_
  obtain ⟨a, _⟩ := t
  exact runF_ok (N := 26) ih Tryz.func10 (by kernel_rfl) rfl h
def c31_laws_eqStringS : C := .sq (.rg [.mv 4 (.b true)]) .rt
def c15_laws_eqStringS : C := .sq (.sq (.rg [.mv 11 (.t 5), .mv 12 (.t 0), .ln 13 false (.t 12), .bi 14 .lss (.t 11) (.t 13)]) (.cd (.t 14) .skip (.ex 0))) (.sq (.bk 1 (.sq (.dr [] [.mv 17 (.t 0), .mv 18 (.t 5), .ia 19 (.t 17) (.t 18) kS, .ld 20 (.t 19) kS, .mv 21 (.t 1), .mv 22 (.t 5), .ia 23 (.t 21) (.t 22) kS, .ld 24 (.t 23) kS] [.bi 25 .neq (.t 20) (.t 24)]) (.cd (.t 25) (.sq (.rg [.mv 4 (.b false)]) .rt) .skip))) (.rg [.mv 15 (.t 5), .bi 16 .add (.t 15) (.i 1), .mv 5 (.t 16)]))
def ir_laws_eqStringS : C := .sq (.rg [.mv 4 (.b false)]) (.sq (.sq (.rg [.mv 6 (.t 0), .ln 7 false (.t 6), .mv 8 (.t 1), .ln 9 false (.t 8), .bi 10 .neq (.t 7) (.t 9)]) (.cd (.t 10) (.sq (.rg [.mv 4 (.b false)]) .rt) .skip)) (.sq (.sq (.rg [.mv 5 (.i 0)]) (.bk 0 (.lk [0, 1, 5] [] c15_laws_eqStringS))) c31_laws_eqStringS))
noncomputable abbrev T_laws_eqStringS (nf : Nat) : XT := []
noncomputable def m_laws_eqStringS (nf : Nat) (a : List Str) (b : List Str) : Option (Bool) := runF (T_laws_eqStringS nf) nf [.v (kL kS), .v (kL kS)] [.t 4 (.v .bool)] ir_laws_eqStringS (a, b, ())
noncomputable def X_laws_eqStringS {R : Type} (nf : Nat) : C → Env → (Xt → Env → Option R) → Option R := xc (R := R) (T_laws_eqStringS nf).S nf
noncomputable def l14_laws_eqStringS (nf : Nat) (m14 : Nat) (a : List Str) (b : List Str) (x5_14 : Int) : Option (Bool) := xit [0, 1, 5] [] (X_laws_eqStringS nf c15_laws_eqStringS) (qB 0 (qS (X_laws_eqStringS nf c31_laws_eqStringS) (KF [.t 4 (.v .bool)]))) m14 ⟨[(0, .v (kL kS) a), (1, .v (kL kS) b), (5, .v kI x5_14)], []⟩
theorem l14_laws_eqStringS_eq (nf : Nat) (m14 : Nat) (a : List Str) (b : List Str) (x5_14 : Int) : l14_laws_eqStringS nf (m14 + 1) a b x5_14 = (
  br (decide (x5_14 < (List.length a : Int))) (
    gg (0 ≤ x5_14 ∧ x5_14 < (List.length a : Int)) <|
      gg (0 ≤ x5_14 ∧ x5_14 < (List.length b : Int)) <|
        br (!((gt a x5_14 ([] : Str)) == (gt b x5_14 ([] : Str)))) (
          some false) (
          mark (l14_laws_eqStringS nf m14 a b (w64 (x5_14 + (1 : Int)))))) (
    some true)) := by kernel_rfl
theorem m_laws_eqStringS_eq (nf : Nat) (a : List Str) (b : List Str) : m_laws_eqStringS nf a b = (
  br (!((List.length a : Int) == (List.length b : Int))) (
    some false) (
    mark (l14_laws_eqStringS nf nf a b (0 : Int)))) := by kernel_rfl
noncomputable def e_laws_eqStringS (nf : Nat) : XE := eF 38 [.v (kL kS), .v (kL kS)] [.v .bool] (fun t => m_laws_eqStringS nf t.1 t.2.1)
theorem o_laws_eqStringS (nf : Nat) : conOK Tryz.prog 38 (e_laws_eqStringS nf).con := by
  have ih : XT.ok Tryz.prog (T_laws_eqStringS nf) := by exact trivial
  refine eF_ok fun t x h => ?_
  obtain ⟨a, b, _⟩ := t
  exact runF_ok (N := 26) ih Tryz.func38 (by kernel_rfl) rfl h
def c31_laws_eqTypeS : C := .sq (.rg [.mv 4 (.b true)]) .rt
def c15_laws_eqTypeS : C := .sq (.sq (.rg [.mv 11 (.t 5), .mv 12 (.t 0), .ln 13 false (.t 12), .bi 14 .lss (.t 11) (.t 13)]) (.cd (.t 14) .skip (.ex 0))) (.sq (.bk 1 (.sq (.dr [] [.mv 17 (.t 0), .mv 18 (.t 5), .ia 19 (.t 17) (.t 18) (kR 0), .ld 20 (.t 19) (kR 0), .mv 21 (.t 1), .mv 22 (.t 5), .ia 23 (.t 21) (.t 22) (kR 0), .ld 24 (.t 23) (kR 0)] [.cv (some 25) 20 [((.t 20), .v (kR 0)), ((.t 24), .v (kR 0))], .un 26 .not (.t 25)]) (.cd (.t 26) (.sq (.rg [.mv 4 (.b false)]) .rt) .skip))) (.rg [.mv 15 (.t 5), .bi 16 .add (.t 15) (.i 1), .mv 5 (.t 16)]))
def ir_laws_eqTypeS : C := .sq (.rg [.mv 4 (.b false)]) (.sq (.sq (.rg [.mv 6 (.t 0), .ln 7 false (.t 6), .mv 8 (.t 1), .ln 9 false (.t 8), .bi 10 .neq (.t 7) (.t 9)]) (.cd (.t 10) (.sq (.rg [.mv 4 (.b false)]) .rt) .skip)) (.sq (.sq (.rg [.mv 5 (.i 0)]) (.bk 0 (.lk [0, 1, 5] [] c15_laws_eqTypeS))) c31_laws_eqTypeS))
def ir_laws_eqType : C := .sq (.rg [.bx 2 (.t 0) (kR 0), .bx 3 (.t 1) (kR 0), .mv 4 (.b false)]) (.sq (.sq (.rg [.fa 5 (.t 2) 0 0 0, .ld 6 (.t 5) kI, .fa 7 (.t 3) 0 0 0, .ld 8 (.t 7) kI, .bi 9 .neq (.t 6) (.t 8)]) (.cd (.t 9) (.sq (.rg [.mv 4 (.b false)]) .rt) .skip)) (.sq (.sq (.rg [.fa 10 (.t 2) 0 1 1, .ld 11 (.t 10) (kL kS), .fa 12 (.t 3) 0 1 1, .ld 13 (.t 12) (kL kS), .cv (some 14) 38 [((.t 11), .v (kL kS)), ((.t 13), .v (kL kS))], .un 15 .not (.t 14)]) (.cd (.t 15) (.sq (.rg [.mv 4 (.b false)]) .rt) .skip)) (.sq (.sq (.rg [.fa 16 (.t 2) 0 2 2, .ld 17 (.t 16) (kL (kR 0)), .fa 18 (.t 3) 0 2 2, .ld 19 (.t 18) (kL (kR 0)), .cv (some 20) 53 [((.t 17), .v (kL (kR 0))), ((.t 19), .v (kL (kR 0)))], .un 21 .not (.t 20)]) (.cd (.t 21) (.sq (.rg [.mv 4 (.b false)]) .rt) .skip)) (.sq (.rg [.mv 4 (.b true)]) .rt))))
noncomputable def B_laws_eqTypeS (nf : Nat) : XT := [e_laws_eqStringS nf]
noncomputable def G_laws_eqTypeS (nf : Nat) : Nat → XT
  | 0 => []
  | kf + 1 => [eF 53 [.v (kL (kR 0)), .v (kL (kR 0))] [.v .bool] (fun t => (fun (a : List Ty) (b : List Ty) => runF (G_laws_eqTypeS nf kf ++ B_laws_eqTypeS nf) nf [.v (kL (kR 0)), .v (kL (kR 0))] [.t 4 (.v .bool)] ir_laws_eqTypeS (a, b, ())) t.1 t.2.1),
    eF 20 [.v (kR 0), .v (kR 0)] [.v .bool] (fun t => (fun (a : Ty) (b : Ty) => runF (G_laws_eqTypeS nf kf ++ B_laws_eqTypeS nf) nf [.v (kR 0), .v (kR 0)] [.t 4 (.v .bool)] ir_laws_eqType (a, b, ())) t.1 t.2.1)]
noncomputable abbrev T_laws_eqTypeS (nf kf : Nat) : XT := G_laws_eqTypeS nf kf ++ B_laws_eqTypeS nf
noncomputable abbrev T_laws_eqType (nf kf : Nat) : XT := G_laws_eqTypeS nf kf ++ B_laws_eqTypeS nf
noncomputable def m_laws_eqTypeS (nf kf : Nat) (a : List Ty) (b : List Ty) : Option (Bool) := runF (T_laws_eqTypeS nf kf) nf [.v (kL (kR 0)), .v (kL (kR 0))] [.t 4 (.v .bool)] ir_laws_eqTypeS (a, b, ())
noncomputable def X_laws_eqTypeS {R : Type} (nf kf : Nat) : C → Env → (Xt → Env → Option R) → Option R := xc (R := R) (T_laws_eqTypeS nf kf).S nf
noncomputable def m_laws_eqType (nf kf : Nat) (a : Ty) (b : Ty) : Option (Bool) := runF (T_laws_eqType nf kf) nf [.v (kR 0), .v (kR 0)] [.t 4 (.v .bool)] ir_laws_eqType (a, b, ())
noncomputable def l14_laws_eqTypeS (nf kf : Nat) (m14 : Nat) (a : List Ty) (b : List Ty) (x5_14 : Int) : Option (Bool) := xit [0, 1, 5] [] (X_laws_eqTypeS nf kf c15_laws_eqTypeS) (qB 0 (qS (X_laws_eqTypeS nf kf c31_laws_eqTypeS) (KF [.t 4 (.v .bool)]))) m14 ⟨[(0, .v (kL (kR 0)) a), (1, .v (kL (kR 0)) b), (5, .v kI x5_14)], []⟩
theorem l14_laws_eqTypeS_eq (nf kf : Nat) (m14 : Nat) (a : List Ty) (b : List Ty) (x5_14 : Int) : l14_laws_eqTypeS nf (kf + 1) (m14 + 1) a b x5_14 = (
  br (decide (x5_14 < (List.length a : Int))) (
    gg (0 ≤ x5_14 ∧ x5_14 < (List.length a : Int)) <|
      gg (0 ≤ x5_14 ∧ x5_14 < (List.length b : Int)) <|
        cb (m_laws_eqType nf kf (gt a x5_14 Ty.zero) (gt b x5_14 Ty.zero)) fun r25 =>
          br (!r25) (
            some false) (
            mark (l14_laws_eqTypeS nf (kf + 1) m14 a b (w64 (x5_14 + (1 : Int)))))) (
    some true)) := by kernel_rfl
theorem m_laws_eqTypeS_eq (nf kf : Nat) (a : List Ty) (b : List Ty) : m_laws_eqTypeS nf (kf + 1) a b = (
  br (!((List.length a : Int) == (List.length b : Int))) (
    some false) (
    mark (l14_laws_eqTypeS nf (kf + 1) nf a b (0 : Int)))) := by kernel_rfl
theorem m_laws_eqType_eq (nf kf : Nat) (a : Ty) (b : Ty) : m_laws_eqType nf (kf + 1) a b = (
  br (!(a.kind == b.kind)) (
    some false) (
    cb (m_laws_eqStringS nf a.labels b.labels) fun r14 =>
      br (!r14) (
        some false) (
        cb (m_laws_eqTypeS nf kf a.args b.args) fun r20 =>
          br (!r20) (
            some false) (
            some true)))) := by kernel_rfl
noncomputable def e_laws_eqType (nf : Nat) : XE := eF 20 [.v (kR 0), .v (kR 0)] [.v .bool] (fun t => m_laws_eqType nf nf t.1 t.2.1)
theorem gok_laws_eqTypeS (nf : Nat) : ∀ kf : Nat, XT.ok Tryz.prog (G_laws_eqTypeS nf kf ++ B_laws_eqTypeS nf)
  | 0 => by exact ⟨o_laws_eqStringS nf, trivial⟩
  | kf + 1 => by
    have ih := gok_laws_eqTypeS nf kf
    refine ⟨?_, ?_, (by exact ⟨o_laws_eqStringS nf, trivial⟩)⟩
    · refine eF_ok fun t x h => ?_
      obtain ⟨a, b, _⟩ := t
      exact runF_ok (N := 27) ih Tryz.func53 (by kernel_rfl) rfl h
    · refine eF_ok fun t x h => ?_
      obtain ⟨a, b, _⟩ := t
      exact runF_ok (N := 22) ih Tryz.func20 (by kernel_rfl) rfl h
theorem o_laws_eqType (nf : Nat) : conOK Tryz.prog 20 (e_laws_eqType nf).con := by
  have ih := gok_laws_eqTypeS nf nf
  refine eF_ok fun t x h => ?_
  obtain ⟨a, b, _⟩ := t
  exact runF_ok (N := 22) ih Tryz.func20 (by kernel_rfl) rfl h
def ir_laws_eqTableDecl : C := .sq (.rg [.bx 2 (.t 0) (kR 4), .bx 3 (.t 1) (kR 4), .mv 4 (.b false)]) (.sq (.sq (.rg [.fa 5 (.t 2) 4 0 0, .ld 6 (.t 5) kS, .fa 7 (.t 3) 4 0 0, .ld 8 (.t 7) kS, .bi 9 .neq (.t 6) (.t 8)]) (.cd (.t 9) (.sq (.rg [.mv 4 (.b false)]) .rt) .skip)) (.sq (.sq (.rg [.fa 10 (.t 2) 4 1 1, .ld 11 (.t 10) (kR 0), .fa 12 (.t 3) 4 1 1, .ld 13 (.t 12) (kR 0), .cv (some 14) 20 [((.t 11), .v (kR 0)), ((.t 13), .v (kR 0))], .un 15 .not (.t 14)]) (.cd (.t 15) (.sq (.rg [.mv 4 (.b false)]) .rt) .skip)) (.sq (.rg [.mv 4 (.b true)]) .rt)))
noncomputable abbrev T_laws_eqTableDecl (nf : Nat) : XT := [e_laws_eqType nf]
noncomputable def m_laws_eqTableDecl (nf : Nat) (a : TDecl) (b : TDecl) : Option (Bool) := runF (T_laws_eqTableDecl nf) nf [.v (kR 4), .v (kR 4)] [.t 4 (.v .bool)] ir_laws_eqTableDecl (a, b, ())
theorem m_laws_eqTableDecl_eq (nf : Nat) (a : TDecl) (b : TDecl) : m_laws_eqTableDecl nf a b = (
  br (!(a.name == b.name)) (
    some false) (
    cb (m_laws_eqType nf nf (Ty.h a.row) (Ty.h b.row)) fun r14 =>
      br (!r14) (
        some false) (
        some true))) := by kernel_rfl
noncomputable def e_laws_eqTableDecl (nf : Nat) : XE := eF 69 [.v (kR 4), .v (kR 4)] [.v .bool] (fun t => m_laws_eqTableDecl nf t.1 t.2.1)
theorem o_laws_eqTableDecl (nf : Nat) : conOK Tryz.prog 69 (e_laws_eqTableDecl nf).con := by
  have ih : XT.ok Tryz.prog (T_laws_eqTableDecl nf) := by exact ⟨o_laws_eqType nf, trivial⟩
  refine eF_ok fun t x h => ?_
  obtain ⟨a, b, _⟩ := t
  exact runF_ok (N := 16) ih Tryz.func69 (by kernel_rfl) rfl h
def c31_laws_eqTableDeclS : C := .sq (.rg [.mv 4 (.b true)]) .rt
def c15_laws_eqTableDeclS : C := .sq (.sq (.rg [.mv 11 (.t 5), .mv 12 (.t 0), .ln 13 false (.t 12), .bi 14 .lss (.t 11) (.t 13)]) (.cd (.t 14) .skip (.ex 0))) (.sq (.bk 1 (.sq (.dr [] [.mv 17 (.t 0), .mv 18 (.t 5), .ia 19 (.t 17) (.t 18) (kR 4), .ld 20 (.t 19) (kR 4), .mv 21 (.t 1), .mv 22 (.t 5), .ia 23 (.t 21) (.t 22) (kR 4), .ld 24 (.t 23) (kR 4)] [.cv (some 25) 69 [((.t 20), .v (kR 4)), ((.t 24), .v (kR 4))], .un 26 .not (.t 25)]) (.cd (.t 26) (.sq (.rg [.mv 4 (.b false)]) .rt) .skip))) (.rg [.mv 15 (.t 5), .bi 16 .add (.t 15) (.i 1), .mv 5 (.t 16)]))
def ir_laws_eqTableDeclS : C := .sq (.rg [.mv 4 (.b false)]) (.sq (.sq (.rg [.mv 6 (.t 0), .ln 7 false (.t 6), .mv 8 (.t 1), .ln 9 false (.t 8), .bi 10 .neq (.t 7) (.t 9)]) (.cd (.t 10) (.sq (.rg [.mv 4 (.b false)]) .rt) .skip)) (.sq (.sq (.rg [.mv 5 (.i 0)]) (.bk 0 (.lk [0, 1, 5] [] c15_laws_eqTableDeclS))) c31_laws_eqTableDeclS))
noncomputable abbrev T_laws_eqTableDeclS (nf : Nat) : XT := [e_laws_eqTableDecl nf]
noncomputable def m_laws_eqTableDeclS (nf : Nat) (a : List TDecl) (b : List TDecl) : Option (Bool) := runF (T_laws_eqTableDeclS nf) nf [.v (kL (kR 4)), .v (kL (kR 4))] [.t 4 (.v .bool)] ir_laws_eqTableDeclS (a, b, ())
noncomputable def X_laws_eqTableDeclS {R : Type} (nf : Nat) : C → Env → (Xt → Env → Option R) → Option R := xc (R := R) (T_laws_eqTableDeclS nf).S nf
noncomputable def l14_laws_eqTableDeclS (nf : Nat) (m14 : Nat) (a : List TDecl) (b : List TDecl) (x5_14 : Int) : Option (Bool) := xit [0, 1, 5] [] (X_laws_eqTableDeclS nf c15_laws_eqTableDeclS) (qB 0 (qS (X_laws_eqTableDeclS nf c31_laws_eqTableDeclS) (KF [.t 4 (.v .bool)]))) m14 ⟨[(0, .v (kL (kR 4)) a), (1, .v (kL (kR 4)) b), (5, .v kI x5_14)], []⟩
theorem l14_laws_eqTableDeclS_eq (nf : Nat) (m14 : Nat) (a : List TDecl) (b : List TDecl) (x5_14 : Int) : l14_laws_eqTableDeclS nf (m14 + 1) a b x5_14 = (
  br (decide (x5_14 < (List.length a : Int))) (
    gg (0 ≤ x5_14 ∧ x5_14 < (List.length a : Int)) <|
      gg (0 ≤ x5_14 ∧ x5_14 < (List.length b : Int)) <|
        cb (m_laws_eqTableDecl nf (gt a x5_14 TDecl.zero) (gt b x5_14 TDecl.zero)) fun r25 =>
          br (!r25) (
            some false) (
            mark (l14_laws_eqTableDeclS nf m14 a b (w64 (x5_14 + (1 : Int)))))) (
    some true)) := by kernel_rfl
theorem m_laws_eqTableDeclS_eq (nf : Nat) (a : List TDecl) (b : List TDecl) : m_laws_eqTableDeclS nf a b = (
  br (!((List.length a : Int) == (List.length b : Int))) (
    some false) (
    mark (l14_laws_eqTableDeclS nf nf a b (0 : Int)))) := by kernel_rfl
noncomputable def e_laws_eqTableDeclS (nf : Nat) : XE := eF 37 [.v (kL (kR 4)), .v (kL (kR 4))] [.v .bool] (fun t => m_laws_eqTableDeclS nf t.1 t.2.1)
theorem o_laws_eqTableDeclS (nf : Nat) : conOK Tryz.prog 37 (e_laws_eqTableDeclS nf).con := by
  have ih : XT.ok Tryz.prog (T_laws_eqTableDeclS nf) := by exact ⟨o_laws_eqTableDecl nf, trivial⟩
  refine eF_ok fun t x h => ?_
  obtain ⟨a, b, _⟩ := t
  exact runF_ok (N := 27) ih Tryz.func37 (by kernel_rfl) rfl h
def ir_laws_eqSchema : C := .sq (.rg [.bx 2 (.t 0) (kR 5), .bx 3 (.t 1) (kR 5), .mv 4 (.b false)]) (.sq (.sq (.rg [.fa 5 (.t 2) 5 0 0, .ld 6 (.t 5) (kL (kR 4)), .fa 7 (.t 3) 5 0 0, .ld 8 (.t 7) (kL (kR 4)), .cv (some 9) 37 [((.t 6), .v (kL (kR 4))), ((.t 8), .v (kL (kR 4)))], .un 10 .not (.t 9)]) (.cd (.t 10) (.sq (.rg [.mv 4 (.b false)]) .rt) .skip)) (.sq (.rg [.mv 4 (.b true)]) .rt))
noncomputable abbrev T_laws_eqSchema (nf : Nat) : XT := [e_laws_eqTableDeclS nf]
noncomputable def m_laws_eqSchema (nf : Nat) (a : Schema) (b : Schema) : Option (Bool) := runF (T_laws_eqSchema nf) nf [.v (kR 5), .v (kR 5)] [.t 4 (.v .bool)] ir_laws_eqSchema (a, b, ())
theorem m_laws_eqSchema_eq (nf : Nat) (a : Schema) (b : Schema) : m_laws_eqSchema nf a b = (
  cb (m_laws_eqTableDeclS nf a.tables b.tables) fun r9 =>
    br (!r9) (
      some false) (
      some true)) := by kernel_rfl
noncomputable def e_laws_eqSchema (nf : Nat) : XE := eF 12 [.v (kR 5), .v (kR 5)] [.v .bool] (fun t => m_laws_eqSchema nf t.1 t.2.1)
theorem o_laws_eqSchema (nf : Nat) : conOK Tryz.prog 12 (e_laws_eqSchema nf).con := by
  have ih : XT.ok Tryz.prog (T_laws_eqSchema nf) := by exact ⟨o_laws_eqTableDeclS nf, trivial⟩
  refine eF_ok fun t x h => ?_
  obtain ⟨a, b, _⟩ := t
  exact runF_ok (N := 11) ih Tryz.func12 (by kernel_rfl) rfl h
def c31_laws_eqTermS : C := .sq (.rg [.mv 4 (.b true)]) .rt
def c15_laws_eqTermS : C := .sq (.sq (.rg [.mv 11 (.t 5), .mv 12 (.t 0), .ln 13 false (.t 12), .bi 14 .lss (.t 11) (.t 13)]) (.cd (.t 14) .skip (.ex 0))) (.sq (.bk 1 (.sq (.dr [] [.mv 17 (.t 0), .mv 18 (.t 5), .ia 19 (.t 17) (.t 18) (kR 2), .ld 20 (.t 19) (kR 2), .mv 21 (.t 1), .mv 22 (.t 5), .ia 23 (.t 21) (.t 22) (kR 2), .ld 24 (.t 23) (kR 2)] [.cv (some 25) 13 [((.t 20), .v (kR 2)), ((.t 24), .v (kR 2))], .un 26 .not (.t 25)]) (.cd (.t 26) (.sq (.rg [.mv 4 (.b false)]) .rt) .skip))) (.rg [.mv 15 (.t 5), .bi 16 .add (.t 15) (.i 1), .mv 5 (.t 16)]))
def ir_laws_eqTermS : C := .sq (.rg [.mv 4 (.b false)]) (.sq (.sq (.rg [.mv 6 (.t 0), .ln 7 false (.t 6), .mv 8 (.t 1), .ln 9 false (.t 8), .bi 10 .neq (.t 7) (.t 9)]) (.cd (.t 10) (.sq (.rg [.mv 4 (.b false)]) .rt) .skip)) (.sq (.sq (.rg [.mv 5 (.i 0)]) (.bk 0 (.lk [0, 1, 5] [] c15_laws_eqTermS))) c31_laws_eqTermS))
def ir_laws_eqTerm : C := .sq (.rg [.bx 2 (.t 0) (kR 2), .bx 3 (.t 1) (kR 2), .mv 4 (.b false)]) (.sq (.sq (.rg [.fa 5 (.t 2) 2 0 0, .ld 6 (.t 5) kI, .fa 7 (.t 3) 2 0 0, .ld 8 (.t 7) kI, .bi 9 .neq (.t 6) (.t 8)]) (.cd (.t 9) (.sq (.rg [.mv 4 (.b false)]) .rt) .skip)) (.sq (.sq (.rg [.fa 10 (.t 2) 2 1 1, .ld 11 (.t 10) kS, .fa 12 (.t 3) 2 1 1, .ld 13 (.t 12) kS, .bi 14 .neq (.t 11) (.t 13)]) (.cd (.t 14) (.sq (.rg [.mv 4 (.b false)]) .rt) .skip)) (.sq (.sq (.rg [.fa 15 (.t 2) 2 2 2, .ld 16 (.t 15) kI, .fa 17 (.t 3) 2 2 2, .ld 18 (.t 17) kI, .bi 19 .neq (.t 16) (.t 18)]) (.cd (.t 19) (.sq (.rg [.mv 4 (.b false)]) .rt) .skip)) (.sq (.sq (.rg [.fa 20 (.t 2) 2 3 3, .ld 21 (.t 20) (kR 0), .fa 22 (.t 3) 2 3 3, .ld 23 (.t 22) (kR 0), .cv (some 24) 20 [((.t 21), .v (kR 0)), ((.t 23), .v (kR 0))], .un 25 .not (.t 24)]) (.cd (.t 25) (.sq (.rg [.mv 4 (.b false)]) .rt) .skip)) (.sq (.sq (.rg [.fa 26 (.t 2) 2 4 6, .ld 27 (.t 26) (kL kS), .fa 28 (.t 3) 2 4 6, .ld 29 (.t 28) (kL kS), .cv (some 30) 38 [((.t 27), .v (kL kS)), ((.t 29), .v (kL kS))], .un 31 .not (.t 30)]) (.cd (.t 31) (.sq (.rg [.mv 4 (.b false)]) .rt) .skip)) (.sq (.sq (.rg [.fa 32 (.t 2) 2 5 7, .ld 33 (.t 32) (kL (kR 2)), .fa 34 (.t 3) 2 5 7, .ld 35 (.t 34) (kL (kR 2)), .cv (some 36) 39 [((.t 33), .v (kL (kR 2))), ((.t 35), .v (kL (kR 2)))], .un 37 .not (.t 36)]) (.cd (.t 37) (.sq (.rg [.mv 4 (.b false)]) .rt) .skip)) (.sq (.rg [.mv 4 (.b true)]) .rt)))))))
noncomputable def B_laws_eqTermS (nf : Nat) : XT := [e_laws_eqType nf, e_laws_eqStringS nf]
noncomputable def G_laws_eqTermS (nf : Nat) : Nat → XT
  | 0 => []
  | kf + 1 => [eF 39 [.v (kL (kR 2)), .v (kL (kR 2))] [.v .bool] (fun t => (fun (a : List Tm) (b : List Tm) => runF (G_laws_eqTermS nf kf ++ B_laws_eqTermS nf) nf [.v (kL (kR 2)), .v (kL (kR 2))] [.t 4 (.v .bool)] ir_laws_eqTermS (a, b, ())) t.1 t.2.1),
    eF 13 [.v (kR 2), .v (kR 2)] [.v .bool] (fun t => (fun (a : Tm) (b : Tm) => runF (G_laws_eqTermS nf kf ++ B_laws_eqTermS nf) nf [.v (kR 2), .v (kR 2)] [.t 4 (.v .bool)] ir_laws_eqTerm (a, b, ())) t.1 t.2.1)]
noncomputable abbrev T_laws_eqTermS (nf kf : Nat) : XT := G_laws_eqTermS nf kf ++ B_laws_eqTermS nf
noncomputable abbrev T_laws_eqTerm (nf kf : Nat) : XT := G_laws_eqTermS nf kf ++ B_laws_eqTermS nf
noncomputable def m_laws_eqTermS (nf kf : Nat) (a : List Tm) (b : List Tm) : Option (Bool) := runF (T_laws_eqTermS nf kf) nf [.v (kL (kR 2)), .v (kL (kR 2))] [.t 4 (.v .bool)] ir_laws_eqTermS (a, b, ())
noncomputable def X_laws_eqTermS {R : Type} (nf kf : Nat) : C → Env → (Xt → Env → Option R) → Option R := xc (R := R) (T_laws_eqTermS nf kf).S nf
noncomputable def m_laws_eqTerm (nf kf : Nat) (a : Tm) (b : Tm) : Option (Bool) := runF (T_laws_eqTerm nf kf) nf [.v (kR 2), .v (kR 2)] [.t 4 (.v .bool)] ir_laws_eqTerm (a, b, ())
noncomputable def l14_laws_eqTermS (nf kf : Nat) (m14 : Nat) (a : List Tm) (b : List Tm) (x5_14 : Int) : Option (Bool) := xit [0, 1, 5] [] (X_laws_eqTermS nf kf c15_laws_eqTermS) (qB 0 (qS (X_laws_eqTermS nf kf c31_laws_eqTermS) (KF [.t 4 (.v .bool)]))) m14 ⟨[(0, .v (kL (kR 2)) a), (1, .v (kL (kR 2)) b), (5, .v kI x5_14)], []⟩
theorem l14_laws_eqTermS_eq (nf kf : Nat) (m14 : Nat) (a : List Tm) (b : List Tm) (x5_14 : Int) : l14_laws_eqTermS nf (kf + 1) (m14 + 1) a b x5_14 = (
  br (decide (x5_14 < (List.length a : Int))) (
    gg (0 ≤ x5_14 ∧ x5_14 < (List.length a : Int)) <|
      gg (0 ≤ x5_14 ∧ x5_14 < (List.length b : Int)) <|
        cb (m_laws_eqTerm nf kf (gt a x5_14 Tm.zero) (gt b x5_14 Tm.zero)) fun r25 =>
          br (!r25) (
            some false) (
            mark (l14_laws_eqTermS nf (kf + 1) m14 a b (w64 (x5_14 + (1 : Int)))))) (
    some true)) := by kernel_rfl
theorem m_laws_eqTermS_eq (nf kf : Nat) (a : List Tm) (b : List Tm) : m_laws_eqTermS nf (kf + 1) a b = (
  br (!((List.length a : Int) == (List.length b : Int))) (
    some false) (
    mark (l14_laws_eqTermS nf (kf + 1) nf a b (0 : Int)))) := by kernel_rfl
theorem m_laws_eqTerm_eq (nf kf : Nat) (a : Tm) (b : Tm) : m_laws_eqTerm nf (kf + 1) a b = (
  br (!(a.kind == b.kind)) (
    some false) (
    br (!(a.name == b.name)) (
      some false) (
      br (!(a.n == b.n)) (
        some false) (
        cb (m_laws_eqType nf nf (Ty.h a.type) (Ty.h b.type)) fun r24 =>
          br (!r24) (
            some false) (
            cb (m_laws_eqStringS nf a.labels b.labels) fun r30 =>
              br (!r30) (
                some false) (
                cb (m_laws_eqTermS nf kf a.args b.args) fun r36 =>
                  br (!r36) (
                    some false) (
                    some true))))))) := by kernel_rfl
noncomputable def e_laws_eqTerm (nf : Nat) : XE := eF 13 [.v (kR 2), .v (kR 2)] [.v .bool] (fun t => m_laws_eqTerm nf nf t.1 t.2.1)
theorem gok_laws_eqTermS (nf : Nat) : ∀ kf : Nat, XT.ok Tryz.prog (G_laws_eqTermS nf kf ++ B_laws_eqTermS nf)
  | 0 => by exact ⟨o_laws_eqType nf, o_laws_eqStringS nf, trivial⟩
  | kf + 1 => by
    have ih := gok_laws_eqTermS nf kf
    refine ⟨?_, ?_, (by exact ⟨o_laws_eqType nf, o_laws_eqStringS nf, trivial⟩)⟩
    · refine eF_ok fun t x h => ?_
      obtain ⟨a, b, _⟩ := t
      exact runF_ok (N := 27) ih Tryz.func39 (by kernel_rfl) rfl h
    · refine eF_ok fun t x h => ?_
      obtain ⟨a, b, _⟩ := t
      exact runF_ok (N := 38) ih Tryz.func13 (by kernel_rfl) rfl h
theorem o_laws_eqTerm (nf : Nat) : conOK Tryz.prog 13 (e_laws_eqTerm nf).con := by
  have ih := gok_laws_eqTermS nf nf
  refine eF_ok fun t x h => ?_
  obtain ⟨a, b, _⟩ := t
  exact runF_ok (N := 38) ih Tryz.func13 (by kernel_rfl) rfl h
end Go.Q
