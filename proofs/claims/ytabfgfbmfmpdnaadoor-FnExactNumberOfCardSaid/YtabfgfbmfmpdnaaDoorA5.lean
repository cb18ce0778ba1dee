import Derived.Test.YtabfgfbmfmpdnaaDoorIt
import Derived.Test.YtabfgfbmfmpdnaaDoorQe
import Derived.Test.YtabfgfbmfmpdnaaDoorProg
import Derived.KernelRfl
set_option linter.unusedVariables false
set_option linter.unusedSimpArgs false
namespace Go.Q
open Go.Proofs
set_option linter.unusedVariables false
set_option maxRecDepth 20000
set_option maxHeartbeats 4000000
def ir_laws_szIntS : C := .sq (.rg [.mv 4 (.i 0)]) (.sq (.rg [.mv 5 (.t 1), .mv 6 (.t 0), .ln 7 false (.t 6), .bi 8 .sub (.t 5) (.t 7), .mv 1 (.t 8)]) (.sq (.sq (.rg [.mv 9 (.t 1), .bi 10 .lss (.t 9) (.i 0)]) (.cd (.t 10) (.sq (.rg [.mv 4 (.i (-1))]) .rt) .skip)) (.sq (.rg [.mv 11 (.t 1), .mv 4 (.t 11)]) .rt)))
noncomputable abbrev T_laws_szIntS (nf : Nat) : XT := []
noncomputable def m_laws_szIntS (nf : Nat) (a : List Int) (left : Int) : Option (Int) := runF (T_laws_szIntS nf) nf [.v (kL kI), .v kI] [.t 4 (.v kI)] ir_laws_szIntS (a, left, ())
theorem m_laws_szIntS_eq (nf : Nat) (a : List Int) (left : Int) : m_laws_szIntS nf a left = (
  br (decide ((w64 (left - (List.length a : Int))) < (0 : Int))) (
    some (-1 : Int)) (
    some (w64 (left - (List.length a : Int))))) := by kernel_rfl
noncomputable def e_laws_szIntS (nf : Nat) : XE := eF 22 [.v (kL kI), .v kI] [.v kI] (fun t => m_laws_szIntS nf t.1 t.2.1)
theorem o_laws_szIntS (nf : Nat) : conOK Tryd.prog 22 (e_laws_szIntS nf).con := by
  have ih : XT.ok Tryd.prog (T_laws_szIntS nf) := by exact trivial
  refine eF_ok fun t x h => ?_
  obtain ⟨a, left, _⟩ := t
  exact runF_ok (N := 12) ih Tryd.func22 (by kernel_rfl) rfl h
def ir_laws_szKey : C := .sq (.rg [.bx 2 (.t 0) (kR 14), .mv 4 (.i 0)]) (.sq (.rg [.fa 5 (.t 2) 14 1 1, .ld 6 (.t 5) (kL kI), .mv 7 (.t 1), .cv (some 8) 22 [((.t 6), .v (kL kI)), ((.t 7), .v kI)], .mv 1 (.t 8)]) (.sq (.sq (.rg [.mv 9 (.t 1), .bi 10 .lss (.t 9) (.i 0)]) (.cd (.t 10) (.sq (.rg [.mv 4 (.i (-1))]) .rt) .skip)) (.sq (.rg [.mv 11 (.t 1), .mv 4 (.t 11)]) .rt)))
noncomputable abbrev T_laws_szKey (nf : Nat) : XT := [e_laws_szIntS nf]
noncomputable def m_laws_szKey (nf : Nat) (a : Key) (left : Int) : Option (Int) := runF (T_laws_szKey nf) nf [.v (kR 14), .v kI] [.t 4 (.v kI)] ir_laws_szKey (a, left, ())
theorem m_laws_szKey_eq (nf : Nat) (a : Key) (left : Int) : m_laws_szKey nf a left = (
  cb (m_laws_szIntS nf a.rows left) fun r8 =>
    br (decide (r8 < (0 : Int))) (
      some (-1 : Int)) (
      some r8)) := by kernel_rfl
noncomputable def e_laws_szKey (nf : Nat) : XE := eF 6 [.v (kR 14), .v kI] [.v kI] (fun t => m_laws_szKey nf t.1 t.2.1)
theorem o_laws_szKey (nf : Nat) : conOK Tryd.prog 6 (e_laws_szKey nf).con := by
  have ih : XT.ok Tryd.prog (T_laws_szKey nf) := by exact ⟨o_laws_szIntS nf, trivial⟩
  refine eF_ok fun t x h => ?_
  obtain ⟨a, left, _⟩ := t
  exact runF_ok (N := 12) ih Tryd.func6 (by kernel_rfl) rfl h
def c19_laws_toIntS : C := .sq (.rg [.mv 21 (.t 3), .mv 2 (.t 21)]) .rt
def c9_laws_toIntS : C := .sq (.sq (.rg [.mv 8 (.t 4), .mv 9 (.t 0), .ln 10 false (.t 9), .bi 11 .lss (.t 8) (.t 10)]) (.cd (.t 11) .skip (.ex 0))) (.sq (.bk 1 (.rg [.mv 14 (.t 3), .mv 15 (.t 4), .mv 16 (.t 0), .mv 17 (.t 4), .ia 18 (.t 16) (.t 17) kI, .ld 19 (.t 18) kI, .ia 20 (.t 14) (.t 15) kI, .st (.t 20) (.t 19) kI])) (.rg [.mv 12 (.t 4), .bi 13 .add (.t 12) (.i 1), .mv 4 (.t 13)]))
def ir_laws_toIntS : C := .sq (.rg [.mv 2 (.nl kI)]) (.sq (.rg [.mv 5 (.t 0), .ln 6 false (.t 5), .mk 7 true kI (.t 6), .mv 3 (.t 7)]) (.sq (.sq (.rg [.mv 4 (.i 0)]) (.bk 0 (.lk [0, 3, 4] [[7]] c9_laws_toIntS))) c19_laws_toIntS))
noncomputable abbrev T_laws_toIntS (nf : Nat) : XT := []
noncomputable def m_laws_toIntS (nf : Nat) (a : List Int) : Option (List Int) := runF (T_laws_toIntS nf) nf [.v (kL kI)] [.t 2 (.o (kL kI))] ir_laws_toIntS (a, ())
noncomputable def X_laws_toIntS {R : Type} (nf : Nat) : C → Env → (Xt → Env → Option R) → Option R := xc (R := R) (T_laws_toIntS nf).S nf
noncomputable def l8_laws_toIntS (nf : Nat) (m8 : Nat) (a : List Int) (x4_8 : Int) (y7_8 : List Int) : Option (List Int) := xit [0, 3, 4] [[7]] (X_laws_toIntS nf c9_laws_toIntS) (qB 0 (qS (X_laws_toIntS nf c19_laws_toIntS) (KF [.t 2 (.o (kL kI))]))) m8 ⟨[(0, .v (kL kI) a), (3, .sl [7]), (4, .v kI x4_8)], [([7], .row true false kI y7_8)]⟩
theorem l8_laws_toIntS_eq (nf : Nat) (m8 : Nat) (a : List Int) (x4_8 : Int) (y7_8 : List Int) : l8_laws_toIntS nf (m8 + 1) a x4_8 y7_8 = (
  br (decide (x4_8 < (List.length a : Int))) (
    gg (0 ≤ x4_8 ∧ x4_8 < (List.length a : Int)) <|
      gg (0 ≤ x4_8 ∧ x4_8 < (List.length y7_8 : Int)) <|
        gg (0 ≤ x4_8 ∧ x4_8 < (List.length y7_8 : Int)) <|
          mark (l8_laws_toIntS nf m8 a (w64 (x4_8 + (1 : Int))) (List.set y7_8 (Int.toNat x4_8) (gt a x4_8 (0 : Int))))) (
    some y7_8)) := by kernel_rfl
theorem m_laws_toIntS_eq (nf : Nat) (a : List Int) : m_laws_toIntS nf a = (
  gg (0 ≤ (List.length a : Int) ∧ (List.length a : Int) ≤ 2147483647) <|
    mark (l8_laws_toIntS nf nf a (0 : Int) (List.replicate (Int.toNat (List.length a : Int)) (0 : Int)))) := by kernel_rfl
noncomputable def e_laws_toIntS (nf : Nat) : XE := eF 24 [.v (kL kI)] [.o (kL kI)] (fun t => m_laws_toIntS nf t.1)
theorem o_laws_toIntS (nf : Nat) : conOK Tryd.prog 24 (e_laws_toIntS nf).con := by
  have ih : XT.ok Tryd.prog (T_laws_toIntS nf) := by exact trivial
  refine eF_ok fun t x h => ?_
  obtain ⟨a, _⟩ := t
  exact runF_ok (N := 22) ih Tryd.func24 (by kernel_rfl) rfl h
def ir_laws_toKey : C := .sq (.rg [.bx 1 (.t 0) (kR 14), .al 2 (kR 14)]) (.sq (.rg [.al 3 (kR 14)]) (.sq (.rg [.fa 4 (.t 1) 14 0 0, .ld 5 (.t 4) kI, .fa 6 (.t 3) 14 0 0, .st (.t 6) (.t 5) kI]) (.sq (.rg [.fa 7 (.t 1) 14 1 1, .ld 8 (.t 7) (kL kI), .ca (some 9) 24 [((.t 8), .v (kL kI))], .fa 10 (.t 3) 14 1 1, .st (.t 10) (.t 9) (kL kI)]) (.sq (.rg [.ld 11 (.t 3) (kR 14), .st (.t 2) (.t 11) (kR 14)]) .rt))))
noncomputable abbrev T_laws_toKey (nf : Nat) : XT := [e_laws_toIntS nf]
noncomputable def m_laws_toKey (nf : Nat) (a : Key) : Option (Key) := runF (T_laws_toKey nf) nf [.v (kR 14)] [.c 2 (.o (kR 14))] ir_laws_toKey (a, ())
theorem m_laws_toKey_eq (nf : Nat) (a : Key) : m_laws_toKey nf a = (
  cb (m_laws_toIntS nf a.rows) fun r9 =>
    some (Key.mk a.tag r9)) := by kernel_rfl
noncomputable def e_laws_toKey (nf : Nat) : XE := eF 8 [.v (kR 14)] [.o (kR 14)] (fun t => m_laws_toKey nf t.1)
theorem o_laws_toKey (nf : Nat) : conOK Tryd.prog 8 (e_laws_toKey nf).con := by
  have ih : XT.ok Tryd.prog (T_laws_toKey nf) := by exact ⟨o_laws_toIntS nf, trivial⟩
  refine eF_ok fun t x h => ?_
  obtain ⟨a, _⟩ := t
  exact runF_ok (N := 12) ih Tryd.func8 (by kernel_rfl) rfl h
def c31_laws_eqIntS : C := .sq (.rg [.mv 4 (.b true)]) .rt
def c15_laws_eqIntS : C := .sq (.sq (.rg [.mv 11 (.t 5), .mv 12 (.t 0), .ln 13 false (.t 12), .bi 14 .lss (.t 11) (.t 13)]) (.cd (.t 14) .skip (.ex 0))) (.sq (.bk 1 (.sq (.dr [] [.mv 17 (.t 0), .mv 18 (.t 5), .ia 19 (.t 17) (.t 18) kI, .ld 20 (.t 19) kI, .mv 21 (.t 1), .mv 22 (.t 5), .ia 23 (.t 21) (.t 22) kI, .ld 24 (.t 23) kI] [.bi 25 .neq (.t 20) (.t 24)]) (.cd (.t 25) (.sq (.rg [.mv 4 (.b false)]) .rt) .skip))) (.rg [.mv 15 (.t 5), .bi 16 .add (.t 15) (.i 1), .mv 5 (.t 16)]))
def ir_laws_eqIntS : C := .sq (.rg [.mv 4 (.b false)]) (.sq (.sq (.rg [.mv 6 (.t 0), .ln 7 false (.t 6), .mv 8 (.t 1), .ln 9 false (.t 8), .bi 10 .neq (.t 7) (.t 9)]) (.cd (.t 10) (.sq (.rg [.mv 4 (.b false)]) .rt) .skip)) (.sq (.sq (.rg [.mv 5 (.i 0)]) (.bk 0 (.lk [0, 1, 5] [] c15_laws_eqIntS))) c31_laws_eqIntS))
noncomputable abbrev T_laws_eqIntS (nf : Nat) : XT := []
noncomputable def m_laws_eqIntS (nf : Nat) (a : List Int) (b : List Int) : Option (Bool) := runF (T_laws_eqIntS nf) nf [.v (kL kI), .v (kL kI)] [.t 4 (.v .bool)] ir_laws_eqIntS (a, b, ())
noncomputable def X_laws_eqIntS {R : Type} (nf : Nat) : C → Env → (Xt → Env → Option R) → Option R := xc (R := R) (T_laws_eqIntS nf).S nf
noncomputable def l14_laws_eqIntS (nf : Nat) (m14 : Nat) (a : List Int) (b : List Int) (x5_14 : Int) : Option (Bool) := xit [0, 1, 5] [] (X_laws_eqIntS nf c15_laws_eqIntS) (qB 0 (qS (X_laws_eqIntS nf c31_laws_eqIntS) (KF [.t 4 (.v .bool)]))) m14 ⟨[(0, .v (kL kI) a), (1, .v (kL kI) b), (5, .v kI x5_14)], []⟩
theorem l14_laws_eqIntS_eq (nf : Nat) (m14 : Nat) (a : List Int) (b : List Int) (x5_14 : Int) : l14_laws_eqIntS nf (m14 + 1) a b x5_14 = (
  br (decide (x5_14 < (List.length a : Int))) (
    gg (0 ≤ x5_14 ∧ x5_14 < (List.length a : Int)) <|
      gg (0 ≤ x5_14 ∧ x5_14 < (List.length b : Int)) <|
        br (!((gt a x5_14 (0 : Int)) == (gt b x5_14 (0 : Int)))) (
          some false) (
          mark (l14_laws_eqIntS nf m14 a b (w64 (x5_14 + (1 : Int)))))) (
    some true)) := by kernel_rfl
theorem m_laws_eqIntS_eq (nf : Nat) (a : List Int) (b : List Int) : m_laws_eqIntS nf a b = (
  br (!((List.length a : Int) == (List.length b : Int))) (
    some false) (
    mark (l14_laws_eqIntS nf nf a b (0 : Int)))) := by kernel_rfl
noncomputable def e_laws_eqIntS (nf : Nat) : XE := eF 26 [.v (kL kI), .v (kL kI)] [.v .bool] (fun t => m_laws_eqIntS nf t.1 t.2.1)
theorem o_laws_eqIntS (nf : Nat) : conOK Tryd.prog 26 (e_laws_eqIntS nf).con := by
  have ih : XT.ok Tryd.prog (T_laws_eqIntS nf) := by exact trivial
  refine eF_ok fun t x h => ?_
  obtain ⟨a, b, _⟩ := t
  exact runF_ok (N := 26) ih Tryd.func26 (by kernel_rfl) rfl h
def ir_laws_eqKey : C := .sq (.rg [.bx 2 (.t 0) (kR 14), .bx 3 (.t 1) (kR 14), .mv 4 (.b false)]) (.sq (.sq (.rg [.fa 5 (.t 2) 14 0 0, .ld 6 (.t 5) kI, .fa 7 (.t 3) 14 0 0, .ld 8 (.t 7) kI, .bi 9 .neq (.t 6) (.t 8)]) (.cd (.t 9) (.sq (.rg [.mv 4 (.b false)]) .rt) .skip)) (.sq (.sq (.rg [.fa 10 (.t 2) 14 1 1, .ld 11 (.t 10) (kL kI), .fa 12 (.t 3) 14 1 1, .ld 13 (.t 12) (kL kI), .cv (some 14) 26 [((.t 11), .v (kL kI)), ((.t 13), .v (kL kI))], .un 15 .not (.t 14)]) (.cd (.t 15) (.sq (.rg [.mv 4 (.b false)]) .rt) .skip)) (.sq (.rg [.mv 4 (.b true)]) .rt)))
noncomputable abbrev T_laws_eqKey (nf : Nat) : XT := [e_laws_eqIntS nf]
noncomputable def m_laws_eqKey (nf : Nat) (a : Key) (b : Key) : Option (Bool) := runF (T_laws_eqKey nf) nf [.v (kR 14), .v (kR 14)] [.t 4 (.v .bool)] ir_laws_eqKey (a, b, ())
theorem m_laws_eqKey_eq (nf : Nat) (a : Key) (b : Key) : m_laws_eqKey nf a b = (
  br (!(a.tag == b.tag)) (
    some false) (
    cb (m_laws_eqIntS nf a.rows b.rows) fun r14 =>
      br (!r14) (
        some false) (
        some true))) := by kernel_rfl
noncomputable def e_laws_eqKey (nf : Nat) : XE := eF 10 [.v (kR 14), .v (kR 14)] [.v .bool] (fun t => m_laws_eqKey nf t.1 t.2.1)
theorem o_laws_eqKey (nf : Nat) : conOK Tryd.prog 10 (e_laws_eqKey nf).con := by
  have ih : XT.ok Tryd.prog (T_laws_eqKey nf) := by exact ⟨o_laws_eqIntS nf, trivial⟩
  refine eF_ok fun t x h => ?_
  obtain ⟨a, b, _⟩ := t
  exact runF_ok (N := 16) ih Tryd.func10 (by kernel_rfl) rfl h
def c35_laws_szStringS : C := .sq (.rg [.mv 27 (.t 1), .mv 4 (.t 27)]) .rt
def c17_laws_szStringS : C := .sq (.sq (.rg [.mv 12 (.t 5), .mv 13 (.t 0), .ln 14 false (.t 13), .bi 15 .lss (.t 12) (.t 14)]) (.cd (.t 15) .skip (.ex 0))) (.sq (.bk 1 (.sq (.rg [.mv 18 (.t 1), .mv 19 (.t 0), .mv 20 (.t 5), .ia 21 (.t 19) (.t 20) kS, .ld 22 (.t 21) kS, .ln 23 true (.t 22), .bi 24 .sub (.t 18) (.t 23), .mv 1 (.t 24)]) (.sq (.rg [.mv 25 (.t 1), .bi 26 .lss (.t 25) (.i 0)]) (.cd (.t 26) (.sq (.rg [.mv 4 (.i (-1))]) .rt) .skip)))) (.rg [.mv 16 (.t 5), .bi 17 .add (.t 16) (.i 1), .mv 5 (.t 17)]))
def ir_laws_szStringS : C := .sq (.rg [.mv 4 (.i 0)]) (.sq (.rg [.mv 6 (.t 1), .mv 7 (.t 0), .ln 8 false (.t 7), .bi 9 .sub (.t 6) (.t 8), .mv 1 (.t 9)]) (.sq (.sq (.rg [.mv 10 (.t 1), .bi 11 .lss (.t 10) (.i 0)]) (.cd (.t 11) (.sq (.rg [.mv 4 (.i (-1))]) .rt) .skip)) (.sq (.sq (.rg [.mv 5 (.i 0)]) (.bk 0 (.lk [0, 1, 5] [] c17_laws_szStringS))) c35_laws_szStringS)))
noncomputable abbrev T_laws_szStringS (nf : Nat) : XT := []
noncomputable def m_laws_szStringS (nf : Nat) (a : List Str) (left : Int) : Option (Int) := runF (T_laws_szStringS nf) nf [.v (kL kS), .v kI] [.t 4 (.v kI)] ir_laws_szStringS (a, left, ())
noncomputable def X_laws_szStringS {R : Type} (nf : Nat) : C → Env → (Xt → Env → Option R) → Option R := xc (R := R) (T_laws_szStringS nf).S nf
noncomputable def l16_laws_szStringS (nf : Nat) (m16 : Nat) (a : List Str) (x1_16 : Int) (x5_16 : Int) : Option (Int) := xit [0, 1, 5] [] (X_laws_szStringS nf c17_laws_szStringS) (qB 0 (qS (X_laws_szStringS nf c35_laws_szStringS) (KF [.t 4 (.v kI)]))) m16 ⟨[(0, .v (kL kS) a), (1, .v kI x1_16), (5, .v kI x5_16)], []⟩
theorem l16_laws_szStringS_eq (nf : Nat) (m16 : Nat) (a : List Str) (x1_16 : Int) (x5_16 : Int) : l16_laws_szStringS nf (m16 + 1) a x1_16 x5_16 = (
  br (decide (x5_16 < (List.length a : Int))) (
    gg (0 ≤ x5_16 ∧ x5_16 < (List.length a : Int)) <|
      br (decide ((w64 (x1_16 - (List.length (gt a x5_16 ([] : Str)) : Int))) < (0 : Int))) (
        some (-1 : Int)) (
        mark (l16_laws_szStringS nf m16 a (w64 (x1_16 - (List.length (gt a x5_16 ([] : Str)) : Int))) (w64 (x5_16 + (1 : Int)))))) (
    some x1_16)) := by kernel_rfl
theorem m_laws_szStringS_eq (nf : Nat) (a : List Str) (left : Int) : m_laws_szStringS nf a left = (
  br (decide ((w64 (left - (List.length a : Int))) < (0 : Int))) (
    some (-1 : Int)) (
    mark (l16_laws_szStringS nf nf a (w64 (left - (List.length a : Int))) (0 : Int)))) := by kernel_rfl
noncomputable def e_laws_szStringS (nf : Nat) : XE := eF 70 [.v (kL kS), .v kI] [.v kI] (fun t => m_laws_szStringS nf t.1 t.2.1)
theorem o_laws_szStringS (nf : Nat) : conOK Tryd.prog 70 (e_laws_szStringS nf).con := by
  have ih : XT.ok Tryd.prog (T_laws_szStringS nf) := by exact trivial
  refine eF_ok fun t x h => ?_
  obtain ⟨a, left, _⟩ := t
  exact runF_ok (N := 28) ih Tryd.func70 (by kernel_rfl) rfl h
def c35_laws_szValueS : C := .sq (.rg [.mv 26 (.t 1), .mv 4 (.t 26)]) .rt
def c17_laws_szValueS : C := .sq (.sq (.rg [.mv 12 (.t 5), .mv 13 (.t 0), .ln 14 false (.t 13), .bi 15 .lss (.t 12) (.t 14)]) (.cd (.t 15) .skip (.ex 0))) (.sq (.bk 1 (.sq (.rg [.mv 18 (.t 0), .mv 19 (.t 5), .ia 20 (.t 18) (.t 19) (kR 1), .ld 21 (.t 20) (kR 1), .mv 22 (.t 1), .cv (some 23) 62 [((.t 21), .v (kR 1)), ((.t 22), .v kI)], .mv 1 (.t 23)]) (.sq (.rg [.mv 24 (.t 1), .bi 25 .lss (.t 24) (.i 0)]) (.cd (.t 25) (.sq (.rg [.mv 4 (.i (-1))]) .rt) .skip)))) (.rg [.mv 16 (.t 5), .bi 17 .add (.t 16) (.i 1), .mv 5 (.t 17)]))
def ir_laws_szValueS : C := .sq (.rg [.mv 4 (.i 0)]) (.sq (.rg [.mv 6 (.t 1), .mv 7 (.t 0), .ln 8 false (.t 7), .bi 9 .sub (.t 6) (.t 8), .mv 1 (.t 9)]) (.sq (.sq (.rg [.mv 10 (.t 1), .bi 11 .lss (.t 10) (.i 0)]) (.cd (.t 11) (.sq (.rg [.mv 4 (.i (-1))]) .rt) .skip)) (.sq (.sq (.rg [.mv 5 (.i 0)]) (.bk 0 (.lk [0, 1, 5] [] c17_laws_szValueS))) c35_laws_szValueS)))
def ir_laws_szValue : C := .sq (.rg [.bx 2 (.t 0) (kR 1), .mv 4 (.i 0)]) (.sq (.rg [.fa 5 (.t 2) 1 2 2, .ld 6 (.t 5) (kL kS), .mv 7 (.t 1), .cv (some 8) 70 [((.t 6), .v (kL kS)), ((.t 7), .v kI)], .mv 1 (.t 8)]) (.sq (.sq (.rg [.mv 9 (.t 1), .bi 10 .lss (.t 9) (.i 0)]) (.cd (.t 10) (.sq (.rg [.mv 4 (.i (-1))]) .rt) .skip)) (.sq (.rg [.fa 11 (.t 2) 1 3 3, .ld 12 (.t 11) (kL (kR 1)), .mv 13 (.t 1), .cv (some 14) 53 [((.t 12), .v (kL (kR 1))), ((.t 13), .v kI)], .mv 1 (.t 14)]) (.sq (.sq (.rg [.mv 15 (.t 1), .bi 16 .lss (.t 15) (.i 0)]) (.cd (.t 16) (.sq (.rg [.mv 4 (.i (-1))]) .rt) .skip)) (.sq (.rg [.mv 17 (.t 1), .mv 4 (.t 17)]) .rt)))))
noncomputable def B_laws_szValueS (nf : Nat) : XT := [e_laws_szStringS nf]
noncomputable def G_laws_szValueS (nf : Nat) : Nat → XT
  | 0 => []
  | kf + 1 => [eF 53 [.v (kL (kR 1)), .v kI] [.v kI] (fun t => (fun (a : List Val) (left : Int) => runF (G_laws_szValueS nf kf ++ B_laws_szValueS nf) nf [.v (kL (kR 1)), .v kI] [.t 4 (.v kI)] ir_laws_szValueS (a, left, ())) t.1 t.2.1),
    eF 62 [.v (kR 1), .v kI] [.v kI] (fun t => (fun (a : Val) (left : Int) => runF (G_laws_szValueS nf kf ++ B_laws_szValueS nf) nf [.v (kR 1), .v kI] [.t 4 (.v kI)] ir_laws_szValue (a, left, ())) t.1 t.2.1)]
noncomputable abbrev T_laws_szValueS (nf kf : Nat) : XT := G_laws_szValueS nf kf ++ B_laws_szValueS nf
noncomputable abbrev T_laws_szValue (nf kf : Nat) : XT := G_laws_szValueS nf kf ++ B_laws_szValueS nf
noncomputable def m_laws_szValueS (nf kf : Nat) (a : List Val) (left : Int) : Option (Int) := runF (T_laws_szValueS nf kf) nf [.v (kL (kR 1)), .v kI] [.t 4 (.v kI)] ir_laws_szValueS (a, left, ())
noncomputable def X_laws_szValueS {R : Type} (nf kf : Nat) : C → Env → (Xt → Env → Option R) → Option R := xc (R := R) (T_laws_szValueS nf kf).S nf
noncomputable def m_laws_szValue (nf kf : Nat) (a : Val) (left : Int) : Option (Int) := runF (T_laws_szValue nf kf) nf [.v (kR 1), .v kI] [.t 4 (.v kI)] ir_laws_szValue (a, left, ())
noncomputable def l16_laws_szValueS (nf kf : Nat) (m16 : Nat) (a : List Val) (x1_16 : Int) (x5_16 : Int) : Option (Int) := xit [0, 1, 5] [] (X_laws_szValueS nf kf c17_laws_szValueS) (qB 0 (qS (X_laws_szValueS nf kf c35_laws_szValueS) (KF [.t 4 (.v kI)]))) m16 ⟨[(0, .v (kL (kR 1)) a), (1, .v kI x1_16), (5, .v kI x5_16)], []⟩
theorem l16_laws_szValueS_eq (nf kf : Nat) (m16 : Nat) (a : List Val) (x1_16 : Int) (x5_16 : Int) : l16_laws_szValueS nf (kf + 1) (m16 + 1) a x1_16 x5_16 = (
  br (decide (x5_16 < (List.length a : Int))) (
    gg (0 ≤ x5_16 ∧ x5_16 < (List.length a : Int)) <|
      cb (m_laws_szValue nf kf (gt a x5_16 Val.zero) x1_16) fun r23 =>
        br (decide (r23 < (0 : Int))) (
          some (-1 : Int)) (
          mark (l16_laws_szValueS nf (kf + 1) m16 a r23 (w64 (x5_16 + (1 : Int)))))) (
    some x1_16)) := by kernel_rfl
theorem m_laws_szValueS_eq (nf kf : Nat) (a : List Val) (left : Int) : m_laws_szValueS nf (kf + 1) a left = (
  br (decide ((w64 (left - (List.length a : Int))) < (0 : Int))) (
    some (-1 : Int)) (
    mark (l16_laws_szValueS nf (kf + 1) nf a (w64 (left - (List.length a : Int))) (0 : Int)))) := by kernel_rfl
noncomputable def e_laws_szValueS (nf : Nat) : XE := eF 53 [.v (kL (kR 1)), .v kI] [.v kI] (fun t => m_laws_szValueS nf nf t.1 t.2.1)
theorem m_laws_szValue_eq (nf kf : Nat) (a : Val) (left : Int) : m_laws_szValue nf (kf + 1) a left = (
  cb (m_laws_szStringS nf a.labels left) fun r8 =>
    br (decide (r8 < (0 : Int))) (
      some (-1 : Int)) (
      cb (m_laws_szValueS nf kf a.args r8) fun r14 =>
        br (decide (r14 < (0 : Int))) (
          some (-1 : Int)) (
          some r14))) := by kernel_rfl
theorem gok_laws_szValueS (nf : Nat) : ∀ kf : Nat, XT.ok Tryd.prog (G_laws_szValueS nf kf ++ B_laws_szValueS nf)
  | 0 => by exact ⟨o_laws_szStringS nf, trivial⟩
  | kf + 1 => by
    have ih := gok_laws_szValueS nf kf
    refine ⟨?_, ?_, (by exact ⟨o_laws_szStringS nf, trivial⟩)⟩
    · refine eF_ok fun t x h => ?_
      obtain ⟨a, left, _⟩ := t
      exact runF_ok (N := 27) ih Tryd.func53 (by kernel_rfl) rfl h
    · refine eF_ok fun t x h => ?_
      obtain ⟨a, left, _⟩ := t
      exact runF_ok (N := 18) ih Tryd.func62 (by kernel_rfl) rfl h
theorem o_laws_szValueS (nf : Nat) : conOK Tryd.prog 53 (e_laws_szValueS nf).con := by
  have ih := gok_laws_szValueS nf nf
  refine eF_ok fun t x h => ?_
  obtain ⟨a, left, _⟩ := t
  exact runF_ok (N := 27) ih Tryd.func53 (by kernel_rfl) rfl h
def ir_laws_szFlatRow : C := .sq (.rg [.bx 2 (.t 0) (kR 15), .mv 4 (.i 0)]) (.sq (.rg [.fa 5 (.t 2) 15 0 0, .ld 6 (.t 5) (kR 14), .mv 7 (.t 1), .cv (some 8) 6 [((.t 6), .v (kR 14)), ((.t 7), .v kI)], .mv 1 (.t 8)]) (.sq (.sq (.rg [.mv 9 (.t 1), .bi 10 .lss (.t 9) (.i 0)]) (.cd (.t 10) (.sq (.rg [.mv 4 (.i (-1))]) .rt) .skip)) (.sq (.rg [.fa 11 (.t 2) 15 1 2, .ld 12 (.t 11) (kR 14), .mv 13 (.t 1), .cv (some 14) 6 [((.t 12), .v (kR 14)), ((.t 13), .v kI)], .mv 1 (.t 14)]) (.sq (.sq (.rg [.mv 15 (.t 1), .bi 16 .lss (.t 15) (.i 0)]) (.cd (.t 16) (.sq (.rg [.mv 4 (.i (-1))]) .rt) .skip)) (.sq (.rg [.fa 17 (.t 2) 15 2 4, .ld 18 (.t 17) (kL (kR 1)), .mv 19 (.t 1), .cv (some 20) 53 [((.t 18), .v (kL (kR 1))), ((.t 19), .v kI)], .mv 1 (.t 20)]) (.sq (.sq (.rg [.mv 21 (.t 1), .bi 22 .lss (.t 21) (.i 0)]) (.cd (.t 22) (.sq (.rg [.mv 4 (.i (-1))]) .rt) .skip)) (.sq (.rg [.mv 23 (.t 1), .mv 4 (.t 23)]) .rt)))))))
noncomputable abbrev T_laws_szFlatRow (nf : Nat) : XT := [e_laws_szKey nf, e_laws_szValueS nf]
noncomputable def m_laws_szFlatRow (nf : Nat) (a : FRow) (left : Int) : Option (Int) := runF (T_laws_szFlatRow nf) nf [.v (kR 15), .v kI] [.t 4 (.v kI)] ir_laws_szFlatRow (a, left, ())
theorem m_laws_szFlatRow_eq (nf : Nat) (a : FRow) (left : Int) : m_laws_szFlatRow nf a left = (
  cb (m_laws_szKey nf a.outer left) fun r8 =>
    br (decide (r8 < (0 : Int))) (
      some (-1 : Int)) (
      cb (m_laws_szKey nf a.own r8) fun r14 =>
        br (decide (r14 < (0 : Int))) (
          some (-1 : Int)) (
          cb (m_laws_szValueS nf nf a.cols r14) fun r20 =>
            br (decide (r20 < (0 : Int))) (
              some (-1 : Int)) (
              some r20)))) := by kernel_rfl
noncomputable def e_laws_szFlatRow (nf : Nat) : XE := eF 41 [.v (kR 15), .v kI] [.v kI] (fun t => m_laws_szFlatRow nf t.1 t.2.1)
theorem o_laws_szFlatRow (nf : Nat) : conOK Tryd.prog 41 (e_laws_szFlatRow nf).con := by
  have ih : XT.ok Tryd.prog (T_laws_szFlatRow nf) := by exact ⟨o_laws_szKey nf, o_laws_szValueS nf, trivial⟩
  refine eF_ok fun t x h => ?_
  obtain ⟨a, left, _⟩ := t
  exact runF_ok (N := 24) ih Tryd.func41 (by kernel_rfl) rfl h
def c35_laws_szFlatRowS : C := .sq (.rg [.mv 26 (.t 1), .mv 4 (.t 26)]) .rt
def c17_laws_szFlatRowS : C := .sq (.sq (.rg [.mv 12 (.t 5), .mv 13 (.t 0), .ln 14 false (.t 13), .bi 15 .lss (.t 12) (.t 14)]) (.cd (.t 15) .skip (.ex 0))) (.sq (.bk 1 (.sq (.rg [.mv 18 (.t 0), .mv 19 (.t 5), .ia 20 (.t 18) (.t 19) (kR 15), .ld 21 (.t 20) (kR 15), .mv 22 (.t 1), .cv (some 23) 41 [((.t 21), .v (kR 15)), ((.t 22), .v kI)], .mv 1 (.t 23)]) (.sq (.rg [.mv 24 (.t 1), .bi 25 .lss (.t 24) (.i 0)]) (.cd (.t 25) (.sq (.rg [.mv 4 (.i (-1))]) .rt) .skip)))) (.rg [.mv 16 (.t 5), .bi 17 .add (.t 16) (.i 1), .mv 5 (.t 17)]))
def ir_laws_szFlatRowS : C := .sq (.rg [.mv 4 (.i 0)]) (.sq (.rg [.mv 6 (.t 1), .mv 7 (.t 0), .ln 8 false (.t 7), .bi 9 .sub (.t 6) (.t 8), .mv 1 (.t 9)]) (.sq (.sq (.rg [.mv 10 (.t 1), .bi 11 .lss (.t 10) (.i 0)]) (.cd (.t 11) (.sq (.rg [.mv 4 (.i (-1))]) .rt) .skip)) (.sq (.sq (.rg [.mv 5 (.i 0)]) (.bk 0 (.lk [0, 1, 5] [] c17_laws_szFlatRowS))) c35_laws_szFlatRowS)))
noncomputable abbrev T_laws_szFlatRowS (nf : Nat) : XT := [e_laws_szFlatRow nf]
noncomputable def m_laws_szFlatRowS (nf : Nat) (a : List FRow) (left : Int) : Option (Int) := runF (T_laws_szFlatRowS nf) nf [.v (kL (kR 15)), .v kI] [.t 4 (.v kI)] ir_laws_szFlatRowS (a, left, ())
noncomputable def X_laws_szFlatRowS {R : Type} (nf : Nat) : C → Env → (Xt → Env → Option R) → Option R := xc (R := R) (T_laws_szFlatRowS nf).S nf
noncomputable def l16_laws_szFlatRowS (nf : Nat) (m16 : Nat) (a : List FRow) (x1_16 : Int) (x5_16 : Int) : Option (Int) := xit [0, 1, 5] [] (X_laws_szFlatRowS nf c17_laws_szFlatRowS) (qB 0 (qS (X_laws_szFlatRowS nf c35_laws_szFlatRowS) (KF [.t 4 (.v kI)]))) m16 ⟨[(0, .v (kL (kR 15)) a), (1, .v kI x1_16), (5, .v kI x5_16)], []⟩
theorem l16_laws_szFlatRowS_eq (nf : Nat) (m16 : Nat) (a : List FRow) (x1_16 : Int) (x5_16 : Int) : l16_laws_szFlatRowS nf (m16 + 1) a x1_16 x5_16 = (
  br (decide (x5_16 < (List.length a : Int))) (
    gg (0 ≤ x5_16 ∧ x5_16 < (List.length a : Int)) <|
      cb (m_laws_szFlatRow nf (gt a x5_16 FRow.zero) x1_16) fun r23 =>
        br (decide (r23 < (0 : Int))) (
          some (-1 : Int)) (
          mark (l16_laws_szFlatRowS nf m16 a r23 (w64 (x5_16 + (1 : Int)))))) (
    some x1_16)) := by kernel_rfl
theorem m_laws_szFlatRowS_eq (nf : Nat) (a : List FRow) (left : Int) : m_laws_szFlatRowS nf a left = (
  br (decide ((w64 (left - (List.length a : Int))) < (0 : Int))) (
    some (-1 : Int)) (
    mark (l16_laws_szFlatRowS nf nf a (w64 (left - (List.length a : Int))) (0 : Int)))) := by kernel_rfl
noncomputable def e_laws_szFlatRowS (nf : Nat) : XE := eF 27 [.v (kL (kR 15)), .v kI] [.v kI] (fun t => m_laws_szFlatRowS nf t.1 t.2.1)
theorem o_laws_szFlatRowS (nf : Nat) : conOK Tryd.prog 27 (e_laws_szFlatRowS nf).con := by
  have ih : XT.ok Tryd.prog (T_laws_szFlatRowS nf) := by exact ⟨o_laws_szFlatRow nf, trivial⟩
  refine eF_ok fun t x h => ?_
  obtain ⟨a, left, _⟩ := t
  exact runF_ok (N := 27) ih Tryd.func27 (by kernel_rfl) rfl h
def c35_laws_szFlatRowSS : C := .sq (.rg [.mv 26 (.t 1), .mv 4 (.t 26)]) .rt
def c17_laws_szFlatRowSS : C := .sq (.sq (.rg [.mv 12 (.t 5), .mv 13 (.t 0), .ln 14 false (.t 13), .bi 15 .lss (.t 12) (.t 14)]) (.cd (.t 15) .skip (.ex 0))) (.sq (.bk 1 (.sq (.rg [.mv 18 (.t 0), .mv 19 (.t 5), .ia 20 (.t 18) (.t 19) (kL (kR 15)), .ld 21 (.t 20) (kL (kR 15)), .mv 22 (.t 1), .cv (some 23) 27 [((.t 21), .v (kL (kR 15))), ((.t 22), .v kI)], .mv 1 (.t 23)]) (.sq (.rg [.mv 24 (.t 1), .bi 25 .lss (.t 24) (.i 0)]) (.cd (.t 25) (.sq (.rg [.mv 4 (.i (-1))]) .rt) .skip)))) (.rg [.mv 16 (.t 5), .bi 17 .add (.t 16) (.i 1), .mv 5 (.t 17)]))
def ir_laws_szFlatRowSS : C := .sq (.rg [.mv 4 (.i 0)]) (.sq (.rg [.mv 6 (.t 1), .mv 7 (.t 0), .ln 8 false (.t 7), .bi 9 .sub (.t 6) (.t 8), .mv 1 (.t 9)]) (.sq (.sq (.rg [.mv 10 (.t 1), .bi 11 .lss (.t 10) (.i 0)]) (.cd (.t 11) (.sq (.rg [.mv 4 (.i (-1))]) .rt) .skip)) (.sq (.sq (.rg [.mv 5 (.i 0)]) (.bk 0 (.lk [0, 1, 5] [] c17_laws_szFlatRowSS))) c35_laws_szFlatRowSS)))
noncomputable abbrev T_laws_szFlatRowSS (nf : Nat) : XT := [e_laws_szFlatRowS nf]
noncomputable def m_laws_szFlatRowSS (nf : Nat) (a : List (List FRow)) (left : Int) : Option (Int) := runF (T_laws_szFlatRowSS nf) nf [.v (kL (kL (kR 15))), .v kI] [.t 4 (.v kI)] ir_laws_szFlatRowSS (a, left, ())
noncomputable def X_laws_szFlatRowSS {R : Type} (nf : Nat) : C → Env → (Xt → Env → Option R) → Option R := xc (R := R) (T_laws_szFlatRowSS nf).S nf
noncomputable def l16_laws_szFlatRowSS (nf : Nat) (m16 : Nat) (a : List (List FRow)) (x1_16 : Int) (x5_16 : Int) : Option (Int) := xit [0, 1, 5] [] (X_laws_szFlatRowSS nf c17_laws_szFlatRowSS) (qB 0 (qS (X_laws_szFlatRowSS nf c35_laws_szFlatRowSS) (KF [.t 4 (.v kI)]))) m16 ⟨[(0, .v (kL (kL (kR 15))) a), (1, .v kI x1_16), (5, .v kI x5_16)], []⟩
theorem l16_laws_szFlatRowSS_eq (nf : Nat) (m16 : Nat) (a : List (List FRow)) (x1_16 : Int) (x5_16 : Int) : l16_laws_szFlatRowSS nf (m16 + 1) a x1_16 x5_16 = (
  br (decide (x5_16 < (List.length a : Int))) (
    gg (0 ≤ x5_16 ∧ x5_16 < (List.length a : Int)) <|
      cb (m_laws_szFlatRowS nf (gt a x5_16 ([] : List FRow)) x1_16) fun r23 =>
        br (decide (r23 < (0 : Int))) (
          some (-1 : Int)) (
          mark (l16_laws_szFlatRowSS nf m16 a r23 (w64 (x5_16 + (1 : Int)))))) (
    some x1_16)) := by kernel_rfl
theorem m_laws_szFlatRowSS_eq (nf : Nat) (a : List (List FRow)) (left : Int) : m_laws_szFlatRowSS nf a left = (
  br (decide ((w64 (left - (List.length a : Int))) < (0 : Int))) (
    some (-1 : Int)) (
    mark (l16_laws_szFlatRowSS nf nf a (w64 (left - (List.length a : Int))) (0 : Int)))) := by kernel_rfl
noncomputable def e_laws_szFlatRowSS (nf : Nat) : XE := eF 11 [.v (kL (kL (kR 15))), .v kI] [.v kI] (fun t => m_laws_szFlatRowSS nf t.1 t.2.1)
theorem o_laws_szFlatRowSS (nf : Nat) : conOK Tryd.prog 11 (e_laws_szFlatRowSS nf).con := by
  have ih : XT.ok Tryd.prog (T_laws_szFlatRowSS nf) := by exact ⟨o_laws_szFlatRowS nf, trivial⟩
  refine eF_ok fun t x h => ?_
  obtain ⟨a, left, _⟩ := t
  exact runF_ok (N := 27) ih Tryd.func11 (by kernel_rfl) rfl h
def c19_laws_toStringS : C := .sq (.rg [.mv 21 (.t 3), .mv 2 (.t 21)]) .rt
def c9_laws_toStringS : C := .sq (.sq (.rg [.mv 8 (.t 4), .mv 9 (.t 0), .ln 10 false (.t 9), .bi 11 .lss (.t 8) (.t 10)]) (.cd (.t 11) .skip (.ex 0))) (.sq (.bk 1 (.rg [.mv 14 (.t 3), .mv 15 (.t 4), .mv 16 (.t 0), .mv 17 (.t 4), .ia 18 (.t 16) (.t 17) kS, .ld 19 (.t 18) kS, .ia 20 (.t 14) (.t 15) kS, .st (.t 20) (.t 19) kS])) (.rg [.mv 12 (.t 4), .bi 13 .add (.t 12) (.i 1), .mv 4 (.t 13)]))
def ir_laws_toStringS : C := .sq (.rg [.mv 2 (.nl kS)]) (.sq (.rg [.mv 5 (.t 0), .ln 6 false (.t 5), .mk 7 true kS (.t 6), .mv 3 (.t 7)]) (.sq (.sq (.rg [.mv 4 (.i 0)]) (.bk 0 (.lk [0, 3, 4] [[7]] c9_laws_toStringS))) c19_laws_toStringS))
noncomputable abbrev T_laws_toStringS (nf : Nat) : XT := []
noncomputable def m_laws_toStringS (nf : Nat) (a : List Str) : Option (List Str) := runF (T_laws_toStringS nf) nf [.v (kL kS)] [.t 2 (.o (kL kS))] ir_laws_toStringS (a, ())
noncomputable def X_laws_toStringS {R : Type} (nf : Nat) : C → Env → (Xt → Env → Option R) → Option R := xc (R := R) (T_laws_toStringS nf).S nf
noncomputable def l8_laws_toStringS (nf : Nat) (m8 : Nat) (a : List Str) (x4_8 : Int) (y7_8 : List Str) : Option (List Str) := xit [0, 3, 4] [[7]] (X_laws_toStringS nf c9_laws_toStringS) (qB 0 (qS (X_laws_toStringS nf c19_laws_toStringS) (KF [.t 2 (.o (kL kS))]))) m8 ⟨[(0, .v (kL kS) a), (3, .sl [7]), (4, .v kI x4_8)], [([7], .row true false kS y7_8)]⟩
theorem l8_laws_toStringS_eq (nf : Nat) (m8 : Nat) (a : List Str) (x4_8 : Int) (y7_8 : List Str) : l8_laws_toStringS nf (m8 + 1) a x4_8 y7_8 = (
  br (decide (x4_8 < (List.length a : Int))) (
    gg (0 ≤ x4_8 ∧ x4_8 < (List.length a : Int)) <|
      gg (0 ≤ x4_8 ∧ x4_8 < (List.length y7_8 : Int)) <|
        gg (0 ≤ x4_8 ∧ x4_8 < (List.length y7_8 : Int)) <|
          mark (l8_laws_toStringS nf m8 a (w64 (x4_8 + (1 : Int))) (List.set y7_8 (Int.toNat x4_8) (gt a x4_8 ([] : Str))))) (
    some y7_8)) := by kernel_rfl
theorem m_laws_toStringS_eq (nf : Nat) (a : List Str) : m_laws_toStringS nf a = (
  gg (0 ≤ (List.length a : Int) ∧ (List.length a : Int) ≤ 2147483647) <|
    mark (l8_laws_toStringS nf nf a (0 : Int) (List.replicate (Int.toNat (List.length a : Int)) ([] : Str)))) := by kernel_rfl
noncomputable def e_laws_toStringS (nf : Nat) : XE := eF 71 [.v (kL kS)] [.o (kL kS)] (fun t => m_laws_toStringS nf t.1)
theorem o_laws_toStringS (nf : Nat) : conOK Tryd.prog 71 (e_laws_toStringS nf).con := by
  have ih : XT.ok Tryd.prog (T_laws_toStringS nf) := by exact trivial
  refine eF_ok fun t x h => ?_
  obtain ⟨a, _⟩ := t
  exact runF_ok (N := 22) ih Tryd.func71 (by kernel_rfl) rfl h
def c19_laws_toValueS : C := .sq (.rg [.mv 22 (.t 3), .mv 2 (.t 22)]) .rt
def c9_laws_toValueS : C := .sq (.sq (.rg [.mv 8 (.t 4), .mv 9 (.t 0), .ln 10 false (.t 9), .bi 11 .lss (.t 8) (.t 10)]) (.cd (.t 11) .skip (.ex 0))) (.sq (.bk 1 (.rg [.mv 14 (.t 3), .mv 15 (.t 4), .mv 16 (.t 0), .mv 17 (.t 4), .ia 18 (.t 16) (.t 17) (kR 1), .ld 19 (.t 18) (kR 1), .ca (some 20) 63 [((.t 19), .v (kR 1))], .ia 21 (.t 14) (.t 15) (kR 1), .st (.t 21) (.t 20) (kR 1)])) (.rg [.mv 12 (.t 4), .bi 13 .add (.t 12) (.i 1), .mv 4 (.t 13)]))
def ir_laws_toValueS : C := .sq (.rg [.mv 2 (.nl (kR 1))]) (.sq (.rg [.mv 5 (.t 0), .ln 6 false (.t 5), .mk 7 true (kR 1) (.t 6), .mv 3 (.t 7)]) (.sq (.sq (.rg [.mv 4 (.i 0)]) (.bk 0 (.lk [0, 3, 4] [[7]] c9_laws_toValueS))) c19_laws_toValueS))
def ir_laws_toValue : C := .sq (.rg [.bx 1 (.t 0) (kR 1), .al 2 (kR 1)]) (.sq (.rg [.al 3 (kR 1)]) (.sq (.rg [.fa 4 (.t 1) 1 0 0, .ld 5 (.t 4) kI, .fa 6 (.t 3) 1 0 0, .st (.t 6) (.t 5) kI]) (.sq (.rg [.fa 7 (.t 1) 1 1 1, .ld 8 (.t 7) kI, .fa 9 (.t 3) 1 1 1, .st (.t 9) (.t 8) kI]) (.sq (.rg [.fa 10 (.t 1) 1 2 2, .ld 11 (.t 10) (kL kS), .ca (some 12) 71 [((.t 11), .v (kL kS))], .fa 13 (.t 3) 1 2 2, .st (.t 13) (.t 12) (kL kS)]) (.sq (.rg [.fa 14 (.t 1) 1 3 3, .ld 15 (.t 14) (kL (kR 1)), .ca (some 16) 55 [((.t 15), .v (kL (kR 1)))], .fa 17 (.t 3) 1 3 3, .st (.t 17) (.t 16) (kL (kR 1))]) (.sq (.rg [.ld 18 (.t 3) (kR 1), .st (.t 2) (.t 18) (kR 1)]) .rt))))))
noncomputable def B_laws_toValueS (nf : Nat) : XT := [e_laws_toStringS nf]
noncomputable def G_laws_toValueS (nf : Nat) : Nat → XT
  | 0 => []
  | kf + 1 => [eF 55 [.v (kL (kR 1))] [.o (kL (kR 1))] (fun t => (fun (a : List Val) => runF (G_laws_toValueS nf kf ++ B_laws_toValueS nf) nf [.v (kL (kR 1))] [.t 2 (.o (kL (kR 1)))] ir_laws_toValueS (a, ())) t.1),
    eF 63 [.v (kR 1)] [.o (kR 1)] (fun t => (fun (a : Val) => runF (G_laws_toValueS nf kf ++ B_laws_toValueS nf) nf [.v (kR 1)] [.c 2 (.o (kR 1))] ir_laws_toValue (a, ())) t.1)]
noncomputable abbrev T_laws_toValueS (nf kf : Nat) : XT := G_laws_toValueS nf kf ++ B_laws_toValueS nf
noncomputable abbrev T_laws_toValue (nf kf : Nat) : XT := G_laws_toValueS nf kf ++ B_laws_toValueS nf
noncomputable def m_laws_toValueS (nf kf : Nat) (a : List Val) : Option (List Val) := runF (T_laws_toValueS nf kf) nf [.v (kL (kR 1))] [.t 2 (.o (kL (kR 1)))] ir_laws_toValueS (a, ())
noncomputable def X_laws_toValueS {R : Type} (nf kf : Nat) : C → Env → (Xt → Env → Option R) → Option R := xc (R := R) (T_laws_toValueS nf kf).S nf
noncomputable def m_laws_toValue (nf kf : Nat) (a : Val) : Option (Val) := runF (T_laws_toValue nf kf) nf [.v (kR 1)] [.c 2 (.o (kR 1))] ir_laws_toValue (a, ())
noncomputable def l8_laws_toValueS (nf kf : Nat) (m8 : Nat) (a : List Val) (x4_8 : Int) (y7_8 : List Val) : Option (List Val) := xit [0, 3, 4] [[7]] (X_laws_toValueS nf kf c9_laws_toValueS) (qB 0 (qS (X_laws_toValueS nf kf c19_laws_toValueS) (KF [.t 2 (.o (kL (kR 1)))]))) m8 ⟨[(0, .v (kL (kR 1)) a), (3, .sl [7]), (4, .v kI x4_8)], [([7], .row true false (kR 1) y7_8)]⟩
theorem l8_laws_toValueS_eq (nf kf : Nat) (m8 : Nat) (a : List Val) (x4_8 : Int) (y7_8 : List Val) : l8_laws_toValueS nf (kf + 1) (m8 + 1) a x4_8 y7_8 = (
  br (decide (x4_8 < (List.length a : Int))) (
    gg (0 ≤ x4_8 ∧ x4_8 < (List.length a : Int)) <|
      cb (m_laws_toValue nf kf (gt a x4_8 Val.zero)) fun r20 =>
        gg (0 ≤ x4_8 ∧ x4_8 < (List.length y7_8 : Int)) <|
          gg (0 ≤ x4_8 ∧ x4_8 < (List.length y7_8 : Int)) <|
            mark (l8_laws_toValueS nf (kf + 1) m8 a (w64 (x4_8 + (1 : Int))) (List.set y7_8 (Int.toNat x4_8) (Val.h r20)))) (
    some y7_8)) := by kernel_rfl
theorem m_laws_toValueS_eq (nf kf : Nat) (a : List Val) : m_laws_toValueS nf (kf + 1) a = (
  gg (0 ≤ (List.length a : Int) ∧ (List.length a : Int) ≤ 2147483647) <|
    mark (l8_laws_toValueS nf (kf + 1) nf a (0 : Int) (List.replicate (Int.toNat (List.length a : Int)) Val.zero))) := by kernel_rfl
noncomputable def e_laws_toValueS (nf : Nat) : XE := eF 55 [.v (kL (kR 1))] [.o (kL (kR 1))] (fun t => m_laws_toValueS nf nf t.1)
theorem m_laws_toValue_eq (nf kf : Nat) (a : Val) : m_laws_toValue nf (kf + 1) a = (
  cb (m_laws_toStringS nf a.labels) fun r12 =>
    cb (m_laws_toValueS nf kf a.args) fun r16 =>
      some (Val.mk a.kind a.n r12 r16)) := by kernel_rfl
theorem gok_laws_toValueS (nf : Nat) : ∀ kf : Nat, XT.ok Tryd.prog (G_laws_toValueS nf kf ++ B_laws_toValueS nf)
  | 0 => by exact ⟨o_laws_toStringS nf, trivial⟩
  | kf + 1 => by
    have ih := gok_laws_toValueS nf kf
    refine ⟨?_, ?_, (by exact ⟨o_laws_toStringS nf, trivial⟩)⟩
    · refine eF_ok fun t x h => ?_
      obtain ⟨a, _⟩ := t
      exact runF_ok (N := 23) ih Tryd.func55 (by kernel_rfl) rfl h
    · refine eF_ok fun t x h => ?_
      obtain ⟨a, _⟩ := t
      exact runF_ok (N := 19) ih Tryd.func63 (by kernel_rfl) rfl h
theorem o_laws_toValueS (nf : Nat) : conOK Tryd.prog 55 (e_laws_toValueS nf).con := by
  have ih := gok_laws_toValueS nf nf
  refine eF_ok fun t x h => ?_
  obtain ⟨a, _⟩ := t
  exact runF_ok (N := 23) ih Tryd.func55 (by kernel_rfl) rfl h
def ir_laws_toFlatRow : C := .sq (.rg [.bx 1 (.t 0) (kR 15), .al 2 (kR 15)]) (.sq (.rg [.al 3 (kR 15)]) (.sq (.rg [.fa 4 (.t 1) 15 0 0, .ld 5 (.t 4) (kR 14), .ca (some 6) 8 [((.t 5), .v (kR 14))], .fa 7 (.t 3) 15 0 0, .st (.t 7) (.t 6) (kR 14)]) (.sq (.rg [.fa 8 (.t 1) 15 1 2, .ld 9 (.t 8) (kR 14), .ca (some 10) 8 [((.t 9), .v (kR 14))], .fa 11 (.t 3) 15 1 2, .st (.t 11) (.t 10) (kR 14)]) (.sq (.rg [.fa 12 (.t 1) 15 2 4, .ld 13 (.t 12) (kL (kR 1)), .ca (some 14) 55 [((.t 13), .v (kL (kR 1)))], .fa 15 (.t 3) 15 2 4, .st (.t 15) (.t 14) (kL (kR 1))]) (.sq (.rg [.ld 16 (.t 3) (kR 15), .st (.t 2) (.t 16) (kR 15)]) .rt)))))
noncomputable abbrev T_laws_toFlatRow (nf : Nat) : XT := [e_laws_toKey nf, e_laws_toValueS nf]
noncomputable def m_laws_toFlatRow (nf : Nat) (a : FRow) : Option (FRow) := runF (T_laws_toFlatRow nf) nf [.v (kR 15)] [.c 2 (.o (kR 15))] ir_laws_toFlatRow (a, ())
theorem m_laws_toFlatRow_eq (nf : Nat) (a : FRow) : m_laws_toFlatRow nf a = (
  cb (m_laws_toKey nf a.outer) fun r6 =>
    cb (m_laws_toKey nf a.own) fun r10 =>
      cb (m_laws_toValueS nf nf a.cols) fun r14 =>
        some (FRow.mk r6 r10 r14)) := by kernel_rfl
noncomputable def e_laws_toFlatRow (nf : Nat) : XE := eF 43 [.v (kR 15)] [.o (kR 15)] (fun t => m_laws_toFlatRow nf t.1)
theorem o_laws_toFlatRow (nf : Nat) : conOK Tryd.prog 43 (e_laws_toFlatRow nf).con := by
  have ih : XT.ok Tryd.prog (T_laws_toFlatRow nf) := by exact ⟨o_laws_toKey nf, o_laws_toValueS nf, trivial⟩
  refine eF_ok fun t x h => ?_
  obtain ⟨a, _⟩ := t
  exact runF_ok (N := 17) ih Tryd.func43 (by kernel_rfl) rfl h
def c19_laws_toFlatRowS : C := .sq (.rg [.mv 22 (.t 3), .mv 2 (.t 22)]) .rt
def c9_laws_toFlatRowS : C := .sq (.sq (.rg [.mv 8 (.t 4), .mv 9 (.t 0), .ln 10 false (.t 9), .bi 11 .lss (.t 8) (.t 10)]) (.cd (.t 11) .skip (.ex 0))) (.sq (.bk 1 (.rg [.mv 14 (.t 3), .mv 15 (.t 4), .mv 16 (.t 0), .mv 17 (.t 4), .ia 18 (.t 16) (.t 17) (kR 15), .ld 19 (.t 18) (kR 15), .ca (some 20) 43 [((.t 19), .v (kR 15))], .ia 21 (.t 14) (.t 15) (kR 15), .st (.t 21) (.t 20) (kR 15)])) (.rg [.mv 12 (.t 4), .bi 13 .add (.t 12) (.i 1), .mv 4 (.t 13)]))
def ir_laws_toFlatRowS : C := .sq (.rg [.mv 2 (.nl (kR 15))]) (.sq (.rg [.mv 5 (.t 0), .ln 6 false (.t 5), .mk 7 true (kR 15) (.t 6), .mv 3 (.t 7)]) (.sq (.sq (.rg [.mv 4 (.i 0)]) (.bk 0 (.lk [0, 3, 4] [[7]] c9_laws_toFlatRowS))) c19_laws_toFlatRowS))
noncomputable abbrev T_laws_toFlatRowS (nf : Nat) : XT := [e_laws_toFlatRow nf]
noncomputable def m_laws_toFlatRowS (nf : Nat) (a : List FRow) : Option (List FRow) := runF (T_laws_toFlatRowS nf) nf [.v (kL (kR 15))] [.t 2 (.o (kL (kR 15)))] ir_laws_toFlatRowS (a, ())
noncomputable def X_laws_toFlatRowS {R : Type} (nf : Nat) : C → Env → (Xt → Env → Option R) → Option R := xc (R := R) (T_laws_toFlatRowS nf).S nf
noncomputable def l8_laws_toFlatRowS (nf : Nat) (m8 : Nat) (a : List FRow) (x4_8 : Int) (y7_8 : List FRow) : Option (List FRow) := xit [0, 3, 4] [[7]] (X_laws_toFlatRowS nf c9_laws_toFlatRowS) (qB 0 (qS (X_laws_toFlatRowS nf c19_laws_toFlatRowS) (KF [.t 2 (.o (kL (kR 15)))]))) m8 ⟨[(0, .v (kL (kR 15)) a), (3, .sl [7]), (4, .v kI x4_8)], [([7], .row true false (kR 15) y7_8)]⟩
theorem l8_laws_toFlatRowS_eq (nf : Nat) (m8 : Nat) (a : List FRow) (x4_8 : Int) (y7_8 : List FRow) : l8_laws_toFlatRowS nf (m8 + 1) a x4_8 y7_8 = (
  br (decide (x4_8 < (List.length a : Int))) (
    gg (0 ≤ x4_8 ∧ x4_8 < (List.length a : Int)) <|
      cb (m_laws_toFlatRow nf (gt a x4_8 FRow.zero)) fun r20 =>
        gg (0 ≤ x4_8 ∧ x4_8 < (List.length y7_8 : Int)) <|
          gg (0 ≤ x4_8 ∧ x4_8 < (List.length y7_8 : Int)) <|
            mark (l8_laws_toFlatRowS nf m8 a (w64 (x4_8 + (1 : Int))) (List.set y7_8 (Int.toNat x4_8) r20))) (
    some y7_8)) := by kernel_rfl
theorem m_laws_toFlatRowS_eq (nf : Nat) (a : List FRow) : m_laws_toFlatRowS nf a = (
  gg (0 ≤ (List.length a : Int) ∧ (List.length a : Int) ≤ 2147483647) <|
    mark (l8_laws_toFlatRowS nf nf a (0 : Int) (List.replicate (Int.toNat (List.length a : Int)) FRow.zero))) := by kernel_rfl
noncomputable def e_laws_toFlatRowS (nf : Nat) : XE := eF 30 [.v (kL (kR 15))] [.o (kL (kR 15))] (fun t => m_laws_toFlatRowS nf t.1)
theorem o_laws_toFlatRowS (nf : Nat) : conOK Tryd.prog 30 (e_laws_toFlatRowS nf).con := by
  have ih : XT.ok Tryd.prog (T_laws_toFlatRowS nf) := by exact ⟨o_laws_toFlatRow nf, trivial⟩
  refine eF_ok fun t x h => ?_
  obtain ⟨a, _⟩ := t
  exact runF_ok (N := 23) ih Tryd.func30 (by kernel_rfl) rfl h
def c19_laws_toFlatRowSS : C := .sq (.rg [.mv 22 (.t 3), .mv 2 (.t 22)]) .rt
def c9_laws_toFlatRowSS : C := .sq (.sq (.rg [.mv 8 (.t 4), .mv 9 (.t 0), .ln 10 false (.t 9), .bi 11 .lss (.t 8) (.t 10)]) (.cd (.t 11) .skip (.ex 0))) (.sq (.bk 1 (.rg [.mv 14 (.t 3), .mv 15 (.t 4), .mv 16 (.t 0), .mv 17 (.t 4), .ia 18 (.t 16) (.t 17) (kL (kR 15)), .ld 19 (.t 18) (kL (kR 15)), .ca (some 20) 30 [((.t 19), .v (kL (kR 15)))], .ia 21 (.t 14) (.t 15) (kL (kR 15)), .st (.t 21) (.t 20) (kL (kR 15))])) (.rg [.mv 12 (.t 4), .bi 13 .add (.t 12) (.i 1), .mv 4 (.t 13)]))
def ir_laws_toFlatRowSS : C := .sq (.rg [.mv 2 (.nl (kL (kR 15)))]) (.sq (.rg [.mv 5 (.t 0), .ln 6 false (.t 5), .mk 7 true (kL (kR 15)) (.t 6), .mv 3 (.t 7)]) (.sq (.sq (.rg [.mv 4 (.i 0)]) (.bk 0 (.lk [0, 3, 4] [[7]] c9_laws_toFlatRowSS))) c19_laws_toFlatRowSS))
noncomputable abbrev T_laws_toFlatRowSS (nf : Nat) : XT := [e_laws_toFlatRowS nf]
noncomputable def m_laws_toFlatRowSS (nf : Nat) (a : List (List FRow)) : Option (List (List FRow)) := runF (T_laws_toFlatRowSS nf) nf [.v (kL (kL (kR 15)))] [.t 2 (.o (kL (kL (kR 15))))] ir_laws_toFlatRowSS (a, ())
noncomputable def X_laws_toFlatRowSS {R : Type} (nf : Nat) : C → Env → (Xt → Env → Option R) → Option R := xc (R := R) (T_laws_toFlatRowSS nf).S nf
noncomputable def l8_laws_toFlatRowSS (nf : Nat) (m8 : Nat) (a : List (List FRow)) (x4_8 : Int) (y7_8 : List (List FRow)) : Option (List (List FRow)) := xit [0, 3, 4] [[7]] (X_laws_toFlatRowSS nf c9_laws_toFlatRowSS) (qB 0 (qS (X_laws_toFlatRowSS nf c19_laws_toFlatRowSS) (KF [.t 2 (.o (kL (kL (kR 15))))]))) m8 ⟨[(0, .v (kL (kL (kR 15))) a), (3, .sl [7]), (4, .v kI x4_8)], [([7], .row true false (kL (kR 15)) y7_8)]⟩
theorem l8_laws_toFlatRowSS_eq (nf : Nat) (m8 : Nat) (a : List (List FRow)) (x4_8 : Int) (y7_8 : List (List FRow)) : l8_laws_toFlatRowSS nf (m8 + 1) a x4_8 y7_8 = (
  br (decide (x4_8 < (List.length a : Int))) (
    gg (0 ≤ x4_8 ∧ x4_8 < (List.length a : Int)) <|
      cb (m_laws_toFlatRowS nf (gt a x4_8 ([] : List FRow))) fun r20 =>
        gg (0 ≤ x4_8 ∧ x4_8 < (List.length y7_8 : Int)) <|
          gg (0 ≤ x4_8 ∧ x4_8 < (List.length y7_8 : Int)) <|
            mark (l8_laws_toFlatRowSS nf m8 a (w64 (x4_8 + (1 : Int))) (List.set y7_8 (Int.toNat x4_8) r20))) (
    some y7_8)) := by kernel_rfl
theorem m_laws_toFlatRowSS_eq (nf : Nat) (a : List (List FRow)) : m_laws_toFlatRowSS nf a = (
  gg (0 ≤ (List.length a : Int) ∧ (List.length a : Int) ≤ 2147483647) <|
    mark (l8_laws_toFlatRowSS nf nf a (0 : Int) (List.replicate (Int.toNat (List.length a : Int)) ([] : List FRow)))) := by kernel_rfl
noncomputable def e_laws_toFlatRowSS (nf : Nat) : XE := eF 13 [.v (kL (kL (kR 15)))] [.o (kL (kL (kR 15)))] (fun t => m_laws_toFlatRowSS nf t.1)
theorem o_laws_toFlatRowSS (nf : Nat) : conOK Tryd.prog 13 (e_laws_toFlatRowSS nf).con := by
  have ih : XT.ok Tryd.prog (T_laws_toFlatRowSS nf) := by exact ⟨o_laws_toFlatRowS nf, trivial⟩
  refine eF_ok fun t x h => ?_
  obtain ⟨a, _⟩ := t
  exact runF_ok (N := 23) ih Tryd.func13 (by kernel_rfl) rfl h
def c31_laws_eqStringS : C := .sq (.rg [.mv 4 (.b true)]) .rt
def c15_laws_eqStringS : C := .sq (.sq (.rg [.mv 11 (.t 5), .mv 12 (.t 0), .ln 13 false (.t 12), .bi 14 .lss (.t 11) (.t 13)]) (.cd (.t 14) .skip (.ex 0))) (.sq (.bk 1 (.sq (.dr [] [.mv 17 (.t 0), .mv 18 (.t 5), .ia 19 (.t 17) (.t 18) kS, .ld 20 (.t 19) kS, .mv 21 (.t 1), .mv 22 (.t 5), .ia 23 (.t 21) (.t 22) kS, .ld 24 (.t 23) kS] [.bi 25 .neq (.t 20) (.t 24)]) (.cd (.t 25) (.sq (.rg [.mv 4 (.b false)]) .rt) .skip))) (.rg [.mv 15 (.t 5), .bi 16 .add (.t 15) (.i 1), .mv 5 (.t 16)]))
def ir_laws_eqStringS : C := .sq (.rg [.mv 4 (.b false)]) (.sq (.sq (.rg [.mv 6 (.t 0), .ln 7 false (.t 6), .mv 8 (.t 1), .ln 9 false (.t 8), .bi 10 .neq (.t 7) (.t 9)]) (.cd (.t 10) (.sq (.rg [.mv 4 (.b false)]) .rt) .skip)) (.sq (.sq (.rg [.mv 5 (.i 0)]) (.bk 0 (.lk [0, 1, 5] [] c15_laws_eqStringS))) c31_laws_eqStringS))
noncomputable abbrev T_laws_eqStringS (nf : Nat) : XT := []
noncomputable def m_laws_eqStringS (nf : Nat) (a : List Str) (b : List Str) : Option (Bool) := runF (T_laws_eqStringS nf) nf [.v (kL kS), .v (kL kS)] [.t 4 (.v .bool)] ir_laws_eqStringS (a, b, ())
noncomputable def X_laws_eqStringS {R : Type} (nf : Nat) : C → Env → (Xt → Env → Option R) → Option R := xc (R := R) (T_laws_eqStringS nf).S nf
noncomputable def l14_laws_eqStringS (nf : Nat) (m14 : Nat) (a : List Str) (b : List Str) (x5_14 : Int) : Option (Bool) := xit [0, 1, 5] [] (X_laws_eqStringS nf c15_laws_eqStringS) (qB 0 (qS (X_laws_eqStringS nf c31_laws_eqStringS) (KF [.t 4 (.v .bool)]))) m14 ⟨[(0, .v (kL kS) a), (1, .v (kL kS) b), (5, .v kI x5_14)], []⟩
theorem l14_laws_eqStringS_eq (nf : Nat) (m14 : Nat) (a : List Str) (b : List Str) (x5_14 : Int) : l14_laws_eqStringS nf (m14 + 1) a b x5_14 = (
  br (decide (x5_14 < (List.length a : Int))) (
    gg (0 ≤ x5_14 ∧ x5_14 < (List.length a : Int)) <|
      gg (0 ≤ x5_14 ∧ x5_14 < (List.length b : Int)) <|
        br (!((gt a x5_14 ([] : Str)) == (gt b x5_14 ([] : Str)))) (
          some false) (
          mark (l14_laws_eqStringS nf m14 a b (w64 (x5_14 + (1 : Int)))))) (
    some true)) := by kernel_rfl
theorem m_laws_eqStringS_eq (nf : Nat) (a : List Str) (b : List Str) : m_laws_eqStringS nf a b = (
  br (!((List.length a : Int) == (List.length b : Int))) (
    some false) (
    mark (l14_laws_eqStringS nf nf a b (0 : Int)))) := by kernel_rfl
noncomputable def e_laws_eqStringS (nf : Nat) : XE := eF 72 [.v (kL kS), .v (kL kS)] [.v .bool] (fun t => m_laws_eqStringS nf t.1 t.2.1)
theorem o_laws_eqStringS (nf : Nat) : conOK Tryd.prog 72 (e_laws_eqStringS nf).con := by
  have ih : XT.ok Tryd.prog (T_laws_eqStringS nf) := by exact trivial
  refine eF_ok fun t x h => ?_
  obtain ⟨a, b, _⟩ := t
  exact runF_ok (N := 26) ih Tryd.func72 (by kernel_rfl) rfl h
def c31_laws_eqValueS : C := .sq (.rg [.mv 4 (.b true)]) .rt
def c15_laws_eqValueS : C := .sq (.sq (.rg [.mv 11 (.t 5), .mv 12 (.t 0), .ln 13 false (.t 12), .bi 14 .lss (.t 11) (.t 13)]) (.cd (.t 14) .skip (.ex 0))) (.sq (.bk 1 (.sq (.dr [] [.mv 17 (.t 0), .mv 18 (.t 5), .ia 19 (.t 17) (.t 18) (kR 1), .ld 20 (.t 19) (kR 1), .mv 21 (.t 1), .mv 22 (.t 5), .ia 23 (.t 21) (.t 22) (kR 1), .ld 24 (.t 23) (kR 1)] [.cv (some 25) 64 [((.t 20), .v (kR 1)), ((.t 24), .v (kR 1))], .un 26 .not (.t 25)]) (.cd (.t 26) (.sq (.rg [.mv 4 (.b false)]) .rt) .skip))) (.rg [.mv 15 (.t 5), .bi 16 .add (.t 15) (.i 1), .mv 5 (.t 16)]))
def ir_laws_eqValueS : C := .sq (.rg [.mv 4 (.b false)]) (.sq (.sq (.rg [.mv 6 (.t 0), .ln 7 false (.t 6), .mv 8 (.t 1), .ln 9 false (.t 8), .bi 10 .neq (.t 7) (.t 9)]) (.cd (.t 10) (.sq (.rg [.mv 4 (.b false)]) .rt) .skip)) (.sq (.sq (.rg [.mv 5 (.i 0)]) (.bk 0 (.lk [0, 1, 5] [] c15_laws_eqValueS))) c31_laws_eqValueS))
def ir_laws_eqValue : C := .sq (.rg [.bx 2 (.t 0) (kR 1), .bx 3 (.t 1) (kR 1), .mv 4 (.b false)]) (.sq (.sq (.rg [.fa 5 (.t 2) 1 0 0, .ld 6 (.t 5) kI, .fa 7 (.t 3) 1 0 0, .ld 8 (.t 7) kI, .bi 9 .neq (.t 6) (.t 8)]) (.cd (.t 9) (.sq (.rg [.mv 4 (.b false)]) .rt) .skip)) (.sq (.sq (.rg [.fa 10 (.t 2) 1 1 1, .ld 11 (.t 10) kI, .fa 12 (.t 3) 1 1 1, .ld 13 (.t 12) kI, .bi 14 .neq (.t 11) (.t 13)]) (.cd (.t 14) (.sq (.rg [.mv 4 (.b false)]) .rt) .skip)) (.sq (.sq (.rg [.fa 15 (.t 2) 1 2 2, .ld 16 (.t 15) (kL kS), .fa 17 (.t 3) 1 2 2, .ld 18 (.t 17) (kL kS), .cv (some 19) 72 [((.t 16), .v (kL kS)), ((.t 18), .v (kL kS))], .un 20 .not (.t 19)]) (.cd (.t 20) (.sq (.rg [.mv 4 (.b false)]) .rt) .skip)) (.sq (.sq (.rg [.fa 21 (.t 2) 1 3 3, .ld 22 (.t 21) (kL (kR 1)), .fa 23 (.t 3) 1 3 3, .ld 24 (.t 23) (kL (kR 1)), .cv (some 25) 57 [((.t 22), .v (kL (kR 1))), ((.t 24), .v (kL (kR 1)))], .un 26 .not (.t 25)]) (.cd (.t 26) (.sq (.rg [.mv 4 (.b false)]) .rt) .skip)) (.sq (.rg [.mv 4 (.b true)]) .rt)))))
noncomputable def B_laws_eqValueS (nf : Nat) : XT := [e_laws_eqStringS nf]
noncomputable def G_laws_eqValueS (nf : Nat) : Nat → XT
  | 0 => []
  | kf + 1 => [eF 57 [.v (kL (kR 1)), .v (kL (kR 1))] [.v .bool] (fun t => (fun (a : List Val) (b : List Val) => runF (G_laws_eqValueS nf kf ++ B_laws_eqValueS nf) nf [.v (kL (kR 1)), .v (kL (kR 1))] [.t 4 (.v .bool)] ir_laws_eqValueS (a, b, ())) t.1 t.2.1),
    eF 64 [.v (kR 1), .v (kR 1)] [.v .bool] (fun t => (fun (a : Val) (b : Val) => runF (G_laws_eqValueS nf kf ++ B_laws_eqValueS nf) nf [.v (kR 1), .v (kR 1)] [.t 4 (.v .bool)] ir_laws_eqValue (a, b, ())) t.1 t.2.1)]
noncomputable abbrev T_laws_eqValueS (nf kf : Nat) : XT := G_laws_eqValueS nf kf ++ B_laws_eqValueS nf
noncomputable abbrev T_laws_eqValue (nf kf : Nat) : XT := G_laws_eqValueS nf kf ++ B_laws_eqValueS nf
noncomputable def m_laws_eqValueS (nf kf : Nat) (a : List Val) (b : List Val) : Option (Bool) := runF (T_laws_eqValueS nf kf) nf [.v (kL (kR 1)), .v (kL (kR 1))] [.t 4 (.v .bool)] ir_laws_eqValueS (a, b, ())
noncomputable def X_laws_eqValueS {R : Type} (nf kf : Nat) : C → Env → (Xt → Env → Option R) → Option R := xc (R := R) (T_laws_eqValueS nf kf).S nf
noncomputable def m_laws_eqValue (nf kf : Nat) (a : Val) (b : Val) : Option (Bool) := runF (T_laws_eqValue nf kf) nf [.v (kR 1), .v (kR 1)] [.t 4 (.v .bool)] ir_laws_eqValue (a, b, ())
noncomputable def l14_laws_eqValueS (nf kf : Nat) (m14 : Nat) (a : List Val) (b : List Val) (x5_14 : Int) : Option (Bool) := xit [0, 1, 5] [] (X_laws_eqValueS nf kf c15_laws_eqValueS) (qB 0 (qS (X_laws_eqValueS nf kf c31_laws_eqValueS) (KF [.t 4 (.v .bool)]))) m14 ⟨[(0, .v (kL (kR 1)) a), (1, .v (kL (kR 1)) b), (5, .v kI x5_14)], []⟩
theorem l14_laws_eqValueS_eq (nf kf : Nat) (m14 : Nat) (a : List Val) (b : List Val) (x5_14 : Int) : l14_laws_eqValueS nf (kf + 1) (m14 + 1) a b x5_14 = (
  br (decide (x5_14 < (List.length a : Int))) (
    gg (0 ≤ x5_14 ∧ x5_14 < (List.length a : Int)) <|
      gg (0 ≤ x5_14 ∧ x5_14 < (List.length b : Int)) <|
        cb (m_laws_eqValue nf kf (gt a x5_14 Val.zero) (gt b x5_14 Val.zero)) fun r25 =>
          br (!r25) (
            some false) (
            mark (l14_laws_eqValueS nf (kf + 1) m14 a b (w64 (x5_14 + (1 : Int)))))) (
    some true)) := by kernel_rfl
theorem m_laws_eqValueS_eq (nf kf : Nat) (a : List Val) (b : List Val) : m_laws_eqValueS nf (kf + 1) a b = (
  br (!((List.length a : Int) == (List.length b : Int))) (
    some false) (
    mark (l14_laws_eqValueS nf (kf + 1) nf a b (0 : Int)))) := by kernel_rfl
noncomputable def e_laws_eqValueS (nf : Nat) : XE := eF 57 [.v (kL (kR 1)), .v (kL (kR 1))] [.v .bool] (fun t => m_laws_eqValueS nf nf t.1 t.2.1)
theorem m_laws_eqValue_eq (nf kf : Nat) (a : Val) (b : Val) : m_laws_eqValue nf (kf + 1) a b = (
  br (!(a.kind == b.kind)) (
    some false) (
    br (!(a.n == b.n)) (
      some false) (
      cb (m_laws_eqStringS nf a.labels b.labels) fun r19 =>
        br (!r19) (
          some false) (
          cb (m_laws_eqValueS nf kf a.args b.args) fun r25 =>
            br (!r25) (
              some false) (
              some true))))) := by kernel_rfl
theorem gok_laws_eqValueS (nf : Nat) : ∀ kf : Nat, XT.ok Tryd.prog (G_laws_eqValueS nf kf ++ B_laws_eqValueS nf)
  | 0 => by exact ⟨o_laws_eqStringS nf, trivial⟩
  | kf + 1 => by
    have ih := gok_laws_eqValueS nf kf
    refine ⟨?_, ?_, (by exact ⟨o_laws_eqStringS nf, trivial⟩)⟩
    · refine eF_ok fun t x h => ?_
      obtain ⟨a, b, _⟩ := t
      exact runF_ok (N := 27) ih Tryd.func57 (by kernel_rfl) rfl h
    · refine eF_ok fun t x h => ?_
      obtain ⟨a, b, _⟩ := t
      exact runF_ok (N := 27) ih Tryd.func64 (by kernel_rfl) rfl h
theorem o_laws_eqValueS (nf : Nat) : conOK Tryd.prog 57 (e_laws_eqValueS nf).con := by
  have ih := gok_laws_eqValueS nf nf
  refine eF_ok fun t x h => ?_
  obtain ⟨a, b, _⟩ := t
  exact runF_ok (N := 27) ih Tryd.func57 (by kernel_rfl) rfl h
def ir_laws_eqFlatRow : C := .sq (.rg [.bx 2 (.t 0) (kR 15), .bx 3 (.t 1) (kR 15), .mv 4 (.b false)]) (.sq (.sq (.rg [.fa 5 (.t 2) 15 0 0, .ld 6 (.t 5) (kR 14), .fa 7 (.t 3) 15 0 0, .ld 8 (.t 7) (kR 14), .cv (some 9) 10 [((.t 6), .v (kR 14)), ((.t 8), .v (kR 14))], .un 10 .not (.t 9)]) (.cd (.t 10) (.sq (.rg [.mv 4 (.b false)]) .rt) .skip)) (.sq (.sq (.rg [.fa 11 (.t 2) 15 1 2, .ld 12 (.t 11) (kR 14), .fa 13 (.t 3) 15 1 2, .ld 14 (.t 13) (kR 14), .cv (some 15) 10 [((.t 12), .v (kR 14)), ((.t 14), .v (kR 14))], .un 16 .not (.t 15)]) (.cd (.t 16) (.sq (.rg [.mv 4 (.b false)]) .rt) .skip)) (.sq (.sq (.rg [.fa 17 (.t 2) 15 2 4, .ld 18 (.t 17) (kL (kR 1)), .fa 19 (.t 3) 15 2 4, .ld 20 (.t 19) (kL (kR 1)), .cv (some 21) 57 [((.t 18), .v (kL (kR 1))), ((.t 20), .v (kL (kR 1)))], .un 22 .not (.t 21)]) (.cd (.t 22) (.sq (.rg [.mv 4 (.b false)]) .rt) .skip)) (.sq (.rg [.mv 4 (.b true)]) .rt))))
noncomputable abbrev T_laws_eqFlatRow (nf : Nat) : XT := [e_laws_eqKey nf, e_laws_eqValueS nf]
noncomputable def m_laws_eqFlatRow (nf : Nat) (a : FRow) (b : FRow) : Option (Bool) := runF (T_laws_eqFlatRow nf) nf [.v (kR 15), .v (kR 15)] [.t 4 (.v .bool)] ir_laws_eqFlatRow (a, b, ())
theorem m_laws_eqFlatRow_eq (nf : Nat) (a : FRow) (b : FRow) : m_laws_eqFlatRow nf a b = (
  cb (m_laws_eqKey nf a.outer b.outer) fun r9 =>
    br (!r9) (
      some false) (
      cb (m_laws_eqKey nf a.own b.own) fun r15 =>
        br (!r15) (
          some false) (
          cb (m_laws_eqValueS nf nf a.cols b.cols) fun r21 =>
            br (!r21) (
              some false) (
              some true)))) := by kernel_rfl
noncomputable def e_laws_eqFlatRow (nf : Nat) : XE := eF 45 [.v (kR 15), .v (kR 15)] [.v .bool] (fun t => m_laws_eqFlatRow nf t.1 t.2.1)
theorem o_laws_eqFlatRow (nf : Nat) : conOK Tryd.prog 45 (e_laws_eqFlatRow nf).con := by
  have ih : XT.ok Tryd.prog (T_laws_eqFlatRow nf) := by exact ⟨o_laws_eqKey nf, o_laws_eqValueS nf, trivial⟩
  refine eF_ok fun t x h => ?_
  obtain ⟨a, b, _⟩ := t
  exact runF_ok (N := 23) ih Tryd.func45 (by kernel_rfl) rfl h
def c31_laws_eqFlatRowS : C := .sq (.rg [.mv 4 (.b true)]) .rt
def c15_laws_eqFlatRowS : C := .sq (.sq (.rg [.mv 11 (.t 5), .mv 12 (.t 0), .ln 13 false (.t 12), .bi 14 .lss (.t 11) (.t 13)]) (.cd (.t 14) .skip (.ex 0))) (.sq (.bk 1 (.sq (.dr [] [.mv 17 (.t 0), .mv 18 (.t 5), .ia 19 (.t 17) (.t 18) (kR 15), .ld 20 (.t 19) (kR 15), .mv 21 (.t 1), .mv 22 (.t 5), .ia 23 (.t 21) (.t 22) (kR 15), .ld 24 (.t 23) (kR 15)] [.cv (some 25) 45 [((.t 20), .v (kR 15)), ((.t 24), .v (kR 15))], .un 26 .not (.t 25)]) (.cd (.t 26) (.sq (.rg [.mv 4 (.b false)]) .rt) .skip))) (.rg [.mv 15 (.t 5), .bi 16 .add (.t 15) (.i 1), .mv 5 (.t 16)]))
def ir_laws_eqFlatRowS : C := .sq (.rg [.mv 4 (.b false)]) (.sq (.sq (.rg [.mv 6 (.t 0), .ln 7 false (.t 6), .mv 8 (.t 1), .ln 9 false (.t 8), .bi 10 .neq (.t 7) (.t 9)]) (.cd (.t 10) (.sq (.rg [.mv 4 (.b false)]) .rt) .skip)) (.sq (.sq (.rg [.mv 5 (.i 0)]) (.bk 0 (.lk [0, 1, 5] [] c15_laws_eqFlatRowS))) c31_laws_eqFlatRowS))
noncomputable abbrev T_laws_eqFlatRowS (nf : Nat) : XT := [e_laws_eqFlatRow nf]
noncomputable def m_laws_eqFlatRowS (nf : Nat) (a : List FRow) (b : List FRow) : Option (Bool) := runF (T_laws_eqFlatRowS nf) nf [.v (kL (kR 15)), .v (kL (kR 15))] [.t 4 (.v .bool)] ir_laws_eqFlatRowS (a, b, ())
noncomputable def X_laws_eqFlatRowS {R : Type} (nf : Nat) : C → Env → (Xt → Env → Option R) → Option R := xc (R := R) (T_laws_eqFlatRowS nf).S nf
noncomputable def l14_laws_eqFlatRowS (nf : Nat) (m14 : Nat) (a : List FRow) (b : List FRow) (x5_14 : Int) : Option (Bool) := xit [0, 1, 5] [] (X_laws_eqFlatRowS nf c15_laws_eqFlatRowS) (qB 0 (qS (X_laws_eqFlatRowS nf c31_laws_eqFlatRowS) (KF [.t 4 (.v .bool)]))) m14 ⟨[(0, .v (kL (kR 15)) a), (1, .v (kL (kR 15)) b), (5, .v kI x5_14)], []⟩
theorem l14_laws_eqFlatRowS_eq (nf : Nat) (m14 : Nat) (a : List FRow) (b : List FRow) (x5_14 : Int) : l14_laws_eqFlatRowS nf (m14 + 1) a b x5_14 = (
  br (decide (x5_14 < (List.length a : Int))) (
    gg (0 ≤ x5_14 ∧ x5_14 < (List.length a : Int)) <|
      gg (0 ≤ x5_14 ∧ x5_14 < (List.length b : Int)) <|
        cb (m_laws_eqFlatRow nf (gt a x5_14 FRow.zero) (gt b x5_14 FRow.zero)) fun r25 =>
          br (!r25) (
            some false) (
            mark (l14_laws_eqFlatRowS nf m14 a b (w64 (x5_14 + (1 : Int)))))) (
    some true)) := by kernel_rfl
theorem m_laws_eqFlatRowS_eq (nf : Nat) (a : List FRow) (b : List FRow) : m_laws_eqFlatRowS nf a b = (
  br (!((List.length a : Int) == (List.length b : Int))) (
    some false) (
    mark (l14_laws_eqFlatRowS nf nf a b (0 : Int)))) := by kernel_rfl
noncomputable def e_laws_eqFlatRowS (nf : Nat) : XE := eF 33 [.v (kL (kR 15)), .v (kL (kR 15))] [.v .bool] (fun t => m_laws_eqFlatRowS nf t.1 t.2.1)
theorem o_laws_eqFlatRowS (nf : Nat) : conOK Tryd.prog 33 (e_laws_eqFlatRowS nf).con := by
  have ih : XT.ok Tryd.prog (T_laws_eqFlatRowS nf) := by exact ⟨o_laws_eqFlatRow nf, trivial⟩
  refine eF_ok fun t x h => ?_
  obtain ⟨a, b, _⟩ := t
  exact runF_ok (N := 27) ih Tryd.func33 (by kernel_rfl) rfl h
def c31_laws_eqFlatRowSS : C := .sq (.rg [.mv 4 (.b true)]) .rt
def c15_laws_eqFlatRowSS : C := .sq (.sq (.rg [.mv 11 (.t 5), .mv 12 (.t 0), .ln 13 false (.t 12), .bi 14 .lss (.t 11) (.t 13)]) (.cd (.t 14) .skip (.ex 0))) (.sq (.bk 1 (.sq (.dr [] [.mv 17 (.t 0), .mv 18 (.t 5), .ia 19 (.t 17) (.t 18) (kL (kR 15)), .ld 20 (.t 19) (kL (kR 15)), .mv 21 (.t 1), .mv 22 (.t 5), .ia 23 (.t 21) (.t 22) (kL (kR 15)), .ld 24 (.t 23) (kL (kR 15))] [.cv (some 25) 33 [((.t 20), .v (kL (kR 15))), ((.t 24), .v (kL (kR 15)))], .un 26 .not (.t 25)]) (.cd (.t 26) (.sq (.rg [.mv 4 (.b false)]) .rt) .skip))) (.rg [.mv 15 (.t 5), .bi 16 .add (.t 15) (.i 1), .mv 5 (.t 16)]))
def ir_laws_eqFlatRowSS : C := .sq (.rg [.mv 4 (.b false)]) (.sq (.sq (.rg [.mv 6 (.t 0), .ln 7 false (.t 6), .mv 8 (.t 1), .ln 9 false (.t 8), .bi 10 .neq (.t 7) (.t 9)]) (.cd (.t 10) (.sq (.rg [.mv 4 (.b false)]) .rt) .skip)) (.sq (.sq (.rg [.mv 5 (.i 0)]) (.bk 0 (.lk [0, 1, 5] [] c15_laws_eqFlatRowSS))) c31_laws_eqFlatRowSS))
noncomputable abbrev T_laws_eqFlatRowSS (nf : Nat) : XT := [e_laws_eqFlatRowS nf]
noncomputable def m_laws_eqFlatRowSS (nf : Nat) (a : List (List FRow)) (b : List (List FRow)) : Option (Bool) := runF (T_laws_eqFlatRowSS nf) nf [.v (kL (kL (kR 15))), .v (kL (kL (kR 15)))] [.t 4 (.v .bool)] ir_laws_eqFlatRowSS (a, b, ())
noncomputable def X_laws_eqFlatRowSS {R : Type} (nf : Nat) : C → Env → (Xt → Env → Option R) → Option R := xc (R := R) (T_laws_eqFlatRowSS nf).S nf
noncomputable def l14_laws_eqFlatRowSS (nf : Nat) (m14 : Nat) (a : List (List FRow)) (b : List (List FRow)) (x5_14 : Int) : Option (Bool) := xit [0, 1, 5] [] (X_laws_eqFlatRowSS nf c15_laws_eqFlatRowSS) (qB 0 (qS (X_laws_eqFlatRowSS nf c31_laws_eqFlatRowSS) (KF [.t 4 (.v .bool)]))) m14 ⟨[(0, .v (kL (kL (kR 15))) a), (1, .v (kL (kL (kR 15))) b), (5, .v kI x5_14)], []⟩
theorem l14_laws_eqFlatRowSS_eq (nf : Nat) (m14 : Nat) (a : List (List FRow)) (b : List (List FRow)) (x5_14 : Int) : l14_laws_eqFlatRowSS nf (m14 + 1) a b x5_14 = (
  br (decide (x5_14 < (List.length a : Int))) (
    gg (0 ≤ x5_14 ∧ x5_14 < (List.length a : Int)) <|
      gg (0 ≤ x5_14 ∧ x5_14 < (List.length b : Int)) <|
        cb (m_laws_eqFlatRowS nf (gt a x5_14 ([] : List FRow)) (gt b x5_14 ([] : List FRow))) fun r25 =>
          br (!r25) (
            some false) (
            mark (l14_laws_eqFlatRowSS nf m14 a b (w64 (x5_14 + (1 : Int)))))) (
    some true)) := by kernel_rfl
theorem m_laws_eqFlatRowSS_eq (nf : Nat) (a : List (List FRow)) (b : List (List FRow)) : m_laws_eqFlatRowSS nf a b = (
  br (!((List.length a : Int) == (List.length b : Int))) (
    some false) (
    mark (l14_laws_eqFlatRowSS nf nf a b (0 : Int)))) := by kernel_rfl
noncomputable def e_laws_eqFlatRowSS (nf : Nat) : XE := eF 15 [.v (kL (kL (kR 15))), .v (kL (kL (kR 15)))] [.v .bool] (fun t => m_laws_eqFlatRowSS nf t.1 t.2.1)
theorem o_laws_eqFlatRowSS (nf : Nat) : conOK Tryd.prog 15 (e_laws_eqFlatRowSS nf).con := by
  have ih : XT.ok Tryd.prog (T_laws_eqFlatRowSS nf) := by exact ⟨o_laws_eqFlatRowS nf, trivial⟩
  refine eF_ok fun t x h => ?_
  obtain ⟨a, b, _⟩ := t
  exact runF_ok (N := 27) ih Tryd.func15 (by kernel_rfl) rfl h
end Go.Q
