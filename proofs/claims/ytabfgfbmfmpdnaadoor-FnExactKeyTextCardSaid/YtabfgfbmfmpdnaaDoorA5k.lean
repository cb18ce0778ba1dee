import Derived.Test.YtabfgfbmfmpdnaaDoorIt
import Derived.Test.YtabfgfbmfmpdnaaDoorQe
import Derived.Test.YtabfgfbmfmpdnaaDoorProg
import Derived.KernelRfl
set_option linter.unusedVariables false
set_option linter.unusedSimpArgs false
namespace Go.Q
open Go.Proofs
set_option linter.unusedVariables false
set_option maxRecDepth 20000
set_option maxHeartbeats 4000000
def ir_laws_szIntS : C := .sq (.rg [.mv 4 (.i 0)]) (.sq (.rg [.mv 5 (.t 1), .mv 6 (.t 0), .ln 7 false (.t 6), .bi 8 .sub (.t 5) (.t 7), .mv 1 (.t 8)]) (.sq (.sq (.rg [.mv 9 (.t 1), .bi 10 .lss (.t 9) (.i 0)]) (.cd (.t 10) (.sq (.rg [.mv 4 (.i (-1))]) .rt) .skip)) (.sq (.rg [.mv 11 (.t 1), .mv 4 (.t 11)]) .rt)))
noncomputable abbrev T_laws_szIntS (nf : Nat) : XT := []
noncomputable def m_laws_szIntS (nf : Nat) (a : List Int) (left : Int) : Option (Int) := runF (T_laws_szIntS nf) nf [.v (kL kI), .v kI] [.t 4 (.v kI)] ir_laws_szIntS (a, left, ())
theorem m_laws_szIntS_eq (nf : Nat) (a : List Int) (left : Int) : m_laws_szIntS nf a left = (
  br (decide ((w64 (left - (List.length a : Int))) < (0 : Int))) (
    some (-1 : Int)) (
    some (w64 (left - (List.length a : Int))))) := by kernel_rfl
noncomputable def e_laws_szIntS (nf : Nat) : XE := eF 22 [.v (kL kI), .v kI] [.v kI] (fun t => m_laws_szIntS nf t.1 t.2.1)
theorem o_laws_szIntS (nf : Nat) : conOK Tryd.prog 22 (e_laws_szIntS nf).con := by
  have ih : XT.ok Tryd.prog (T_laws_szIntS nf) := by exact trivial
  refine eF_ok fun t x h => ?_
  obtain ⟨a, left, _⟩ := t
  exact runF_ok (N := 12) ih Tryd.func22 (by kernel_rfl) rfl h
def ir_laws_szKey : C := .sq (.rg [.bx 2 (.t 0) (kR 14), .mv 4 (.i 0)]) (.sq (.rg [.fa 5 (.t 2) 14 1 1, .ld 6 (.t 5) (kL kI), .mv 7 (.t 1), .cv (some 8) 22 [((.t 6), .v (kL kI)), ((.t 7), .v kI)], .mv 1 (.t 8)]) (.sq (.sq (.rg [.mv 9 (.t 1), .bi 10 .lss (.t 9) (.i 0)]) (.cd (.t 10) (.sq (.rg [.mv 4 (.i (-1))]) .rt) .skip)) (.sq (.rg [.mv 11 (.t 1), .mv 4 (.t 11)]) .rt)))
noncomputable abbrev T_laws_szKey (nf : Nat) : XT := [e_laws_szIntS nf]
noncomputable def m_laws_szKey (nf : Nat) (a : Key) (left : Int) : Option (Int) := runF (T_laws_szKey nf) nf [.v (kR 14), .v kI] [.t 4 (.v kI)] ir_laws_szKey (a, left, ())
theorem m_laws_szKey_eq (nf : Nat) (a : Key) (left : Int) : m_laws_szKey nf a left = (
  cb (m_laws_szIntS nf a.rows left) fun r8 =>
    br (decide (r8 < (0 : Int))) (
      some (-1 : Int)) (
      some r8)) := by kernel_rfl
noncomputable def e_laws_szKey (nf : Nat) : XE := eF 6 [.v (kR 14), .v kI] [.v kI] (fun t => m_laws_szKey nf t.1 t.2.1)
theorem o_laws_szKey (nf : Nat) : conOK Tryd.prog 6 (e_laws_szKey nf).con := by
  have ih : XT.ok Tryd.prog (T_laws_szKey nf) := by exact ⟨o_laws_szIntS nf, trivial⟩
  refine eF_ok fun t x h => ?_
  obtain ⟨a, left, _⟩ := t
  exact runF_ok (N := 12) ih Tryd.func6 (by kernel_rfl) rfl h
def c19_laws_toIntS : C := .sq (.rg [.mv 21 (.t 3), .mv 2 (.t 21)]) .rt
def c9_laws_toIntS : C := .sq (.sq (.rg [.mv 8 (.t 4), .mv 9 (.t 0), .ln 10 false (.t 9), .bi 11 .lss (.t 8) (.t 10)]) (.cd (.t 11) .skip (.ex 0))) (.sq (.bk 1 (.rg [.mv 14 (.t 3), .mv 15 (.t 4), .mv 16 (.t 0), .mv 17 (.t 4), .ia 18 (.t 16) (.t 17) kI, .ld 19 (.t 18) kI, .ia 20 (.t 14) (.t 15) kI, .st (.t 20) (.t 19) kI])) (.rg [.mv 12 (.t 4), .bi 13 .add (.t 12) (.i 1), .mv 4 (.t 13)]))
def ir_laws_toIntS : C := .sq (.rg [.mv 2 (.nl kI)]) (.sq (.rg [.mv 5 (.t 0), .ln 6 false (.t 5), .mk 7 true kI (.t 6), .mv 3 (.t 7)]) (.sq (.sq (.rg [.mv 4 (.i 0)]) (.bk 0 (.lk [0, 3, 4] [[7]] c9_laws_toIntS))) c19_laws_toIntS))
noncomputable abbrev T_laws_toIntS (nf : Nat) : XT := []
noncomputable def m_laws_toIntS (nf : Nat) (a : List Int) : Option (List Int) := runF (T_laws_toIntS nf) nf [.v (kL kI)] [.t 2 (.o (kL kI))] ir_laws_toIntS (a, ())
noncomputable def X_laws_toIntS {R : Type} (nf : Nat) : C → Env → (Xt → Env → Option R) → Option R := xc (R := R) (T_laws_toIntS nf).S nf
noncomputable def l8_laws_toIntS (nf : Nat) (m8 : Nat) (a : List Int) (x4_8 : Int) (y7_8 : List Int) : Option (List Int) := xit [0, 3, 4] [[7]] (X_laws_toIntS nf c9_laws_toIntS) (qB 0 (qS (X_laws_toIntS nf c19_laws_toIntS) (KF [.t 2 (.o (kL kI))]))) m8 ⟨[(0, .v (kL kI) a), (3, .sl [7]), (4, .v kI x4_8)], [([7], .row true false kI y7_8)]⟩
theorem l8_laws_toIntS_eq (nf : Nat) (m8 : Nat) (a : List Int) (x4_8 : Int) (y7_8 : List Int) : l8_laws_toIntS nf (m8 + 1) a x4_8 y7_8 = (
  br (decide (x4_8 < (List.length a : Int))) (
    gg (0 ≤ x4_8 ∧ x4_8 < (List.length a : Int)) <|
      gg (0 ≤ x4_8 ∧ x4_8 < (List.length y7_8 : Int)) <|
        gg (0 ≤ x4_8 ∧ x4_8 < (List.length y7_8 : Int)) <|
          mark (l8_laws_toIntS nf m8 a (w64 (x4_8 + (1 : Int))) (List.set y7_8 (Int.toNat x4_8) (gt a x4_8 (0 : Int))))) (
    some y7_8)) := by kernel_rfl
theorem m_laws_toIntS_eq (nf : Nat) (a : List Int) : m_laws_toIntS nf a = (
  gg (0 ≤ (List.length a : Int) ∧ (List.length a : Int) ≤ 2147483647) <|
    mark (l8_laws_toIntS nf nf a (0 : Int) (List.replicate (Int.toNat (List.length a : Int)) (0 : Int)))) := by kernel_rfl
noncomputable def e_laws_toIntS (nf : Nat) : XE := eF 24 [.v (kL kI)] [.o (kL kI)] (fun t => m_laws_toIntS nf t.1)
theorem o_laws_toIntS (nf : Nat) : conOK Tryd.prog 24 (e_laws_toIntS nf).con := by
  have ih : XT.ok Tryd.prog (T_laws_toIntS nf) := by exact trivial
  refine eF_ok fun t x h => ?_
  obtain ⟨a, _⟩ := t
  exact runF_ok (N := 22) ih Tryd.func24 (by kernel_rfl) rfl h
def ir_laws_toKey : C := .sq (.rg [.bx 1 (.t 0) (kR 14), .al 2 (kR 14)]) (.sq (.rg [.al 3 (kR 14)]) (.sq (.rg [.fa 4 (.t 1) 14 0 0, .ld 5 (.t 4) kI, .fa 6 (.t 3) 14 0 0, .st (.t 6) (.t 5) kI]) (.sq (.rg [.fa 7 (.t 1) 14 1 1, .ld 8 (.t 7) (kL kI), .ca (some 9) 24 [((.t 8), .v (kL kI))], .fa 10 (.t 3) 14 1 1, .st (.t 10) (.t 9) (kL kI)]) (.sq (.rg [.ld 11 (.t 3) (kR 14), .st (.t 2) (.t 11) (kR 14)]) .rt))))
noncomputable abbrev T_laws_toKey (nf : Nat) : XT := [e_laws_toIntS nf]
noncomputable def m_laws_toKey (nf : Nat) (a : Key) : Option (Key) := runF (T_laws_toKey nf) nf [.v (kR 14)] [.c 2 (.o (kR 14))] ir_laws_toKey (a, ())
theorem m_laws_toKey_eq (nf : Nat) (a : Key) : m_laws_toKey nf a = (
  cb (m_laws_toIntS nf a.rows) fun r9 =>
    some (Key.mk a.tag r9)) := by kernel_rfl
noncomputable def e_laws_toKey (nf : Nat) : XE := eF 8 [.v (kR 14)] [.o (kR 14)] (fun t => m_laws_toKey nf t.1)
theorem o_laws_toKey (nf : Nat) : conOK Tryd.prog 8 (e_laws_toKey nf).con := by
  have ih : XT.ok Tryd.prog (T_laws_toKey nf) := by exact ⟨o_laws_toIntS nf, trivial⟩
  refine eF_ok fun t x h => ?_
  obtain ⟨a, _⟩ := t
  exact runF_ok (N := 12) ih Tryd.func8 (by kernel_rfl) rfl h
def c31_laws_eqIntS : C := .sq (.rg [.mv 4 (.b true)]) .rt
def c15_laws_eqIntS : C := .sq (.sq (.rg [.mv 11 (.t 5), .mv 12 (.t 0), .ln 13 false (.t 12), .bi 14 .lss (.t 11) (.t 13)]) (.cd (.t 14) .skip (.ex 0))) (.sq (.bk 1 (.sq (.dr [] [.mv 17 (.t 0), .mv 18 (.t 5), .ia 19 (.t 17) (.t 18) kI, .ld 20 (.t 19) kI, .mv 21 (.t 1), .mv 22 (.t 5), .ia 23 (.t 21) (.t 22) kI, .ld 24 (.t 23) kI] [.bi 25 .neq (.t 20) (.t 24)]) (.cd (.t 25) (.sq (.rg [.mv 4 (.b false)]) .rt) .skip))) (.rg [.mv 15 (.t 5), .bi 16 .add (.t 15) (.i 1), .mv 5 (.t 16)]))
def ir_laws_eqIntS : C := .sq (.rg [.mv 4 (.b false)]) (.sq (.sq (.rg [.mv 6 (.t 0), .ln 7 false (.t 6), .mv 8 (.t 1), .ln 9 false (.t 8), .bi 10 .neq (.t 7) (.t 9)]) (.cd (.t 10) (.sq (.rg [.mv 4 (.b false)]) .rt) .skip)) (.sq (.sq (.rg [.mv 5 (.i 0)]) (.bk 0 (.lk [0, 1, 5] [] c15_laws_eqIntS))) c31_laws_eqIntS))
noncomputable abbrev T_laws_eqIntS (nf : Nat) : XT := []
noncomputable def m_laws_eqIntS (nf : Nat) (a : List Int) (b : List Int) : Option (Bool) := runF (T_laws_eqIntS nf) nf [.v (kL kI), .v (kL kI)] [.t 4 (.v .bool)] ir_laws_eqIntS (a, b, ())
noncomputable def X_laws_eqIntS {R : Type} (nf : Nat) : C → Env → (Xt → Env → Option R) → Option R := xc (R := R) (T_laws_eqIntS nf).S nf
noncomputable def l14_laws_eqIntS (nf : Nat) (m14 : Nat) (a : List Int) (b : List Int) (x5_14 : Int) : Option (Bool) := xit [0, 1, 5] [] (X_laws_eqIntS nf c15_laws_eqIntS) (qB 0 (qS (X_laws_eqIntS nf c31_laws_eqIntS) (KF [.t 4 (.v .bool)]))) m14 ⟨[(0, .v (kL kI) a), (1, .v (kL kI) b), (5, .v kI x5_14)], []⟩
theorem l14_laws_eqIntS_eq (nf : Nat) (m14 : Nat) (a : List Int) (b : List Int) (x5_14 : Int) : l14_laws_eqIntS nf (m14 + 1) a b x5_14 = (
  br (decide (x5_14 < (List.length a : Int))) (
    gg (0 ≤ x5_14 ∧ x5_14 < (List.length a : Int)) <|
      gg (0 ≤ x5_14 ∧ x5_14 < (List.length b : Int)) <|
        br (!((gt a x5_14 (0 : Int)) == (gt b x5_14 (0 : Int)))) (
          some false) (
          mark (l14_laws_eqIntS nf m14 a b (w64 (x5_14 + (1 : Int)))))) (
    some true)) := by kernel_rfl
theorem m_laws_eqIntS_eq (nf : Nat) (a : List Int) (b : List Int) : m_laws_eqIntS nf a b = (
  br (!((List.length a : Int) == (List.length b : Int))) (
    some false) (
    mark (l14_laws_eqIntS nf nf a b (0 : Int)))) := by kernel_rfl
noncomputable def e_laws_eqIntS (nf : Nat) : XE := eF 26 [.v (kL kI), .v (kL kI)] [.v .bool] (fun t => m_laws_eqIntS nf t.1 t.2.1)
theorem o_laws_eqIntS (nf : Nat) : conOK Tryd.prog 26 (e_laws_eqIntS nf).con := by
  have ih : XT.ok Tryd.prog (T_laws_eqIntS nf) := by exact trivial
  refine eF_ok fun t x h => ?_
  obtain ⟨a, b, _⟩ := t
  exact runF_ok (N := 26) ih Tryd.func26 (by kernel_rfl) rfl h
def ir_laws_eqKey : C := .sq (.rg [.bx 2 (.t 0) (kR 14), .bx 3 (.t 1) (kR 14), .mv 4 (.b false)]) (.sq (.sq (.rg [.fa 5 (.t 2) 14 0 0, .ld 6 (.t 5) kI, .fa 7 (.t 3) 14 0 0, .ld 8 (.t 7) kI, .bi 9 .neq (.t 6) (.t 8)]) (.cd (.t 9) (.sq (.rg [.mv 4 (.b false)]) .rt) .skip)) (.sq (.sq (.rg [.fa 10 (.t 2) 14 1 1, .ld 11 (.t 10) (kL kI), .fa 12 (.t 3) 14 1 1, .ld 13 (.t 12) (kL kI), .cv (some 14) 26 [((.t 11), .v (kL kI)), ((.t 13), .v (kL kI))], .un 15 .not (.t 14)]) (.cd (.t 15) (.sq (.rg [.mv 4 (.b false)]) .rt) .skip)) (.sq (.rg [.mv 4 (.b true)]) .rt)))
noncomputable abbrev T_laws_eqKey (nf : Nat) : XT := [e_laws_eqIntS nf]
noncomputable def m_laws_eqKey (nf : Nat) (a : Key) (b : Key) : Option (Bool) := runF (T_laws_eqKey nf) nf [.v (kR 14), .v (kR 14)] [.t 4 (.v .bool)] ir_laws_eqKey (a, b, ())
theorem m_laws_eqKey_eq (nf : Nat) (a : Key) (b : Key) : m_laws_eqKey nf a b = (
  br (!(a.tag == b.tag)) (
    some false) (
    cb (m_laws_eqIntS nf a.rows b.rows) fun r14 =>
      br (!r14) (
        some false) (
        some true))) := by kernel_rfl
noncomputable def e_laws_eqKey (nf : Nat) : XE := eF 10 [.v (kR 14), .v (kR 14)] [.v .bool] (fun t => m_laws_eqKey nf t.1 t.2.1)
theorem o_laws_eqKey (nf : Nat) : conOK Tryd.prog 10 (e_laws_eqKey nf).con := by
  have ih : XT.ok Tryd.prog (T_laws_eqKey nf) := by exact ⟨o_laws_eqIntS nf, trivial⟩
  refine eF_ok fun t x h => ?_
  obtain ⟨a, b, _⟩ := t
  exact runF_ok (N := 16) ih Tryd.func10 (by kernel_rfl) rfl h
def c35_spec_FormatInt : C := .sq (.sq (.rg [.mv 27 (.t 3)]) (.cd (.t 27) (.sq (.rg [.mv 28 (.t 4), .bi 29 .add (.s [45]) (.t 28), .mv 2 (.t 29)]) .rt) .skip)) (.sq (.rg [.mv 30 (.t 4), .mv 2 (.t 30)]) .rt)
def w35_spec_FormatInt : C := .kp [3, 4] [] c35_spec_FormatInt
def c32_spec_FormatInt : C := .sq (.rg [.mv 18 (.t 5), .bi 19 .add (.i 48) (.t 18), .ci 20 .u8 (.t 19), .bs 21 true (.int .u8) [(.t 20)], .cs 22 (.t 21), .mv 23 (.t 4), .bi 24 .add (.t 22) (.t 23), .mv 4 (.t 24)]) (.rg [.mv 25 (.t 0), .bi 26 .quo (.t 25) (.i 10), .mv 0 (.t 26)])
def w32_spec_FormatInt : C := .kp [0, 3, 4, 5] [] c32_spec_FormatInt
def c17_spec_FormatInt : C := .sq (.sq (.rg [.mv 10 (.t 0), .bi 11 .neq (.t 10) (.i 0)]) (.cd (.t 11) .skip (.ex 0))) (.bk 1 (.sq (.rg [.mv 12 (.t 0), .bi 13 .rem (.t 12) (.i 10), .mv 5 (.t 13)]) (.sq (.sq (.rg [.mv 14 (.t 5), .bi 15 .lss (.t 14) (.i 0)]) (.cd (.t 15) (.rg [.mv 16 (.t 5), .bi 17 .sub (.i 0) (.t 16), .mv 5 (.t 17)]) .skip)) w32_spec_FormatInt)))
def ir_spec_FormatInt : C := .sq (.rg [.mv 2 (.s [])]) (.sq (.sq (.rg [.mv 6 (.t 0), .bi 7 .eql (.t 6) (.i 0)]) (.cd (.t 7) (.sq (.rg [.mv 2 (.s [48])]) .rt) .skip)) (.sq (.rg [.mv 8 (.t 0), .bi 9 .lss (.t 8) (.i 0), .mv 3 (.t 9)]) (.sq (.rg [.mv 4 (.s [])]) (.sq (.bk 0 (.lk [0, 3, 4] [] c17_spec_FormatInt)) w35_spec_FormatInt))))
noncomputable abbrev T_spec_FormatInt (nf : Nat) : XT := []
noncomputable def m_spec_FormatInt (nf : Nat) (n : Int) : Option (Str) := runF (T_spec_FormatInt nf) nf [.v kI] [.t 2 (.v kS)] ir_spec_FormatInt (n, ())
noncomputable def X_spec_FormatInt {R : Type} (nf : Nat) : C → Env → (Xt → Env → Option R) → Option R := xc (R := R) (T_spec_FormatInt nf).S nf
noncomputable def j32_spec_FormatInt (nf : Nat) (m16 : Nat) (x0_16 : Int) (n : Int) (x4_16 : Str) (x5_32 : Int) : Option (Str) := X_spec_FormatInt nf c32_spec_FormatInt ⟨[(0, .v kI x0_16), (3, .v .bool (decide (n < (0 : Int)))), (4, .v kS x4_16), (5, .v kI x5_32)], []⟩ (qB 1 (qM [0, 3, 4] [] (X_spec_FormatInt nf c17_spec_FormatInt) m16 (qB 0 (qS (X_spec_FormatInt nf w35_spec_FormatInt) (KF [.t 2 (.v kS)])))))
noncomputable def l16_spec_FormatInt (nf : Nat) (m16 : Nat) (n : Int) (x0_16 : Int) (x4_16 : Str) : Option (Str) := xit [0, 3, 4] [] (X_spec_FormatInt nf c17_spec_FormatInt) (qB 0 (qS (X_spec_FormatInt nf w35_spec_FormatInt) (KF [.t 2 (.v kS)]))) m16 ⟨[(0, .v kI x0_16), (3, .v .bool (decide (n < (0 : Int)))), (4, .v kS x4_16)], []⟩
noncomputable def j35_spec_FormatInt (nf : Nat) (n : Int) (x4_16 : Str) : Option (Str) := X_spec_FormatInt nf c35_spec_FormatInt ⟨[(3, .v .bool (decide (n < (0 : Int)))), (4, .v kS x4_16)], []⟩ (KF [.t 2 (.v kS)])
theorem j32_spec_FormatInt_eq (nf : Nat) (m16 : Nat) (x0_16 : Int) (n : Int) (x4_16 : Str) (x5_32 : Int) : j32_spec_FormatInt nf m16 x0_16 n x4_16 x5_32 = (
  gg (List.length (bytesOf ([(IntKind.u8.wrap (w64 ((48 : Int) + x5_32)))] : List Int)) + List.length x4_16 ≤ 9223372036854775807) <|
    gg ((10 : Int) ≠ 0) <|
      mark (l16_spec_FormatInt nf m16 n (w64 (Int.tdiv x0_16 (10 : Int))) ((bytesOf ([(IntKind.u8.wrap (w64 ((48 : Int) + x5_32)))] : List Int)) ++ x4_16))) := by
  unfold j32_spec_FormatInt l16_spec_FormatInt c32_spec_FormatInt w35_spec_FormatInt
  generalize c35_spec_FormatInt = x0
  revert x0
  refine id ?_
  intro x0
  kernel_rfl
theorem l16_spec_FormatInt_eq (nf : Nat) (m16 : Nat) (n : Int) (x0_16 : Int) (x4_16 : Str) : l16_spec_FormatInt nf (m16 + 1) n x0_16 x4_16 = (
  br (!(x0_16 == (0 : Int))) (
    gg ((10 : Int) ≠ 0) <|
      br (decide ((w64 (Int.tmod x0_16 (10 : Int))) < (0 : Int))) (
        mark (j32_spec_FormatInt nf m16 x0_16 n x4_16 (w64 ((0 : Int) - (w64 (Int.tmod x0_16 (10 : Int))))))) (
        mark (j32_spec_FormatInt nf m16 x0_16 n x4_16 (w64 (Int.tmod x0_16 (10 : Int)))))) (
    mark (j35_spec_FormatInt nf n x4_16))) := by
  unfold l16_spec_FormatInt j32_spec_FormatInt j35_spec_FormatInt c17_spec_FormatInt w35_spec_FormatInt w32_spec_FormatInt
  generalize c35_spec_FormatInt = x0
  generalize c32_spec_FormatInt = x1
  revert x0 x1
  refine id ?_
  intro x0 x1
  kernel_rfl
theorem j35_spec_FormatInt_eq (nf : Nat) (n : Int) (x4_16 : Str) : j35_spec_FormatInt nf n x4_16 = (
  br (decide (n < (0 : Int))) (
    gg (List.length ([45] : Str) + List.length x4_16 ≤ 9223372036854775807) <|
      some (([45] : Str) ++ x4_16)) (
    some x4_16)) := by kernel_rfl
theorem m_spec_FormatInt_eq (nf : Nat) (n : Int) : m_spec_FormatInt nf n = (
  br (n == (0 : Int)) (
    some ([48] : Str)) (
    mark (l16_spec_FormatInt nf nf n n ([] : Str)))) := by
  unfold m_spec_FormatInt l16_spec_FormatInt ir_spec_FormatInt w35_spec_FormatInt
  generalize c35_spec_FormatInt = x0
  revert x0
  refine id ?_
  intro x0
  kernel_rfl
noncomputable def e_spec_FormatInt (nf : Nat) : XE := eF 23 [.v kI] [.v kS] (fun t => m_spec_FormatInt nf t.1)
theorem o_spec_FormatInt (nf : Nat) : conOK Tryd.prog 23 (e_spec_FormatInt nf).con := by
  have ih : XT.ok Tryd.prog (T_spec_FormatInt nf) := by exact trivial
  refine eF_ok fun t x h => ?_
  obtain ⟨n, _⟩ := t
  exact runF_ok (N := 31) ih Tryd.func23 (by kernel_rfl) rfl h
def ir_impl_FormatInt : C := .sq (.rg [.mv 2 (.s [])]) (.sq (.rg [.mv 3 (.t 0), .cv (some 4) 40 [((.t 3), .v kI)], .mv 2 (.t 4)]) .rt)
noncomputable abbrev T_impl_FormatInt (nf : Nat) : XT := [e_strconv_Itoa nf]
noncomputable def m_impl_FormatInt (nf : Nat) (n : Int) : Option (Str) := runF (T_impl_FormatInt nf) nf [.v kI] [.t 2 (.v kS)] ir_impl_FormatInt (n, ())
theorem m_impl_FormatInt_eq (nf : Nat) (n : Int) : m_impl_FormatInt nf n = (
  cb (m_strconv_Itoa nf n) fun r4 =>
    some r4) := by kernel_rfl
noncomputable def e_impl_FormatInt (nf : Nat) : XE := eF 25 [.v kI] [.v kS] (fun t => m_impl_FormatInt nf t.1)
theorem o_impl_FormatInt (nf : Nat) : conOK Tryd.prog 25 (e_impl_FormatInt nf).con := by
  have ih : XT.ok Tryd.prog (T_impl_FormatInt nf) := by exact ⟨o_strconv_Itoa nf, trivial⟩
  refine eF_ok fun t x h => ?_
  obtain ⟨n, _⟩ := t
  exact runF_ok (N := 5) ih Tryd.func25 (by kernel_rfl) rfl h
def c19_spec_KeyText : C := .sq (.rg [.mv 24 (.t 3), .mv 2 (.t 24)]) .rt
def c9_spec_KeyText : C := .sq (.sq (.rg [.mv 8 (.t 4), .fa 9 (.t 1) 14 1 1, .ld 10 (.t 9) (kL kI), .ln 11 false (.t 10), .bi 12 .lss (.t 8) (.t 11)]) (.cd (.t 12) .skip (.ex 0))) (.sq (.bk 1 (.rg [.mv 15 (.t 3), .bi 16 .add (.t 15) (.s [46]), .fa 17 (.t 1) 14 1 1, .ld 18 (.t 17) (kL kI), .mv 19 (.t 4), .ia 20 (.t 18) (.t 19) kI, .ld 21 (.t 20) kI, .cv (some 22) 23 [((.t 21), .v kI)], .bi 23 .add (.t 16) (.t 22), .mv 3 (.t 23)])) (.rg [.mv 13 (.t 4), .bi 14 .add (.t 13) (.i 1), .mv 4 (.t 14)]))
def ir_spec_KeyText : C := .sq (.rg [.bx 1 (.t 0) (kR 14), .mv 2 (.s [])]) (.sq (.rg [.fa 5 (.t 1) 14 0 0, .ld 6 (.t 5) kI, .cv (some 7) 23 [((.t 6), .v kI)], .mv 3 (.t 7)]) (.sq (.sq (.rg [.mv 4 (.i 0)]) (.bk 0 (.lk [1, 3, 4] [[1]] c9_spec_KeyText))) c19_spec_KeyText))
noncomputable abbrev T_spec_KeyText (nf : Nat) : XT := [e_spec_FormatInt nf]
noncomputable def m_spec_KeyText (nf : Nat) (x : Key) : Option (Str) := runF (T_spec_KeyText nf) nf [.v (kR 14)] [.t 2 (.v kS)] ir_spec_KeyText (x, ())
noncomputable def X_spec_KeyText {R : Type} (nf : Nat) : C → Env → (Xt → Env → Option R) → Option R := xc (R := R) (T_spec_KeyText nf).S nf
noncomputable def l8_spec_KeyText (nf : Nat) (m8 : Nat) (x : Key) (x3_8 : Str) (x4_8 : Int) : Option (Str) := xit [1, 3, 4] [[1]] (X_spec_KeyText nf c9_spec_KeyText) (qB 0 (qS (X_spec_KeyText nf c19_spec_KeyText) (KF [.t 2 (.v kS)]))) m8 ⟨[(1, .pt [1] 0), (3, .v kS x3_8), (4, .v kI x4_8)], [([1], .box [.v kI x.tag, .v (kL kI) x.rows])]⟩
theorem l8_spec_KeyText_eq (nf : Nat) (m8 : Nat) (x : Key) (x3_8 : Str) (x4_8 : Int) : l8_spec_KeyText nf (m8 + 1) x x3_8 x4_8 = (
  br (decide (x4_8 < (List.length x.rows : Int))) (
    gg (List.length x3_8 + List.length ([46] : Str) ≤ 9223372036854775807) <|
      gg (0 ≤ x4_8 ∧ x4_8 < (List.length x.rows : Int)) <|
        cb (m_spec_FormatInt nf (gt x.rows x4_8 (0 : Int))) fun r22 =>
          gg (List.length (x3_8 ++ ([46] : Str)) + List.length r22 ≤ 9223372036854775807) <|
            mark (l8_spec_KeyText nf m8 x ((x3_8 ++ ([46] : Str)) ++ r22) (w64 (x4_8 + (1 : Int))))) (
    some x3_8)) := by kernel_rfl
theorem m_spec_KeyText_eq (nf : Nat) (x : Key) : m_spec_KeyText nf x = (
  cb (m_spec_FormatInt nf x.tag) fun r7 =>
    mark (l8_spec_KeyText nf nf x r7 (0 : Int))) := by kernel_rfl
noncomputable def e_spec_KeyText (nf : Nat) : XE := eF 7 [.v (kR 14)] [.v kS] (fun t => m_spec_KeyText nf t.1)
theorem o_spec_KeyText (nf : Nat) : conOK Tryd.prog 7 (e_spec_KeyText nf).con := by
  have ih : XT.ok Tryd.prog (T_spec_KeyText nf) := by exact ⟨o_spec_FormatInt nf, trivial⟩
  refine eF_ok fun t x h => ?_
  obtain ⟨x, _⟩ := t
  exact runF_ok (N := 25) ih Tryd.func7 (by kernel_rfl) rfl h
def c21_impl_KeyText : C := .sq (.rg [.mv 22 (.t 3), .mv 2 (.t 22)]) .rt
def c9_impl_KeyText : C := .sq (.rg [.bi 13 .lss (.t 12) (.t 11)]) (.sq (.cd (.t 13) .skip (.ex 0)) (.sq (.bk 1 (.sq (.rg [.ia 14 (.t 10) (.t 12) kI, .ld 15 (.t 14) kI, .mv 5 (.t 15)]) (.rg [.mv 16 (.t 3), .mv 17 (.t 5), .cv (some 18) 25 [((.t 17), .v kI)], .bi 19 .add (.s [46]) (.t 18), .bi 20 .add (.t 16) (.t 19), .mv 3 (.t 20)]))) (.rg [.bi 21 .add (.t 12) (.i 1), .mv 12 (.t 21)])))
def ir_impl_KeyText : C := .sq (.rg [.bx 1 (.t 0) (kR 14), .mv 2 (.s [])]) (.sq (.rg [.fa 6 (.t 1) 14 0 0, .ld 7 (.t 6) kI, .cv (some 8) 25 [((.t 7), .v kI)], .mv 3 (.t 8)]) (.sq (.sq (.rg [.fa 9 (.t 1) 14 1 1, .ld 10 (.t 9) (kL kI), .ln 11 false (.t 10), .mv 12 (.i 0)]) (.bk 0 (.lk [3, 10, 11, 12] [] c9_impl_KeyText))) c21_impl_KeyText))
noncomputable abbrev T_impl_KeyText (nf : Nat) : XT := [e_impl_FormatInt nf]
noncomputable def m_impl_KeyText (nf : Nat) (x : Key) : Option (Str) := runF (T_impl_KeyText nf) nf [.v (kR 14)] [.t 2 (.v kS)] ir_impl_KeyText (x, ())
noncomputable def X_impl_KeyText {R : Type} (nf : Nat) : C → Env → (Xt → Env → Option R) → Option R := xc (R := R) (T_impl_KeyText nf).S nf
noncomputable def l8_impl_KeyText (nf : Nat) (m8 : Nat) (x : Key) (x3_8 : Str) (x12_8 : Int) : Option (Str) := xit [3, 10, 11, 12] [] (X_impl_KeyText nf c9_impl_KeyText) (qB 0 (qS (X_impl_KeyText nf c21_impl_KeyText) (KF [.t 2 (.v kS)]))) m8 ⟨[(3, .v kS x3_8), (10, .v (kL kI) x.rows), (11, .v kI (List.length x.rows : Int)), (12, .v kI x12_8)], []⟩
theorem l8_impl_KeyText_eq (nf : Nat) (m8 : Nat) (x : Key) (x3_8 : Str) (x12_8 : Int) : l8_impl_KeyText nf (m8 + 1) x x3_8 x12_8 = (
  br (decide (x12_8 < (List.length x.rows : Int))) (
    gg (0 ≤ x12_8 ∧ x12_8 < (List.length x.rows : Int)) <|
      cb (m_impl_FormatInt nf (gt x.rows x12_8 (0 : Int))) fun r18 =>
        gg (List.length ([46] : Str) + List.length r18 ≤ 9223372036854775807) <|
          gg (List.length x3_8 + List.length (([46] : Str) ++ r18) ≤ 9223372036854775807) <|
            mark (l8_impl_KeyText nf m8 x (x3_8 ++ (([46] : Str) ++ r18)) (w64 (x12_8 + (1 : Int))))) (
    some x3_8)) := by kernel_rfl
theorem m_impl_KeyText_eq (nf : Nat) (x : Key) : m_impl_KeyText nf x = (
  cb (m_impl_FormatInt nf x.tag) fun r8 =>
    mark (l8_impl_KeyText nf nf x r8 (0 : Int))) := by kernel_rfl
noncomputable def e_impl_KeyText (nf : Nat) : XE := eF 9 [.v (kR 14)] [.v kS] (fun t => m_impl_KeyText nf t.1)
theorem o_impl_KeyText (nf : Nat) : conOK Tryd.prog 9 (e_impl_KeyText nf).con := by
  have ih : XT.ok Tryd.prog (T_impl_KeyText nf) := by exact ⟨o_impl_FormatInt nf, trivial⟩
  refine eF_ok fun t x h => ?_
  obtain ⟨x, _⟩ := t
  exact runF_ok (N := 23) ih Tryd.func9 (by kernel_rfl) rfl h
def ir_laws_FnExactKeyText : C := .sq (.rg [.bx 1 (.t 0) (kR 14), .mv 2 (.b false)]) (.sq (.rg [.mv 3 (.i 1048576)]) (.sq (.rg [.ld 7 (.t 1) (kR 14), .mv 8 (.t 3), .cv (some 9) 6 [((.t 7), .v (kR 14)), ((.t 8), .v kI)], .mv 3 (.t 9)]) (.sq (.sq (.rg [.mv 10 (.t 3), .bi 11 .lss (.t 10) (.i 0)]) (.cd (.t 11) (.sq (.rg [.mv 2 (.b true)]) .rt) .skip)) (.sq (.rg [.ld 12 (.t 1) (kR 14), .cv (some 13) 8 [((.t 12), .v (kR 14))], .cv (some 14) 7 [((.t 13), .v (kR 14))], .mv 4 (.t 14)]) (.sq (.rg [.ld 15 (.t 1) (kR 14), .cv (some 16) 8 [((.t 15), .v (kR 14))], .al 5 (kR 14), .st (.t 5) (.t 16) (kR 14)]) (.sq (.rg [.ld 17 (.t 5) (kR 14), .cv (some 18) 9 [((.t 17), .v (kR 14))], .mv 6 (.t 18)]) (.sq (.sq (.rg [.mv 19 (.t 6), .mv 20 (.t 4), .bi 21 .neq (.t 19) (.t 20)]) (.cd (.t 21) (.sq (.rg [.mv 2 (.b false)]) .rt) .skip)) (.sq (.sq (.dr [] [.ld 22 (.t 5) (kR 14), .ld 23 (.t 1) (kR 14), .cv (some 24) 8 [((.t 23), .v (kR 14))]] [.cv (some 25) 10 [((.t 22), .v (kR 14)), ((.t 24), .v (kR 14))], .un 26 .not (.t 25)]) (.cd (.t 26) (.sq (.rg [.mv 2 (.b false)]) .rt) .skip)) (.sq (.rg [.mv 2 (.b true)]) .rt)))))))))
noncomputable abbrev T_laws_FnExactKeyText (nf : Nat) : XT := [e_laws_szKey nf, e_laws_toKey nf, e_spec_KeyText nf, e_impl_KeyText nf, e_laws_eqKey nf]
noncomputable def m_laws_FnExactKeyText (nf : Nat) (a : Key) : Option (Bool) := runF (T_laws_FnExactKeyText nf) nf [.v (kR 14)] [.t 2 (.v .bool)] ir_laws_FnExactKeyText (a, ())
theorem m_laws_FnExactKeyText_eq (nf : Nat) (a : Key) : m_laws_FnExactKeyText nf a = (
  cb (m_laws_szKey nf a (1048576 : Int)) fun r9 =>
    br (decide (r9 < (0 : Int))) (
      some true) (
      cb (m_laws_toKey nf a) fun r13 =>
        cb (m_spec_KeyText nf r13) fun r14 =>
          cb (m_laws_toKey nf a) fun r16 =>
            cb (m_impl_KeyText nf r16) fun r18 =>
              br (!(r18 == r14)) (
                some false) (
                cb (m_laws_toKey nf a) fun r24 =>
                  cb (m_laws_eqKey nf r16 r24) fun r25 =>
                    br (!r25) (
                      some false) (
                      some true)))) := by kernel_rfl
noncomputable def e_laws_FnExactKeyText (nf : Nat) : XE := eF 3 [.v (kR 14)] [.v .bool] (fun t => m_laws_FnExactKeyText nf t.1)
theorem o_laws_FnExactKeyText (nf : Nat) : conOK Tryd.prog 3 (e_laws_FnExactKeyText nf).con := by
  have ih : XT.ok Tryd.prog (T_laws_FnExactKeyText nf) := by exact ⟨o_laws_szKey nf, o_laws_toKey nf, o_spec_KeyText nf, o_impl_KeyText nf, o_laws_eqKey nf, trivial⟩
  refine eF_ok fun t x h => ?_
  obtain ⟨a, _⟩ := t
  exact runF_ok (N := 27) ih Tryd.func3 (by kernel_rfl) rfl h
end Go.Q
