/- Types: the program's side. -/
import Derived.Test.YtkbanchknllcnaaB7
import Derived.Test.YtkbanchknllcnaaProg
import Derived.KernelRfl
set_option linter.unusedVariables false
set_option linter.unusedSimpArgs false
namespace Go.Q
open Go.Proofs
set_option linter.unusedVariables false
set_option maxRecDepth 20000
set_option maxHeartbeats 4000000
def ir_impl_isSmall : C := .sq (.rg [.mv 2 (.b false)]) (.sq (.rg [.mv 3 (.t 0), .bi 4 .geq (.t 3) (.k .u8 97), .mv 5 (.t 4), .g 5 true (.mv 6 (.t 0)), .g 5 true (.bi 7 .leq (.t 6) (.k .u8 122)), .pk 8 (.t 5) (.t 7) (.b false), .mv 2 (.t 8)]) .rt)
noncomputable abbrev T_impl_isSmall (nf : Nat) : XT := []
noncomputable def m_impl_isSmall (nf : Nat) (c : Int) : Option (Bool) := runF (T_impl_isSmall nf) nf [.v (.int .u8)] [.t 2 (.v .bool)] ir_impl_isSmall (c, ())
theorem m_impl_isSmall_eq (nf : Nat) (c : Int) : m_impl_isSmall nf c = (
  br ((decide ((97 : Int) ≤ c)) == true) (
    some (decide (c ≤ (122 : Int)))) (
    some false)) := by kernel_rfl
noncomputable def e_impl_isSmall (nf : Nat) : XE := eF 192 [.v (.int .u8)] [.v .bool] (fun t => m_impl_isSmall nf t.1)
theorem o_impl_isSmall (nf : Nat) : conOK Try.prog 192 (e_impl_isSmall nf).con := by
  have ih : XT.ok Try.prog (T_impl_isSmall nf) := by exact trivial
  refine eF_ok fun t x h => ?_
  obtain ⟨c, _⟩ := t
  exact runF_ok (N := 9) ih Try.func192 (by kernel_rfl) rfl h
def ir_impl_isDigit : C := .sq (.rg [.mv 2 (.b false)]) (.sq (.rg [.mv 3 (.t 0), .bi 4 .geq (.t 3) (.k .u8 48), .mv 5 (.t 4), .g 5 true (.mv 6 (.t 0)), .g 5 true (.bi 7 .leq (.t 6) (.k .u8 57)), .pk 8 (.t 5) (.t 7) (.b false), .mv 2 (.t 8)]) .rt)
noncomputable abbrev T_impl_isDigit (nf : Nat) : XT := []
noncomputable def m_impl_isDigit (nf : Nat) (c : Int) : Option (Bool) := runF (T_impl_isDigit nf) nf [.v (.int .u8)] [.t 2 (.v .bool)] ir_impl_isDigit (c, ())
theorem m_impl_isDigit_eq (nf : Nat) (c : Int) : m_impl_isDigit nf c = (
  br ((decide ((48 : Int) ≤ c)) == true) (
    some (decide (c ≤ (57 : Int)))) (
    some false)) := by kernel_rfl
noncomputable def e_impl_isDigit (nf : Nat) : XE := eF 193 [.v (.int .u8)] [.v .bool] (fun t => m_impl_isDigit nf t.1)
theorem o_impl_isDigit (nf : Nat) : conOK Try.prog 193 (e_impl_isDigit nf).con := by
  have ih : XT.ok Try.prog (T_impl_isDigit nf) := by exact trivial
  refine eF_ok fun t x h => ?_
  obtain ⟨c, _⟩ := t
  exact runF_ok (N := 9) ih Try.func193 (by kernel_rfl) rfl h
def c33_impl_IsName : C := .sq (.rg [.mv 2 (.b true)]) .rt
def c32_impl_IsName : C := .rg [.bi 43 .add (.t 28) (.i 1), .mv 28 (.t 43)]
def c27_impl_IsName : C := .cd (.t 42) (.sq (.rg [.mv 2 (.b false)]) .rt) .skip
def w27_impl_IsName : C := .kp [0, 27, 28, 42] [] c27_impl_IsName
def c15_impl_IsName : C := .sq (.rg [.bi 29 .lss (.t 28) (.t 27)]) (.sq (.cd (.t 29) .skip (.ex 0)) (.sq (.bk 1 (.sq (.rg [.mv 30 (.t 28), .mv 3 (.t 30)]) (.sq (.rg [.mv 31 (.t 0), .mv 32 (.t 3), .ix 33 (.t 31) (.t 32), .cv (some 34) 192 [((.t 33), .v (.int .u8))], .un 35 .not (.t 34), .mv 36 (.t 35), .g 36 true (.mv 37 (.t 0)), .g 36 true (.mv 38 (.t 3)), .g 36 true (.ix 39 (.t 37) (.t 38)), .g 36 true (.cv (some 40) 193 [((.t 39), .v (.int .u8))]), .g 36 true (.un 41 .not (.t 40)), .pk 42 (.t 36) (.t 41) (.b false)]) w27_impl_IsName))) c32_impl_IsName))
def c10_impl_IsName : C := .sq (.sq (.rg [.mv 26 (.t 0), .ln 27 true (.t 26), .mv 28 (.i 0)]) (.bk 0 (.lk [0, 27, 28] [] c15_impl_IsName))) c33_impl_IsName
def c5_impl_IsName : C := .cd (.t 25) (.sq (.rg [.mv 2 (.b false)]) .rt) .skip
def w5_impl_IsName : C := .kp [0, 25] [] c5_impl_IsName
def ir_impl_IsName : C := .sq (.rg [.mv 2 (.b false)]) (.sq (.sq (.rg [.mv 4 (.t 0), .ln 5 true (.t 4), .bi 6 .lss (.t 5) (.i 1), .mv 7 (.t 6), .g 7 false (.mv 8 (.t 0)), .g 7 false (.ln 9 true (.t 8)), .g 7 false (.bi 10 .gtr (.t 9) (.i 4)), .pk 11 (.t 7) (.b true) (.t 10), .mv 12 (.t 11), .g 12 false (.mv 13 (.t 0)), .g 12 false (.ix 14 (.t 13) (.i 0)), .g 12 false (.cv (some 15) 192 [((.t 14), .v (.int .u8))]), .g 12 false (.un 16 .not (.t 15)), .pk 17 (.t 12) (.b true) (.t 16), .mv 18 (.t 17), .g 18 false (.mv 19 (.t 0)), .g 18 false (.bi 20 .eql (.t 19) (.s [105, 102])), .pk 21 (.t 18) (.b true) (.t 20), .mv 22 (.t 21), .g 22 false (.mv 23 (.t 0)), .g 22 false (.bi 24 .eql (.t 23) (.s [102, 111, 114])), .pk 25 (.t 22) (.b true) (.t 24)]) w5_impl_IsName) c10_impl_IsName)
noncomputable abbrev T_impl_IsName (nf : Nat) : XT := [e_impl_isSmall nf, e_impl_isDigit nf]
noncomputable def m_impl_IsName (nf : Nat) (s : Str) : Option (Bool) := runF (T_impl_IsName nf) nf [.v kS] [.t 2 (.v .bool)] ir_impl_IsName (s, ())
noncomputable def X_impl_IsName {R : Type} (nf : Nat) : C → Env → (Xt → Env → Option R) → Option R := xc (R := R) (T_impl_IsName nf).S nf
noncomputable def j5_impl_IsName (nf : Nat) (s : Str) (x25_5 : Bool) : Option (Bool) := X_impl_IsName nf c5_impl_IsName ⟨[(0, .v kS s), (25, .v .bool x25_5)], []⟩ (qS (X_impl_IsName nf c10_impl_IsName) (KF [.t 2 (.v .bool)]))
noncomputable def j27_impl_IsName (nf : Nat) (m14 : Nat) (s : Str) (x28_14 : Int) (x42_27 : Bool) : Option (Bool) := X_impl_IsName nf c27_impl_IsName ⟨[(0, .v kS s), (27, .v kI (List.length s : Int)), (28, .v kI x28_14), (42, .v .bool x42_27)], []⟩ (qB 1 (qS (X_impl_IsName nf c32_impl_IsName) (qM [0, 27, 28] [] (X_impl_IsName nf c15_impl_IsName) m14 (qB 0 (qS (X_impl_IsName nf c33_impl_IsName) (KF [.t 2 (.v .bool)]))))))
noncomputable def l14_impl_IsName (nf : Nat) (m14 : Nat) (s : Str) (x28_14 : Int) : Option (Bool) := xit [0, 27, 28] [] (X_impl_IsName nf c15_impl_IsName) (qB 0 (qS (X_impl_IsName nf c33_impl_IsName) (KF [.t 2 (.v .bool)]))) m14 ⟨[(0, .v kS s), (27, .v kI (List.length s : Int)), (28, .v kI x28_14)], []⟩
theorem j5_impl_IsName_eq (nf : Nat) (s : Str) (x25_5 : Bool) : j5_impl_IsName nf s x25_5 = (
  br x25_5 (
    some false) (
    mark (l14_impl_IsName nf nf s (0 : Int)))) := by kernel_rfl
theorem j27_impl_IsName_eq (nf : Nat) (m14 : Nat) (s : Str) (x28_14 : Int) (x42_27 : Bool) : j27_impl_IsName nf m14 s x28_14 x42_27 = (
  br x42_27 (
    some false) (
    mark (l14_impl_IsName nf m14 s (w64 (x28_14 + (1 : Int)))))) := by kernel_rfl
theorem l14_impl_IsName_eq (nf : Nat) (m14 : Nat) (s : Str) (x28_14 : Int) : l14_impl_IsName nf (m14 + 1) s x28_14 = (
  br (decide (x28_14 < (List.length s : Int))) (
    gg (0 ≤ x28_14 ∧ x28_14 < (List.length s : Int)) <|
      cb (m_impl_isSmall nf ((List.getD s (Int.toNat x28_14) 0).toNat : Int)) fun r34 =>
        br ((!r34) == true) (
          gg (0 ≤ x28_14 ∧ x28_14 < (List.length s : Int)) <|
            cb (m_impl_isDigit nf ((List.getD s (Int.toNat x28_14) 0).toNat : Int)) fun r40 =>
              mark (j27_impl_IsName nf m14 s x28_14 (!r40))) (
          mark (j27_impl_IsName nf m14 s x28_14 false))) (
    some true)) := by
  unfold l14_impl_IsName j27_impl_IsName c15_impl_IsName c33_impl_IsName w27_impl_IsName c32_impl_IsName
  generalize c27_impl_IsName = x0
  revert x0
  refine id ?_
  intro x0
  kernel_rfl
theorem m_impl_IsName_eq (nf : Nat) (s : Str) : m_impl_IsName nf s = (
  br ((decide ((List.length s : Int) < (1 : Int))) == false) (
    br ((decide ((4 : Int) < (List.length s : Int))) == false) (
      gg (0 ≤ (0 : Int) ∧ (0 : Int) < (List.length s : Int)) <|
        cb (m_impl_isSmall nf ((List.getD s (Int.toNat (0 : Int)) 0).toNat : Int)) fun r15 =>
          br ((!r15) == false) (
            br ((s == ([105, 102] : Str)) == false) (
              mark (j5_impl_IsName nf s (s == ([102, 111, 114] : Str)))) (
              mark (j5_impl_IsName nf s true))) (
            mark (j5_impl_IsName nf s true))) (
      mark (j5_impl_IsName nf s true))) (
    mark (j5_impl_IsName nf s true))) := by
  unfold m_impl_IsName j5_impl_IsName ir_impl_IsName w5_impl_IsName c10_impl_IsName c33_impl_IsName
  generalize c5_impl_IsName = x0
  revert x0
  refine id ?_
  intro x0
  kernel_rfl
noncomputable def e_impl_IsName (nf : Nat) : XE := eF 194 [.v kS] [.v .bool] (fun t => m_impl_IsName nf t.1)
theorem o_impl_IsName (nf : Nat) : conOK Try.prog 194 (e_impl_IsName nf).con := by
  have ih : XT.ok Try.prog (T_impl_IsName nf) := by exact ⟨o_impl_isSmall nf, o_impl_isDigit nf, trivial⟩
  refine eF_ok fun t x h => ?_
  obtain ⟨s, _⟩ := t
  exact runF_ok (N := 44) ih Try.func194 (by kernel_rfl) rfl h
def c23_impl_AreAscending : C := .sq (.rg [.mv 2 (.b true)]) .rt
def c7_impl_AreAscending : C := .sq (.sq (.rg [.mv 4 (.t 3), .mv 5 (.t 0), .ln 6 false (.t 5), .bi 7 .lss (.t 4) (.t 6)]) (.cd (.t 7) .skip (.ex 0))) (.sq (.bk 1 (.sq (.dr [] [.mv 10 (.t 0), .mv 11 (.t 3), .bi 12 .sub (.t 11) (.i 1), .ia 13 (.t 10) (.t 12) kS, .ld 14 (.t 13) kS, .mv 15 (.t 0), .mv 16 (.t 3), .ia 17 (.t 15) (.t 16) kS, .ld 18 (.t 17) kS] [.bi 19 .geq (.t 14) (.t 18)]) (.cd (.t 19) (.sq (.rg [.mv 2 (.b false)]) .rt) .skip))) (.rg [.mv 8 (.t 3), .bi 9 .add (.t 8) (.i 1), .mv 3 (.t 9)]))
def ir_impl_AreAscending : C := .sq (.rg [.mv 2 (.b false)]) (.sq (.sq (.rg [.mv 3 (.i 1)]) (.bk 0 (.lk [0, 3] [] c7_impl_AreAscending))) c23_impl_AreAscending)
noncomputable abbrev T_impl_AreAscending (nf : Nat) : XT := []
noncomputable def m_impl_AreAscending (nf : Nat) (list : List Str) : Option (Bool) := runF (T_impl_AreAscending nf) nf [.v (kL kS)] [.t 2 (.v .bool)] ir_impl_AreAscending (list, ())
noncomputable def X_impl_AreAscending {R : Type} (nf : Nat) : C → Env → (Xt → Env → Option R) → Option R := xc (R := R) (T_impl_AreAscending nf).S nf
noncomputable def l6_impl_AreAscending (nf : Nat) (m6 : Nat) (list : List Str) (x3_6 : Int) : Option (Bool) := xit [0, 3] [] (X_impl_AreAscending nf c7_impl_AreAscending) (qB 0 (qS (X_impl_AreAscending nf c23_impl_AreAscending) (KF [.t 2 (.v .bool)]))) m6 ⟨[(0, .v (kL kS) list), (3, .v kI x3_6)], []⟩
theorem l6_impl_AreAscending_eq (nf : Nat) (m6 : Nat) (list : List Str) (x3_6 : Int) : l6_impl_AreAscending nf (m6 + 1) list x3_6 = (
  br (decide (x3_6 < (List.length list : Int))) (
    gg (0 ≤ (w64 (x3_6 - (1 : Int))) ∧ (w64 (x3_6 - (1 : Int))) < (List.length list : Int)) <|
      gg (0 ≤ x3_6 ∧ x3_6 < (List.length list : Int)) <|
        br (!(Op.bytesLess (gt list (w64 (x3_6 - (1 : Int))) ([] : Str)) (gt list x3_6 ([] : Str)))) (
          some false) (
          mark (l6_impl_AreAscending nf m6 list (w64 (x3_6 + (1 : Int)))))) (
    some true)) := by kernel_rfl
theorem m_impl_AreAscending_eq (nf : Nat) (list : List Str) : m_impl_AreAscending nf list = (
  mark (l6_impl_AreAscending nf nf list (1 : Int))) := by kernel_rfl
noncomputable def e_impl_AreAscending (nf : Nat) : XE := eF 211 [.v (kL kS)] [.v .bool] (fun t => m_impl_AreAscending nf t.1)
theorem o_impl_AreAscending (nf : Nat) : conOK Try.prog 211 (e_impl_AreAscending nf).con := by
  have ih : XT.ok Try.prog (T_impl_AreAscending nf) := by exact trivial
  refine eF_ok fun t x h => ?_
  obtain ⟨list, _⟩ := t
  exact runF_ok (N := 20) ih Try.func211 (by kernel_rfl) rfl h
def ir_impl_labelsOk_1 : C := .sq (.rg [.mv 2 (.b false)]) (.sq (.rg [.mv 3 (.t 0), .cv (some 4) 194 [((.t 3), .v kS)], .un 5 .not (.t 4), .mv 2 (.t 5)]) .rt)
noncomputable abbrev T_impl_labelsOk_1 (nf : Nat) : XT := [e_impl_IsName nf]
noncomputable def m_impl_labelsOk_1 (nf : Nat) (s : Str) : Option (Bool) := runF (T_impl_labelsOk_1 nf) nf [.v kS] [.t 2 (.v .bool)] ir_impl_labelsOk_1 (s, ())
theorem m_impl_labelsOk_1_eq (nf : Nat) (s : Str) : m_impl_labelsOk_1 nf s = (
  cb (m_impl_IsName nf s) fun r4 =>
    some (!r4)) := by kernel_rfl
noncomputable def e_impl_labelsOk_1 (nf : Nat) : XE := eF 212 [.v kS] [.v .bool] (fun t => m_impl_labelsOk_1 nf t.1)
theorem o_impl_labelsOk_1 (nf : Nat) : conOK Try.prog 212 (e_impl_labelsOk_1 nf).con := by
  have ih : XT.ok Try.prog (T_impl_labelsOk_1 nf) := by exact ⟨o_impl_IsName nf, trivial⟩
  refine eF_ok fun t x h => ?_
  obtain ⟨s, _⟩ := t
  exact runF_ok (N := 6) ih Try.func212 (by kernel_rfl) rfl h
def c25_IndexFunc_labelsOk : C := .sq (.rg [.mv 4 (.i (-1))]) .rt
def c7_IndexFunc_labelsOk : C := .sq (.rg [.bi 9 .lss (.t 8) (.t 7)]) (.sq (.cd (.t 9) .skip (.ex 0)) (.sq (.bk 1 (.sq (.rg [.mv 10 (.t 8), .mv 5 (.t 10)]) (.sq (.rg [.mv 11 (.t 1), .mv 12 (.t 0), .mv 13 (.t 5), .ia 14 (.t 12) (.t 13) kS, .ld 15 (.t 14) kS, .cf (some 16) (.t 11) [((.t 15), .v kS)]]) (.cd (.t 16) (.sq (.rg [.mv 17 (.t 5), .mv 4 (.t 17)]) .rt) .skip)))) (.rg [.bi 18 .add (.t 8) (.i 1), .mv 8 (.t 18)])))
def ir_IndexFunc_labelsOk : C := .sq (.rg [.mv 4 (.i 0)]) (.sq (.sq (.rg [.mv 6 (.t 0), .ln 7 false (.t 6), .mv 8 (.i 0)]) (.bk 0 (.lk [0, 1, 7, 8] [] c7_IndexFunc_labelsOk))) c25_IndexFunc_labelsOk)
noncomputable abbrev T_IndexFunc_labelsOk (nf : Nat) : XT := [e_impl_labelsOk_1 nf]
noncomputable def m_IndexFunc_labelsOk (nf : Nat) (s : List Str) : Option (Int) := runF (T_IndexFunc_labelsOk nf) nf [.v (kL kS), .fn 212 []] [.t 4 (.v kI)] ir_IndexFunc_labelsOk (s, (()), ())
noncomputable def X_IndexFunc_labelsOk {R : Type} (nf : Nat) : C → Env → (Xt → Env → Option R) → Option R := xc (R := R) (T_IndexFunc_labelsOk nf).S nf
noncomputable def l6_IndexFunc_labelsOk (nf : Nat) (m6 : Nat) (s : List Str) (x8_6 : Int) : Option (Int) := xit [0, 1, 7, 8] [] (X_IndexFunc_labelsOk nf c7_IndexFunc_labelsOk) (qB 0 (qS (X_IndexFunc_labelsOk nf c25_IndexFunc_labelsOk) (KF [.t 4 (.v kI)]))) m6 ⟨[(0, .v (kL kS) s), (1, .fn 212 []), (7, .v kI (List.length s : Int)), (8, .v kI x8_6)], []⟩
theorem l6_IndexFunc_labelsOk_eq (nf : Nat) (m6 : Nat) (s : List Str) (x8_6 : Int) : l6_IndexFunc_labelsOk nf (m6 + 1) s x8_6 = (
  br (decide (x8_6 < (List.length s : Int))) (
    gg (0 ≤ x8_6 ∧ x8_6 < (List.length s : Int)) <|
      cb (m_impl_labelsOk_1 nf (gt s x8_6 ([] : Str))) fun r16 =>
        br r16 (
          some x8_6) (
          mark (l6_IndexFunc_labelsOk nf m6 s (w64 (x8_6 + (1 : Int)))))) (
    some (-1 : Int))) := by kernel_rfl
theorem m_IndexFunc_labelsOk_eq (nf : Nat) (s : List Str) : m_IndexFunc_labelsOk nf s = (
  mark (l6_IndexFunc_labelsOk nf nf s (0 : Int))) := by kernel_rfl
noncomputable def e_IndexFunc_labelsOk (nf : Nat) : XE := eF 220 [.v (kL kS), .fn 212 []] [.v kI] (fun t => m_IndexFunc_labelsOk nf t.1)
theorem o_IndexFunc_labelsOk (nf : Nat) : conOK Try.prog 220 (e_IndexFunc_labelsOk nf).con := by
  have ih : XT.ok Try.prog (T_IndexFunc_labelsOk nf) := by exact ⟨o_impl_labelsOk_1 nf, trivial⟩
  refine eF_ok fun t x h => ?_
  obtain ⟨s, _, _⟩ := t
  exact runF_ok (N := 19) ih Try.func220 (by kernel_rfl) rfl h
def ir_ContainsFunc_labelsOk : C := .sq (.rg [.mv 4 (.b false)]) (.sq (.rg [.mv 5 (.t 0), .mv 6 (.t 1), .cv (some 7) 220 [((.t 5), .v (kL kS)), ((.t 6), .fn)], .bi 8 .geq (.t 7) (.i 0), .mv 4 (.t 8)]) .rt)
noncomputable abbrev T_ContainsFunc_labelsOk (nf : Nat) : XT := [e_IndexFunc_labelsOk nf]
noncomputable def m_ContainsFunc_labelsOk (nf : Nat) (s : List Str) : Option (Bool) := runF (T_ContainsFunc_labelsOk nf) nf [.v (kL kS), .fn 212 []] [.t 4 (.v .bool)] ir_ContainsFunc_labelsOk (s, (()), ())
theorem m_ContainsFunc_labelsOk_eq (nf : Nat) (s : List Str) : m_ContainsFunc_labelsOk nf s = (
  cb (m_IndexFunc_labelsOk nf s) fun r7 =>
    some (decide ((0 : Int) ≤ r7))) := by kernel_rfl
noncomputable def e_ContainsFunc_labelsOk (nf : Nat) : XE := eF 206 [.v (kL kS), .fn 212 []] [.v .bool] (fun t => m_ContainsFunc_labelsOk nf t.1)
theorem o_ContainsFunc_labelsOk (nf : Nat) : conOK Try.prog 206 (e_ContainsFunc_labelsOk nf).con := by
  have ih : XT.ok Try.prog (T_ContainsFunc_labelsOk nf) := by exact ⟨o_IndexFunc_labelsOk nf, trivial⟩
  refine eF_ok fun t x h => ?_
  obtain ⟨s, _, _⟩ := t
  exact runF_ok (N := 9) ih Try.func206 (by kernel_rfl) rfl h
def c10_impl_labelsOk : C := .sq (.rg [.mv 16 (.t 0), .cv (some 17) 206 [((.t 16), .v (kL kS)), ((.f 212), .fn)], .un 18 .not (.t 17), .mv 2 (.t 18)]) .rt
def c5_impl_labelsOk : C := .cd (.t 15) (.sq (.rg [.mv 2 (.b false)]) .rt) .skip
def w5_impl_labelsOk : C := .kp [0, 15] [] c5_impl_labelsOk
def ir_impl_labelsOk : C := .sq (.rg [.mv 2 (.b false)]) (.sq (.sq (.rg [.mv 3 (.t 0), .ln 4 false (.t 3), .bi 5 .lss (.t 4) (.i 1), .mv 6 (.t 5), .g 6 false (.mv 7 (.t 0)), .g 6 false (.ln 8 false (.t 7)), .g 6 false (.bi 9 .gtr (.t 8) (.i 4)), .pk 10 (.t 6) (.b true) (.t 9), .mv 11 (.t 10), .g 11 false (.mv 12 (.t 0)), .g 11 false (.cv (some 13) 211 [((.t 12), .v (kL kS))]), .g 11 false (.un 14 .not (.t 13)), .pk 15 (.t 11) (.b true) (.t 14)]) w5_impl_labelsOk) c10_impl_labelsOk)
noncomputable abbrev T_impl_labelsOk (nf : Nat) : XT := [e_impl_AreAscending nf, e_ContainsFunc_labelsOk nf]
noncomputable def m_impl_labelsOk (nf : Nat) (labels : List Str) : Option (Bool) := runF (T_impl_labelsOk nf) nf [.v (kL kS)] [.t 2 (.v .bool)] ir_impl_labelsOk (labels, ())
noncomputable def X_impl_labelsOk {R : Type} (nf : Nat) : C → Env → (Xt → Env → Option R) → Option R := xc (R := R) (T_impl_labelsOk nf).S nf
noncomputable def j5_impl_labelsOk (nf : Nat) (labels : List Str) (x15_5 : Bool) : Option (Bool) := X_impl_labelsOk nf c5_impl_labelsOk ⟨[(0, .v (kL kS) labels), (15, .v .bool x15_5)], []⟩ (qS (X_impl_labelsOk nf c10_impl_labelsOk) (KF [.t 2 (.v .bool)]))
theorem j5_impl_labelsOk_eq (nf : Nat) (labels : List Str) (x15_5 : Bool) : j5_impl_labelsOk nf labels x15_5 = (
  br x15_5 (
    some false) (
    cb (m_ContainsFunc_labelsOk nf labels) fun r17 =>
      some (!r17))) := by kernel_rfl
theorem m_impl_labelsOk_eq (nf : Nat) (labels : List Str) : m_impl_labelsOk nf labels = (
  br ((decide ((List.length labels : Int) < (1 : Int))) == false) (
    br ((decide ((4 : Int) < (List.length labels : Int))) == false) (
      cb (m_impl_AreAscending nf labels) fun r13 =>
        mark (j5_impl_labelsOk nf labels (!r13))) (
      mark (j5_impl_labelsOk nf labels true))) (
    mark (j5_impl_labelsOk nf labels true))) := by
  unfold m_impl_labelsOk j5_impl_labelsOk ir_impl_labelsOk w5_impl_labelsOk c10_impl_labelsOk
  generalize c5_impl_labelsOk = x0
  revert x0
  refine id ?_
  intro x0
  kernel_rfl
noncomputable def e_impl_labelsOk (nf : Nat) : XE := eF 187 [.v (kL kS)] [.v .bool] (fun t => m_impl_labelsOk nf t.1)
theorem o_impl_labelsOk (nf : Nat) : conOK Try.prog 187 (e_impl_labelsOk nf).con := by
  have ih : XT.ok Try.prog (T_impl_labelsOk nf) := by exact ⟨o_impl_AreAscending nf, o_ContainsFunc_labelsOk nf, trivial⟩
  refine eF_ok fun t x h => ?_
  obtain ⟨labels, _⟩ := t
  exact runF_ok (N := 19) ih Try.func187 (by kernel_rfl) rfl h
def c21_impl_SizeOfType : C := .sq (.rg [.mv 18 (.t 3), .mv 2 (.t 18)]) .rt
def c9_impl_SizeOfType : C := .sq (.rg [.bi 10 .lss (.t 9) (.t 8)]) (.sq (.cd (.t 10) .skip (.ex 0)) (.sq (.bk 1 (.sq (.rg [.ia 11 (.t 7) (.t 9) (kR 0), .ld 12 (.t 11) (kR 0), .al 5 (kR 0), .st (.t 5) (.t 12) (kR 0)]) (.rg [.mv 13 (.t 3), .ld 14 (.t 5) (kR 0), .cv (some 15) 143 [((.t 14), .v (kR 0))], .bi 16 .add (.t 13) (.t 15), .mv 3 (.t 16)]))) (.rg [.bi 17 .add (.t 9) (.i 1), .mv 9 (.t 17)])))
def ir_impl_SizeOfType : C := .sq (.rg [.bx 1 (.t 0) (kR 0), .mv 2 (.i 0)]) (.sq (.rg [.mv 3 (.i 1)]) (.sq (.sq (.rg [.fa 6 (.t 1) 0 2 2, .ld 7 (.t 6) (kL (kR 0)), .ln 8 false (.t 7), .mv 9 (.i 0)]) (.bk 0 (.lk [3, 7, 8, 9] [] c9_impl_SizeOfType))) c21_impl_SizeOfType))
noncomputable def B_impl_SizeOfType (nf : Nat) : XT := []
noncomputable def G_impl_SizeOfType (nf : Nat) : Nat → XT
  | 0 => []
  | kf + 1 => [eF 143 [.v (kR 0)] [.v kI] (fun t => (fun (t : Ty) => runF (G_impl_SizeOfType nf kf ++ B_impl_SizeOfType nf) nf [.v (kR 0)] [.t 2 (.v kI)] ir_impl_SizeOfType (t, ())) t.1)]
noncomputable abbrev T_impl_SizeOfType (nf kf : Nat) : XT := G_impl_SizeOfType nf kf ++ B_impl_SizeOfType nf
noncomputable def m_impl_SizeOfType (nf kf : Nat) (t : Ty) : Option (Int) := runF (T_impl_SizeOfType nf kf) nf [.v (kR 0)] [.t 2 (.v kI)] ir_impl_SizeOfType (t, ())
noncomputable def X_impl_SizeOfType {R : Type} (nf kf : Nat) : C → Env → (Xt → Env → Option R) → Option R := xc (R := R) (T_impl_SizeOfType nf kf).S nf
noncomputable def l8_impl_SizeOfType (nf kf : Nat) (m8 : Nat) (t : Ty) (x3_8 : Int) (x9_8 : Int) : Option (Int) := xit [3, 7, 8, 9] [] (X_impl_SizeOfType nf kf c9_impl_SizeOfType) (qB 0 (qS (X_impl_SizeOfType nf kf c21_impl_SizeOfType) (KF [.t 2 (.v kI)]))) m8 ⟨[(3, .v kI x3_8), (7, .v (kL (kR 0)) t.args), (8, .v kI (List.length t.args : Int)), (9, .v kI x9_8)], []⟩
theorem l8_impl_SizeOfType_eq (nf kf : Nat) (m8 : Nat) (t : Ty) (x3_8 : Int) (x9_8 : Int) : l8_impl_SizeOfType nf (kf + 1) (m8 + 1) t x3_8 x9_8 = (
  br (decide (x9_8 < (List.length t.args : Int))) (
    gg (0 ≤ x9_8 ∧ x9_8 < (List.length t.args : Int)) <|
      cb (m_impl_SizeOfType nf kf (Ty.h (gt t.args x9_8 Ty.zero))) fun r15 =>
        mark (l8_impl_SizeOfType nf (kf + 1) m8 t (w64 (x3_8 + r15)) (w64 (x9_8 + (1 : Int))))) (
    some x3_8)) := by kernel_rfl
theorem m_impl_SizeOfType_eq (nf kf : Nat) (t : Ty) : m_impl_SizeOfType nf (kf + 1) t = (
  mark (l8_impl_SizeOfType nf (kf + 1) nf t (1 : Int) (0 : Int))) := by kernel_rfl
noncomputable def e_impl_SizeOfType (nf : Nat) : XE := eF 143 [.v (kR 0)] [.v kI] (fun t => m_impl_SizeOfType nf nf t.1)
theorem gok_impl_SizeOfType (nf : Nat) : ∀ kf : Nat, XT.ok Try.prog (G_impl_SizeOfType nf kf ++ B_impl_SizeOfType nf)
  | 0 => by exact trivial
  | kf + 1 => by
    have ih := gok_impl_SizeOfType nf kf
    refine ⟨?_, (by exact trivial)⟩
    · refine eF_ok fun t x h => ?_
      obtain ⟨t, _⟩ := t
      exact runF_ok (N := 19) ih Try.func143 (by kernel_rfl) rfl h
theorem o_impl_SizeOfType (nf : Nat) : conOK Try.prog 143 (e_impl_SizeOfType nf).con := by
  have ih := gok_impl_SizeOfType nf nf
  refine eF_ok fun t x h => ?_
  obtain ⟨t, _⟩ := t
  exact runF_ok (N := 19) ih Try.func143 (by kernel_rfl) rfl h
def c25_slices_Index_string_string : C := .sq (.rg [.mv 4 (.i (-1))]) .rt
def c7_slices_Index_string_string : C := .sq (.rg [.bi 9 .lss (.t 8) (.t 7)]) (.sq (.cd (.t 9) .skip (.ex 0)) (.sq (.bk 1 (.sq (.rg [.mv 10 (.t 8), .mv 5 (.t 10)]) (.sq (.rg [.mv 11 (.t 1), .mv 12 (.t 0), .mv 13 (.t 5), .ia 14 (.t 12) (.t 13) kS, .ld 15 (.t 14) kS, .bi 16 .eql (.t 11) (.t 15)]) (.cd (.t 16) (.sq (.rg [.mv 17 (.t 5), .mv 4 (.t 17)]) .rt) .skip)))) (.rg [.bi 18 .add (.t 8) (.i 1), .mv 8 (.t 18)])))
def ir_slices_Index_string_string : C := .sq (.rg [.mv 4 (.i 0)]) (.sq (.sq (.rg [.mv 6 (.t 0), .ln 7 false (.t 6), .mv 8 (.i 0)]) (.bk 0 (.lk [0, 1, 7, 8] [] c7_slices_Index_string_string))) c25_slices_Index_string_string)
noncomputable abbrev T_slices_Index_string_string (nf : Nat) : XT := []
noncomputable def m_slices_Index_string_string (nf : Nat) (s : List Str) (v : Str) : Option (Int) := runF (T_slices_Index_string_string nf) nf [.v (kL kS), .v kS] [.t 4 (.v kI)] ir_slices_Index_string_string (s, v, ())
noncomputable def X_slices_Index_string_string {R : Type} (nf : Nat) : C → Env → (Xt → Env → Option R) → Option R := xc (R := R) (T_slices_Index_string_string nf).S nf
noncomputable def l6_slices_Index_string_string (nf : Nat) (m6 : Nat) (s : List Str) (v : Str) (x8_6 : Int) : Option (Int) := xit [0, 1, 7, 8] [] (X_slices_Index_string_string nf c7_slices_Index_string_string) (qB 0 (qS (X_slices_Index_string_string nf c25_slices_Index_string_string) (KF [.t 4 (.v kI)]))) m6 ⟨[(0, .v (kL kS) s), (1, .v kS v), (7, .v kI (List.length s : Int)), (8, .v kI x8_6)], []⟩
theorem l6_slices_Index_string_string_eq (nf : Nat) (m6 : Nat) (s : List Str) (v : Str) (x8_6 : Int) : l6_slices_Index_string_string nf (m6 + 1) s v x8_6 = (
  br (decide (x8_6 < (List.length s : Int))) (
    gg (0 ≤ x8_6 ∧ x8_6 < (List.length s : Int)) <|
      br (v == (gt s x8_6 ([] : Str))) (
        some x8_6) (
        mark (l6_slices_Index_string_string nf m6 s v (w64 (x8_6 + (1 : Int)))))) (
    some (-1 : Int))) := by kernel_rfl
theorem m_slices_Index_string_string_eq (nf : Nat) (s : List Str) (v : Str) : m_slices_Index_string_string nf s v = (
  mark (l6_slices_Index_string_string nf nf s v (0 : Int))) := by kernel_rfl
noncomputable def e_slices_Index_string_string (nf : Nat) : XE := eF 151 [.v (kL kS), .v kS] [.v kI] (fun t => m_slices_Index_string_string nf t.1 t.2.1)
theorem o_slices_Index_string_string (nf : Nat) : conOK Try.prog 151 (e_slices_Index_string_string nf).con := by
  have ih : XT.ok Try.prog (T_slices_Index_string_string nf) := by exact trivial
  refine eF_ok fun t x h => ?_
  obtain ⟨s, v, _⟩ := t
  exact runF_ok (N := 19) ih Try.func151 (by kernel_rfl) rfl h
def ir_slices_Contains_string_string : C := .sq (.rg [.mv 4 (.b false)]) (.sq (.rg [.mv 5 (.t 0), .mv 6 (.t 1), .cv (some 7) 151 [((.t 5), .v (kL kS)), ((.t 6), .v kS)], .bi 8 .geq (.t 7) (.i 0), .mv 4 (.t 8)]) .rt)
noncomputable abbrev T_slices_Contains_string_string (nf : Nat) : XT := [e_slices_Index_string_string nf]
noncomputable def m_slices_Contains_string_string (nf : Nat) (s : List Str) (v : Str) : Option (Bool) := runF (T_slices_Contains_string_string nf) nf [.v (kL kS), .v kS] [.t 4 (.v .bool)] ir_slices_Contains_string_string (s, v, ())
theorem m_slices_Contains_string_string_eq (nf : Nat) (s : List Str) (v : Str) : m_slices_Contains_string_string nf s v = (
  cb (m_slices_Index_string_string nf s v) fun r7 =>
    some (decide ((0 : Int) ≤ r7))) := by kernel_rfl
noncomputable def e_slices_Contains_string_string (nf : Nat) : XE := eF 150 [.v (kL kS), .v kS] [.v .bool] (fun t => m_slices_Contains_string_string nf t.1 t.2.1)
theorem o_slices_Contains_string_string (nf : Nat) : conOK Try.prog 150 (e_slices_Contains_string_string nf).con := by
  have ih : XT.ok Try.prog (T_slices_Contains_string_string nf) := by exact ⟨o_slices_Index_string_string nf, trivial⟩
  refine eF_ok fun t x h => ?_
  obtain ⟨s, v, _⟩ := t
  exact runF_ok (N := 9) ih Try.func150 (by kernel_rfl) rfl h
def c52_impl_typeForm : C := .sq (.rg [.mv 6 (.b true)]) .rt
def c34_impl_typeForm : C := .sq (.rg [.bi 104 .lss (.t 103) (.t 102)]) (.sq (.cd (.t 104) .skip (.ex 1)) (.sq (.bk 2 (.sq (.rg [.mv 105 (.t 103), .mv 9 (.t 105)]) (.sq (.rg [.mv 106 (.t 0), .nck 107 (.t 106), .fa 108 (.t 107) 0 2 2, .ld 109 (.t 108) (kL (kR 0)), .mv 110 (.t 9), .ia 111 (.t 109) (.t 110) (kR 0), .mv 112 (.t 8), .mv 113 (.t 2), .bi 114 .add (.t 113) (.i 1), .cv (some 115) 142 [((.t 111), .v (.ptr (kR 0))), ((.t 112), .v .bool), ((.t 114), .v kI)], .un 116 .not (.t 115)]) (.cd (.t 116) (.sq (.rg [.mv 6 (.b false)]) .rt) .skip)))) (.rg [.bi 117 .add (.t 103) (.i 1), .mv 103 (.t 117)])))
def c29_impl_typeForm : C := .sq (.sq (.rg [.mv 98 (.t 0), .nck 99 (.t 98), .fa 100 (.t 99) 0 2 2, .ld 101 (.t 100) (kL (kR 0)), .ln 102 false (.t 101), .mv 103 (.i 0)]) (.bk 1 (.lk [0, 2, 8, 102, 103] [] c34_impl_typeForm))) c52_impl_typeForm
def w29_impl_typeForm : C := .kp [0, 2, 8] [] c29_impl_typeForm
def c27_impl_typeForm : C := .sq (.rg [.mv 83 (.t 1), .mv 84 (.t 83), .g 84 false (.mv 85 (.t 0)), .g 84 false (.nck 86 (.t 85)), .g 84 false (.fa 87 (.t 86) 0 0 0), .g 84 false (.ld 88 (.t 87) kI), .g 84 false (.bi 89 .eql (.t 88) (.i 3)), .pk 90 (.t 84) (.b true) (.t 89), .mv 91 (.t 90), .g 91 false (.mv 92 (.t 0)), .g 91 false (.nck 93 (.t 92)), .g 91 false (.fa 94 (.t 93) 0 0 0), .g 91 false (.ld 95 (.t 94) kI), .g 91 false (.bi 96 .eql (.t 95) (.i 4)), .pk 97 (.t 91) (.b true) (.t 96), .mv 8 (.t 97)]) w29_impl_typeForm
def c22_impl_typeForm : C := .cd (.t 48) (.sq (.rg [.mv 6 (.b false)]) .rt) .skip
def w22_impl_typeForm : C := .kp [0, 1, 2, 48] [] c22_impl_typeForm
def c19_impl_typeForm : C := .cd (.t 48) .skip (.rg [.mv 70 (.t 0), .nck 71 (.t 70), .fa 72 (.t 71) 0 0 0, .ld 73 (.t 72) kI, .bi 74 .neq (.t 73) (.i 3), .mv 75 (.t 74), .g 75 true (.mv 76 (.t 0)), .g 75 true (.nck 77 (.t 76)), .g 75 true (.fa 78 (.t 77) 0 1 1), .g 75 true (.ld 79 (.t 78) (kL kS)), .g 75 true (.ln 80 false (.t 79)), .g 75 true (.bi 81 .gtr (.t 80) (.i 0)), .pk 82 (.t 75) (.t 81) (.b false), .mv 48 (.t 82)])
def w19_impl_typeForm : C := .kp [0, 1, 2, 48] [] c19_impl_typeForm
def c15_impl_typeForm : C := .cd (.t 48) .skip (.sq (.rg [.mv 57 (.t 0), .nck 58 (.t 57), .fa 59 (.t 58) 0 0 0, .ld 60 (.t 59) kI, .bi 61 .eql (.t 60) (.i 3), .mv 62 (.t 61), .g 62 true (.mv 63 (.t 0)), .g 62 true (.nck 64 (.t 63)), .g 62 true (.fa 65 (.t 64) 0 1 1), .g 62 true (.ld 66 (.t 65) (kL kS)), .g 62 true (.cv (some 67) 187 [((.t 66), .v (kL kS))]), .g 62 true (.un 68 .not (.t 67)), .pk 69 (.t 62) (.t 68) (.b false), .mv 48 (.t 69)]) w19_impl_typeForm)
def w15_impl_typeForm : C := .kp [0, 1, 2, 48] [] c15_impl_typeForm
def c8_impl_typeForm : C := .cd (.t 22) (.sq (.rg [.mv 6 (.b false)]) .rt) (.sq (.sq (.rg [.mv 49 (.t 0), .nck 50 (.t 49), .fa 51 (.t 50) 0 0 0, .ld 52 (.t 51) kI, .bi 53 .eql (.t 52) (.i 5), .mv 54 (.t 53), .g 54 true (.mv 55 (.t 1)), .pk 56 (.t 54) (.t 55) (.b false), .mv 48 (.t 56)]) w15_impl_typeForm) w22_impl_typeForm)
def w8_impl_typeForm : C := .kp [0, 1, 2, 22] [] c8_impl_typeForm
def c4_impl_typeForm : C := .sq (.bk 0 (.sq (.rg [.mv 23 (.t 0), .nck 24 (.t 23), .fa 25 (.t 24) 0 0 0, .ld 26 (.t 25) kI, .bi 27 .lss (.t 26) (.i 1), .mv 28 (.t 27), .g 28 false (.mv 29 (.t 0)), .g 28 false (.nck 30 (.t 29)), .g 28 false (.fa 31 (.t 30) 0 0 0), .g 28 false (.ld 32 (.t 31) kI), .g 28 false (.bi 33 .gtr (.t 32) (.i 5)), .pk 34 (.t 28) (.b true) (.t 33), .mv 35 (.t 34), .g 35 false (.mv 36 (.t 2)), .g 35 false (.bi 37 .gtr (.t 36) (.i 7)), .pk 38 (.t 35) (.b true) (.t 37), .mv 39 (.t 38), .g 39 false (.mv 40 (.t 0)), .g 39 false (.nck 41 (.t 40)), .g 39 false (.fa 42 (.t 41) 0 2 2), .g 39 false (.ld 43 (.t 42) (kL (kR 0))), .g 39 false (.ln 44 false (.t 43)), .g 39 false (.mv 45 (.t 7)), .g 39 false (.bi 46 .neq (.t 44) (.t 45)), .pk 47 (.t 39) (.b true) (.t 46), .mv 22 (.t 47)]) w8_impl_typeForm)) c27_impl_typeForm
def w4_impl_typeForm : C := .kp [0, 1, 2, 7] [] c4_impl_typeForm
def ir_impl_typeForm : C := .sq (.rg [.mv 6 (.b false)]) (.sq (.dr [10] [.mm 10 kI kI, .mu (.t 10) (.i 4) (.i 1) kI kI, .mu (.t 10) (.i 5) (.i 2) kI kI, .mv 11 (.t 0), .nck 12 (.t 11), .fa 13 (.t 12) 0 1 1, .ld 14 (.t 13) (kL kS), .ln 15 false (.t 14), .mu (.t 10) (.i 3) (.t 15) kI kI, .mv 16 (.t 10), .mv 17 (.t 0), .nck 18 (.t 17), .fa 19 (.t 18) 0 0 0, .ld 20 (.t 19) kI] [.ml 21 (.t 16) (.t 20) kI kI false, .mv 7 (.t 21)]) w4_impl_typeForm)
noncomputable def B_impl_typeForm (nf : Nat) : XT := [e_impl_labelsOk nf]
noncomputable def G_impl_typeForm (nf : Nat) : Nat → XT
  | 0 => []
  | kf + 1 => [eF 142 [.p (kR 0), .v .bool, .v kI] [.v .bool] (fun t => (fun (t : Ty) (plain : Bool) (deep : Int) => runF (G_impl_typeForm nf kf ++ B_impl_typeForm nf) nf [.p (kR 0), .v .bool, .v kI] [.t 6 (.v .bool)] ir_impl_typeForm (t, plain, deep, ())) t.1 t.2.1 t.2.2.1)]
noncomputable abbrev T_impl_typeForm (nf kf : Nat) : XT := G_impl_typeForm nf kf ++ B_impl_typeForm nf
noncomputable def m_impl_typeForm (nf kf : Nat) (t : Ty) (plain : Bool) (deep : Int) : Option (Bool) := runF (T_impl_typeForm nf kf) nf [.p (kR 0), .v .bool, .v kI] [.t 6 (.v .bool)] ir_impl_typeForm (t, plain, deep, ())
noncomputable def X_impl_typeForm {R : Type} (nf kf : Nat) : C → Env → (Xt → Env → Option R) → Option R := xc (R := R) (T_impl_typeForm nf kf).S nf
noncomputable def j19_impl_typeForm (nf kf : Nat) (t : Ty) (plain : Bool) (deep : Int) (x48_19 : Bool) : Option (Bool) := X_impl_typeForm nf kf c19_impl_typeForm ⟨[(0, .v (.ptr (kR 0)) (some t)), (1, .v .bool plain), (2, .v kI deep), (48, .v .bool x48_19)], []⟩ (qS (X_impl_typeForm nf kf w22_impl_typeForm) (qB 0 (qS (X_impl_typeForm nf kf c27_impl_typeForm) (KF [.t 6 (.v .bool)]))))
noncomputable def j15_impl_typeForm (nf kf : Nat) (t : Ty) (plain : Bool) (deep : Int) (x48_15 : Bool) : Option (Bool) := X_impl_typeForm nf kf c15_impl_typeForm ⟨[(0, .v (.ptr (kR 0)) (some t)), (1, .v .bool plain), (2, .v kI deep), (48, .v .bool x48_15)], []⟩ (qS (X_impl_typeForm nf kf w22_impl_typeForm) (qB 0 (qS (X_impl_typeForm nf kf c27_impl_typeForm) (KF [.t 6 (.v .bool)]))))
noncomputable def j22_impl_typeForm (nf kf : Nat) (t : Ty) (plain : Bool) (deep : Int) (x48_22 : Bool) : Option (Bool) := X_impl_typeForm nf kf c22_impl_typeForm ⟨[(0, .v (.ptr (kR 0)) (some t)), (1, .v .bool plain), (2, .v kI deep), (48, .v .bool x48_22)], []⟩ (qB 0 (qS (X_impl_typeForm nf kf c27_impl_typeForm) (KF [.t 6 (.v .bool)])))
noncomputable def j8_impl_typeForm (nf kf : Nat) (t : Ty) (plain : Bool) (deep : Int) (x22_8 : Bool) : Option (Bool) := X_impl_typeForm nf kf c8_impl_typeForm ⟨[(0, .v (.ptr (kR 0)) (some t)), (1, .v .bool plain), (2, .v kI deep), (22, .v .bool x22_8)], []⟩ (qB 0 (qS (X_impl_typeForm nf kf c27_impl_typeForm) (KF [.t 6 (.v .bool)])))
noncomputable def l33_impl_typeForm (nf kf : Nat) (m33 : Nat) (t : Ty) (deep : Int) (x8_29 : Bool) (x103_33 : Int) : Option (Bool) := xit [0, 2, 8, 102, 103] [] (X_impl_typeForm nf kf c34_impl_typeForm) (qB 1 (qS (X_impl_typeForm nf kf c52_impl_typeForm) (KF [.t 6 (.v .bool)]))) m33 ⟨[(0, .v (.ptr (kR 0)) (some t)), (2, .v kI deep), (8, .v .bool x8_29), (102, .v kI (List.length t.args : Int)), (103, .v kI x103_33)], []⟩
noncomputable def j29_impl_typeForm (nf kf : Nat) (t : Ty) (deep : Int) (x8_29 : Bool) : Option (Bool) := X_impl_typeForm nf kf c29_impl_typeForm ⟨[(0, .v (.ptr (kR 0)) (some t)), (2, .v kI deep), (8, .v .bool x8_29)], []⟩ (KF [.t 6 (.v .bool)])
noncomputable def j4_impl_typeForm (nf kf : Nat) (t : Ty) (plain : Bool) (deep : Int) (x7_4 : Int) : Option (Bool) := X_impl_typeForm nf kf c4_impl_typeForm ⟨[(0, .v (.ptr (kR 0)) (some t)), (1, .v .bool plain), (2, .v kI deep), (7, .v kI x7_4)], []⟩ (KF [.t 6 (.v .bool)])
theorem j19_impl_typeForm_eq (nf kf : Nat) (t : Ty) (plain : Bool) (deep : Int) (x48_19 : Bool) : j19_impl_typeForm nf (kf + 1) t plain deep x48_19 = (
  br x48_19 (
    mark (j22_impl_typeForm nf (kf + 1) t plain deep x48_19)) (
    br ((!(t.kind == (3 : Int))) == true) (
      mark (j22_impl_typeForm nf (kf + 1) t plain deep (decide ((0 : Int) < (List.length t.labels : Int))))) (
      mark (j22_impl_typeForm nf (kf + 1) t plain deep false)))) := by
  unfold j19_impl_typeForm j22_impl_typeForm c19_impl_typeForm c27_impl_typeForm w22_impl_typeForm w29_impl_typeForm
  generalize c22_impl_typeForm = x0
  generalize c29_impl_typeForm = x1
  revert x0 x1
  refine id ?_
  intro x0 x1
  kernel_rfl
theorem j15_impl_typeForm_eq (nf kf : Nat) (t : Ty) (plain : Bool) (deep : Int) (x48_15 : Bool) : j15_impl_typeForm nf (kf + 1) t plain deep x48_15 = (
  br x48_15 (
    mark (j22_impl_typeForm nf (kf + 1) t plain deep x48_15)) (
    br ((t.kind == (3 : Int)) == true) (
      cb (m_impl_labelsOk nf t.labels) fun r67 =>
        mark (j19_impl_typeForm nf (kf + 1) t plain deep (!r67))) (
      mark (j19_impl_typeForm nf (kf + 1) t plain deep false)))) := by
  unfold j15_impl_typeForm j22_impl_typeForm j19_impl_typeForm c15_impl_typeForm c27_impl_typeForm w22_impl_typeForm w19_impl_typeForm w29_impl_typeForm
  generalize c22_impl_typeForm = x0
  generalize c19_impl_typeForm = x1
  generalize c29_impl_typeForm = x2
  revert x0 x1 x2
  refine id ?_
  intro x0 x1 x2
  kernel_rfl
theorem j22_impl_typeForm_eq (nf kf : Nat) (t : Ty) (plain : Bool) (deep : Int) (x48_22 : Bool) : j22_impl_typeForm nf (kf + 1) t plain deep x48_22 = (
  br x48_22 (
    some false) (
    br (plain == false) (
      br ((t.kind == (3 : Int)) == false) (
        mark (j29_impl_typeForm nf (kf + 1) t deep (t.kind == (4 : Int)))) (
        mark (j29_impl_typeForm nf (kf + 1) t deep true))) (
      mark (j29_impl_typeForm nf (kf + 1) t deep true)))) := by
  unfold j22_impl_typeForm j29_impl_typeForm c22_impl_typeForm c27_impl_typeForm w29_impl_typeForm
  generalize c29_impl_typeForm = x0
  revert x0
  refine id ?_
  intro x0
  kernel_rfl
theorem j8_impl_typeForm_eq (nf kf : Nat) (t : Ty) (plain : Bool) (deep : Int) (x22_8 : Bool) : j8_impl_typeForm nf (kf + 1) t plain deep x22_8 = (
  br x22_8 (
    some false) (
    br ((t.kind == (5 : Int)) == true) (
      mark (j15_impl_typeForm nf (kf + 1) t plain deep plain)) (
      mark (j15_impl_typeForm nf (kf + 1) t plain deep false)))) := by
  unfold j8_impl_typeForm j15_impl_typeForm c8_impl_typeForm c27_impl_typeForm w15_impl_typeForm w22_impl_typeForm w29_impl_typeForm
  generalize c15_impl_typeForm = x0
  generalize c22_impl_typeForm = x1
  generalize c29_impl_typeForm = x2
  revert x0 x1 x2
  refine id ?_
  intro x0 x1 x2
  kernel_rfl
theorem l33_impl_typeForm_eq (nf kf : Nat) (m33 : Nat) (t : Ty) (deep : Int) (x8_29 : Bool) (x103_33 : Int) : l33_impl_typeForm nf (kf + 1) (m33 + 1) t deep x8_29 x103_33 = (
  br (decide (x103_33 < (List.length t.args : Int))) (
    gg (0 ≤ x103_33 ∧ x103_33 < (List.length t.args : Int)) <|
      cb (m_impl_typeForm nf kf (gt t.args x103_33 Ty.zero) x8_29 (w64 (deep + (1 : Int)))) fun r115 =>
        br (!r115) (
          some false) (
          mark (l33_impl_typeForm nf (kf + 1) m33 t deep x8_29 (w64 (x103_33 + (1 : Int)))))) (
    some true)) := by kernel_rfl
theorem j29_impl_typeForm_eq (nf kf : Nat) (t : Ty) (deep : Int) (x8_29 : Bool) : j29_impl_typeForm nf (kf + 1) t deep x8_29 = (
  mark (l33_impl_typeForm nf (kf + 1) nf t deep x8_29 (0 : Int))) := by kernel_rfl
theorem j4_impl_typeForm_eq (nf kf : Nat) (t : Ty) (plain : Bool) (deep : Int) (x7_4 : Int) : j4_impl_typeForm nf (kf + 1) t plain deep x7_4 = (
  br ((decide (t.kind < (1 : Int))) == false) (
    br ((decide ((5 : Int) < t.kind)) == false) (
      br ((decide ((7 : Int) < deep)) == false) (
        mark (j8_impl_typeForm nf (kf + 1) t plain deep (!((List.length t.args : Int) == x7_4)))) (
        mark (j8_impl_typeForm nf (kf + 1) t plain deep true))) (
      mark (j8_impl_typeForm nf (kf + 1) t plain deep true))) (
    mark (j8_impl_typeForm nf (kf + 1) t plain deep true))) := by
  unfold j4_impl_typeForm j8_impl_typeForm c4_impl_typeForm w8_impl_typeForm c27_impl_typeForm w29_impl_typeForm
  generalize c8_impl_typeForm = x0
  generalize c29_impl_typeForm = x1
  revert x0 x1
  refine id ?_
  intro x0 x1
  kernel_rfl
theorem m_impl_typeForm_eq (nf kf : Nat) (t : Ty) (plain : Bool) (deep : Int) : m_impl_typeForm nf (kf + 1) t plain deep = (
  mark (j4_impl_typeForm nf (kf + 1) t plain deep (mgt (kk := kI) (vk := kI) (mset (kk := kI) (vk := kI) (mset (kk := kI) (vk := kI) (mset (kk := kI) (vk := kI) [] (4 : Int) (1 : Int)) (5 : Int) (2 : Int)) (3 : Int) (List.length t.labels : Int)) t.kind))) := by
  unfold m_impl_typeForm j4_impl_typeForm ir_impl_typeForm w4_impl_typeForm
  generalize c4_impl_typeForm = x0
  revert x0
  refine id ?_
  intro x0
  kernel_rfl
noncomputable def e_impl_typeForm (nf : Nat) : XE := eF 142 [.p (kR 0), .v .bool, .v kI] [.v .bool] (fun t => m_impl_typeForm nf nf t.1 t.2.1 t.2.2.1)
theorem gok_impl_typeForm (nf : Nat) : ∀ kf : Nat, XT.ok Try.prog (G_impl_typeForm nf kf ++ B_impl_typeForm nf)
  | 0 => by exact ⟨o_impl_labelsOk nf, trivial⟩
  | kf + 1 => by
    have ih := gok_impl_typeForm nf kf
    refine ⟨?_, (by exact ⟨o_impl_labelsOk nf, trivial⟩)⟩
    · refine eF_ok fun t x h => ?_
      obtain ⟨t, plain, deep, _⟩ := t
      exact runF_ok (N := 118) ih Try.func142 (by kernel_rfl) rfl h
theorem o_impl_typeForm (nf : Nat) : conOK Try.prog 142 (e_impl_typeForm nf).con := by
  have ih := gok_impl_typeForm nf nf
  refine eF_ok fun t x h => ?_
  obtain ⟨t, plain, deep, _⟩ := t
  exact runF_ok (N := 118) ih Try.func142 (by kernel_rfl) rfl h
def ir_impl_IsValidType : C := .sq (.rg [.bx 1 (.t 0) (kR 0), .mv 2 (.b false)]) (.sq (.rg [.cv (some 3) 142 [((.t 1), .v (.ptr (kR 0))), ((.b false), .v .bool), ((.i 1), .v kI)], .mv 4 (.t 3), .g 4 true (.ld 5 (.t 1) (kR 0)), .g 4 true (.cv (some 6) 143 [((.t 5), .v (kR 0))]), .g 4 true (.bi 7 .leq (.t 6) (.i 24)), .pk 8 (.t 4) (.t 7) (.b false), .mv 2 (.t 8)]) .rt)
noncomputable abbrev T_impl_IsValidType (nf : Nat) : XT := [e_impl_typeForm nf, e_impl_SizeOfType nf]
noncomputable def m_impl_IsValidType (nf : Nat) (t : Ty) : Option (Bool) := runF (T_impl_IsValidType nf) nf [.v (kR 0)] [.t 2 (.v .bool)] ir_impl_IsValidType (t, ())
theorem m_impl_IsValidType_eq (nf : Nat) (t : Ty) : m_impl_IsValidType nf t = (
  cb (m_impl_typeForm nf nf (Ty.h t) false (1 : Int)) fun r3 =>
    br (r3 == true) (
      cb (m_impl_SizeOfType nf nf (Ty.h t)) fun r6 =>
        some (decide (r6 ≤ (24 : Int)))) (
      some false)) := by kernel_rfl
noncomputable def e_impl_IsValidType (nf : Nat) : XE := eF 100 [.v (kR 0)] [.v .bool] (fun t => m_impl_IsValidType nf t.1)
theorem o_impl_IsValidType (nf : Nat) : conOK Try.prog 100 (e_impl_IsValidType nf).con := by
  have ih : XT.ok Try.prog (T_impl_IsValidType nf) := by exact ⟨o_impl_typeForm nf, o_impl_SizeOfType nf, trivial⟩
  refine eF_ok fun t x h => ?_
  obtain ⟨t, _⟩ := t
  exact runF_ok (N := 9) ih Try.func100 (by kernel_rfl) rfl h
def c30_impl_typeAt : C := .sq (.rg [.mv 54 (.t 0), .mv 4 (.t 54)]) .rt
def c29_impl_typeAt : C := .rg [.bi 53 .add (.t 9) (.i 1), .mv 9 (.t 53)]
def c24_impl_typeAt : C := .cd (.t 28) (.dr [] [.mv 42 (.t 0), .nck 43 (.t 42), .fa 44 (.t 43) 0 2 2, .ld 45 (.t 44) (kL (kR 0)), .mv 46 (.t 0), .nck 47 (.t 46), .fa 48 (.t 47) 0 1 1, .ld 49 (.t 48) (kL kS), .mv 50 (.t 6), .cv (some 51) 151 [((.t 49), .v (kL kS)), ((.t 50), .v kS)]] [.ia 52 (.t 45) (.t 51) (kR 0), .mv 0 (.t 52)]) (.sq (.rg [.mv 4 (.np (kR 0))]) .rt)
def w24_impl_typeAt : C := .kp [0, 6, 7, 8, 9, 28] [] c24_impl_typeAt
def c20_impl_typeAt : C := .cd (.t 13) (.rg [.mv 23 (.t 0), .nck 24 (.t 23), .fa 25 (.t 24) 0 2 2, .ld 26 (.t 25) (kL (kR 0)), .ia 27 (.t 26) (.i 0) (kR 0), .mv 0 (.t 27)]) (.sq (.rg [.mv 29 (.t 0), .nck 30 (.t 29), .fa 31 (.t 30) 0 0 0, .ld 32 (.t 31) kI, .bi 33 .eql (.t 32) (.i 3), .mv 34 (.t 33), .g 34 true (.mv 35 (.t 0)), .g 34 true (.nck 36 (.t 35)), .g 34 true (.fa 37 (.t 36) 0 1 1), .g 34 true (.ld 38 (.t 37) (kL kS)), .g 34 true (.mv 39 (.t 6)), .g 34 true (.cv (some 40) 150 [((.t 38), .v (kL kS)), ((.t 39), .v kS)]), .pk 41 (.t 34) (.t 40) (.b false), .mv 28 (.t 41)]) w24_impl_typeAt)
def w20_impl_typeAt : C := .kp [0, 6, 7, 8, 9, 13] [] c20_impl_typeAt
def c7_impl_typeAt : C := .sq (.rg [.bi 10 .lss (.t 9) (.t 8)]) (.sq (.cd (.t 10) .skip (.ex 0)) (.sq (.bk 1 (.sq (.rg [.ia 11 (.t 7) (.t 9) kS, .ld 12 (.t 11) kS, .mv 6 (.t 12)]) (.bk 2 (.sq (.rg [.mv 14 (.t 0), .nck 15 (.t 14), .fa 16 (.t 15) 0 0 0, .ld 17 (.t 16) kI, .bi 18 .eql (.t 17) (.i 4), .mv 19 (.t 18), .g 19 true (.mv 20 (.t 6)), .g 19 true (.bi 21 .eql (.t 20) (.s [33])), .pk 22 (.t 19) (.t 21) (.b false), .mv 13 (.t 22)]) w20_impl_typeAt)))) c29_impl_typeAt))
def ir_impl_typeAt : C := .sq (.rg [.mv 4 (.np (kR 0))]) (.sq (.sq (.rg [.mv 7 (.t 1), .ln 8 false (.t 7), .mv 9 (.i 0)]) (.bk 0 (.lk [0, 7, 8, 9] [] c7_impl_typeAt))) c30_impl_typeAt)
noncomputable abbrev T_impl_typeAt (nf : Nat) : XT := [e_slices_Contains_string_string nf, e_slices_Index_string_string nf]
noncomputable def m_impl_typeAt (nf : Nat) (t : Ty) (path : List Str) : Option (Option Ty) := runF (T_impl_typeAt nf) nf [.p (kR 0), .v (kL kS)] [.t 4 (.v (.ptr (kR 0)))] ir_impl_typeAt (t, path, ())
noncomputable def X_impl_typeAt {R : Type} (nf : Nat) : C → Env → (Xt → Env → Option R) → Option R := xc (R := R) (T_impl_typeAt nf).S nf
noncomputable def j24_impl_typeAt (nf : Nat) (m6 : Nat) (x0_6 : Ty) (path : List Str) (x9_6 : Int) (x28_24 : Bool) : Option (Option Ty) := X_impl_typeAt nf c24_impl_typeAt ⟨[(0, .v (.ptr (kR 0)) (some x0_6)), (6, .v kS (gt path x9_6 ([] : Str))), (7, .v (kL kS) path), (8, .v kI (List.length path : Int)), (9, .v kI x9_6), (28, .v .bool x28_24)], []⟩ (qB 2 (qB 1 (qS (X_impl_typeAt nf c29_impl_typeAt) (qM [0, 7, 8, 9] [] (X_impl_typeAt nf c7_impl_typeAt) m6 (qB 0 (qS (X_impl_typeAt nf c30_impl_typeAt) (KF [.t 4 (.v (.ptr (kR 0)))])))))))
noncomputable def j20_impl_typeAt (nf : Nat) (m6 : Nat) (x0_6 : Ty) (path : List Str) (x9_6 : Int) (x13_20 : Bool) : Option (Option Ty) := X_impl_typeAt nf c20_impl_typeAt ⟨[(0, .v (.ptr (kR 0)) (some x0_6)), (6, .v kS (gt path x9_6 ([] : Str))), (7, .v (kL kS) path), (8, .v kI (List.length path : Int)), (9, .v kI x9_6), (13, .v .bool x13_20)], []⟩ (qB 2 (qB 1 (qS (X_impl_typeAt nf c29_impl_typeAt) (qM [0, 7, 8, 9] [] (X_impl_typeAt nf c7_impl_typeAt) m6 (qB 0 (qS (X_impl_typeAt nf c30_impl_typeAt) (KF [.t 4 (.v (.ptr (kR 0)))])))))))
noncomputable def l6_impl_typeAt (nf : Nat) (m6 : Nat) (path : List Str) (x0_6 : Ty) (x9_6 : Int) : Option (Option Ty) := xit [0, 7, 8, 9] [] (X_impl_typeAt nf c7_impl_typeAt) (qB 0 (qS (X_impl_typeAt nf c30_impl_typeAt) (KF [.t 4 (.v (.ptr (kR 0)))]))) m6 ⟨[(0, .v (.ptr (kR 0)) (some x0_6)), (7, .v (kL kS) path), (8, .v kI (List.length path : Int)), (9, .v kI x9_6)], []⟩
theorem j24_impl_typeAt_eq (nf : Nat) (m6 : Nat) (x0_6 : Ty) (path : List Str) (x9_6 : Int) (x28_24 : Bool) : j24_impl_typeAt nf m6 x0_6 path x9_6 x28_24 = (
  br x28_24 (
    cb (m_slices_Index_string_string nf x0_6.labels (gt path x9_6 ([] : Str))) fun r51 =>
      gg (0 ≤ r51 ∧ r51 < (List.length x0_6.args : Int)) <|
        mark (l6_impl_typeAt nf m6 path (gt x0_6.args r51 Ty.zero) (w64 (x9_6 + (1 : Int))))) (
    some (none : Option Ty))) := by kernel_rfl
theorem j20_impl_typeAt_eq (nf : Nat) (m6 : Nat) (x0_6 : Ty) (path : List Str) (x9_6 : Int) (x13_20 : Bool) : j20_impl_typeAt nf m6 x0_6 path x9_6 x13_20 = (
  br x13_20 (
    gg (0 ≤ (0 : Int) ∧ (0 : Int) < (List.length x0_6.args : Int)) <|
      mark (l6_impl_typeAt nf m6 path (gt x0_6.args (0 : Int) Ty.zero) (w64 (x9_6 + (1 : Int))))) (
    br ((x0_6.kind == (3 : Int)) == true) (
      cb (m_slices_Contains_string_string nf x0_6.labels (gt path x9_6 ([] : Str))) fun r40 =>
        mark (j24_impl_typeAt nf m6 x0_6 path x9_6 r40)) (
      mark (j24_impl_typeAt nf m6 x0_6 path x9_6 false)))) := by
  unfold j20_impl_typeAt l6_impl_typeAt j24_impl_typeAt c20_impl_typeAt c30_impl_typeAt c29_impl_typeAt w24_impl_typeAt
  generalize c24_impl_typeAt = x0
  revert x0
  refine id ?_
  intro x0
  kernel_rfl
theorem l6_impl_typeAt_eq (nf : Nat) (m6 : Nat) (path : List Str) (x0_6 : Ty) (x9_6 : Int) : l6_impl_typeAt nf (m6 + 1) path x0_6 x9_6 = (
  br (decide (x9_6 < (List.length path : Int))) (
    gg (0 ≤ x9_6 ∧ x9_6 < (List.length path : Int)) <|
      br ((x0_6.kind == (4 : Int)) == true) (
        mark (j20_impl_typeAt nf m6 x0_6 path x9_6 ((gt path x9_6 ([] : Str)) == ([33] : Str)))) (
        mark (j20_impl_typeAt nf m6 x0_6 path x9_6 false))) (
    some (some x0_6))) := by
  unfold l6_impl_typeAt j20_impl_typeAt c7_impl_typeAt c30_impl_typeAt w20_impl_typeAt c29_impl_typeAt
  generalize c20_impl_typeAt = x0
  revert x0
  refine id ?_
  intro x0
  kernel_rfl
theorem m_impl_typeAt_eq (nf : Nat) (t : Ty) (path : List Str) : m_impl_typeAt nf t path = (
  mark (l6_impl_typeAt nf nf path t (0 : Int))) := by kernel_rfl
noncomputable def e_impl_typeAt (nf : Nat) : XE := eF 101 [.p (kR 0), .v (kL kS)] [.v (.ptr (kR 0))] (fun t => m_impl_typeAt nf t.1 t.2.1)
theorem o_impl_typeAt (nf : Nat) : conOK Try.prog 101 (e_impl_typeAt nf).con := by
  have ih : XT.ok Try.prog (T_impl_typeAt nf) := by exact ⟨o_slices_Contains_string_string nf, o_slices_Index_string_string nf, trivial⟩
  refine eF_ok fun t x h => ?_
  obtain ⟨t, path, _⟩ := t
  exact runF_ok (N := 55) ih Try.func101 (by kernel_rfl) rfl h
def ir_impl_TypeAt : C := .sq (.rg [.bz 2 (.t 0) (kR 0), .al 4 (kR 0), .mv 5 (.b false)]) (.sq (.sq (.rg [.ld 7 (.t 2) (kR 0), .cv (some 8) 100 [((.t 7), .v (kR 0))], .un 9 .not (.t 8)]) (.cd (.t 9) (.sq (.rg [.bd 10 0 [], .st (.t 4) (.t 10) (kR 0), .mv 5 (.b false)]) .rt) .skip)) (.sq (.rg [.mv 11 (.t 1), .cv (some 12) 101 [((.t 2), .v (.ptr (kR 0))), ((.t 11), .v (kL kS))], .mv 6 (.t 12)]) (.sq (.sq (.rg [.mv 13 (.t 6), .nq 14 false true (.t 13)]) (.cd (.t 14) (.sq (.rg [.bd 15 0 [], .st (.t 4) (.t 15) (kR 0), .mv 5 (.b false)]) .rt) .skip)) (.sq (.rg [.mv 16 (.t 6), .nck 17 (.t 16), .ld 18 (.t 17) (kR 0), .ca (some 19) 102 [((.t 18), .v (kR 0))], .st (.t 4) (.t 19) (kR 0), .mv 5 (.b true)]) .rt))))
noncomputable abbrev T_impl_TypeAt (nf : Nat) : XT := [e_impl_IsValidType nf, e_impl_typeAt nf, e_impl_cloneType nf]
noncomputable def m_impl_TypeAt (nf : Nat) (t : Ty) (path : List Str) : Option (Ty × Bool) := runF (T_impl_TypeAt nf) nf [.v (kR 0), .v (kL kS)] [.c 4 (.o (kR 0)), .t 5 (.v .bool)] ir_impl_TypeAt (t, path, ())
theorem m_impl_TypeAt_eq (nf : Nat) (t : Ty) (path : List Str) : m_impl_TypeAt nf t path = (
  cb (m_impl_IsValidType nf t) fun r8 =>
    br (!r8) (
      some ((Ty.mk (0 : Int) ([] : List Str) ([] : List Ty)), false)) (
      cb (m_impl_typeAt nf t path) fun r12 =>
        br (Option.isNone r12) (
          some ((Ty.mk (0 : Int) ([] : List Str) ([] : List Ty)), false)) (
          Option.bind r12 fun p17 =>
            cb (m_impl_cloneType nf nf p17) fun r19 =>
              some ((Ty.h r19), true)))) := by kernel_rfl
noncomputable def e_impl_TypeAt (nf : Nat) : XE := eF 41 [.v (kR 0), .v (kL kS)] [.o (kR 0), .v .bool] (fun t => m_impl_TypeAt nf t.1 t.2.1)
theorem o_impl_TypeAt (nf : Nat) : conOK Try.prog 41 (e_impl_TypeAt nf).con := by
  have ih : XT.ok Try.prog (T_impl_TypeAt nf) := by exact ⟨o_impl_IsValidType nf, o_impl_typeAt nf, o_impl_cloneType nf, trivial⟩
  refine eF_ok fun t x h => ?_
  obtain ⟨t, path, _⟩ := t
  exact runF_ok (N := 20) ih Try.func41 (by kernel_rfl) rfl h
end Go.Q
