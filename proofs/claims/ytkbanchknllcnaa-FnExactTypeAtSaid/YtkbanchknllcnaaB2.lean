/- Types. -/
import Derived.Test.YtkbanchknllcnaaB7
import Derived.Test.YtkbanchknllcnaaProg
import Derived.KernelRfl
set_option linter.unusedVariables false
set_option linter.unusedSimpArgs false
namespace Go.Q
open Go.Proofs
set_option linter.unusedVariables false
set_option maxRecDepth 20000
set_option maxHeartbeats 4000000
def ir_spec_l1In : C := .sq (.rg [.mv 6 (.b false)]) (.sq (.rg [.mv 7 (.t 0), .mv 8 (.t 1), .bi 9 .geq (.t 7) (.t 8), .mv 10 (.t 9), .g 10 true (.mv 11 (.t 0)), .g 10 true (.mv 12 (.t 2)), .g 10 true (.bi 13 .leq (.t 11) (.t 12)), .pk 14 (.t 10) (.t 13) (.b false), .mv 6 (.t 14)]) .rt)
noncomputable abbrev T_spec_l1In (nf : Nat) : XT := []
noncomputable def m_spec_l1In (nf : Nat) (x : Int) (lo : Int) (hi : Int) : Option (Bool) := runF (T_spec_l1In nf) nf [.v kI, .v kI, .v kI] [.t 6 (.v .bool)] ir_spec_l1In (x, lo, hi, ())
theorem m_spec_l1In_eq (nf : Nat) (x : Int) (lo : Int) (hi : Int) : m_spec_l1In nf x lo hi = (
  br ((decide (lo ≤ x)) == true) (
    some (decide (x ≤ hi))) (
    some false)) := by kernel_rfl
noncomputable def e_spec_l1In (nf : Nat) : XE := eF 198 [.v kI, .v kI, .v kI] [.v .bool] (fun t => m_spec_l1In nf t.1 t.2.1 t.2.2.1)
theorem o_spec_l1In (nf : Nat) : conOK Try.prog 198 (e_spec_l1In nf).con := by
  have ih : XT.ok Try.prog (T_spec_l1In nf) := by exact trivial
  refine eF_ok fun t x h => ?_
  obtain ⟨x, lo, hi, _⟩ := t
  exact runF_ok (N := 15) ih Try.func198 (by kernel_rfl) rfl h
def ir_spec_l1Max : C := .sq (.rg [.mv 4 (.i 0)]) (.sq (.sq (.rg [.mv 5 (.t 0), .mv 6 (.t 1), .bi 7 .gtr (.t 5) (.t 6)]) (.cd (.t 7) (.sq (.rg [.mv 8 (.t 0), .mv 4 (.t 8)]) .rt) .skip)) (.sq (.rg [.mv 9 (.t 1), .mv 4 (.t 9)]) .rt))
noncomputable abbrev T_spec_l1Max (nf : Nat) : XT := []
noncomputable def m_spec_l1Max (nf : Nat) (a : Int) (b : Int) : Option (Int) := runF (T_spec_l1Max nf) nf [.v kI, .v kI] [.t 4 (.v kI)] ir_spec_l1Max (a, b, ())
theorem m_spec_l1Max_eq (nf : Nat) (a : Int) (b : Int) : m_spec_l1Max nf a b = (
  br (decide (b < a)) (
    some a) (
    some b)) := by kernel_rfl
noncomputable def e_spec_l1Max (nf : Nat) : XE := eF 166 [.v kI, .v kI] [.v kI] (fun t => m_spec_l1Max nf t.1 t.2.1)
theorem o_spec_l1Max (nf : Nat) : conOK Try.prog 166 (e_spec_l1Max nf).con := by
  have ih : XT.ok Try.prog (T_spec_l1Max nf) := by exact trivial
  refine eF_ok fun t x h => ?_
  obtain ⟨a, b, _⟩ := t
  exact runF_ok (N := 10) ih Try.func166 (by kernel_rfl) rfl h
def c23_spec_AreAscending : C := .sq (.rg [.mv 2 (.b true)]) .rt
def c7_spec_AreAscending : C := .sq (.sq (.rg [.mv 4 (.t 3), .mv 5 (.t 0), .ln 6 false (.t 5), .bi 7 .lss (.t 4) (.t 6)]) (.cd (.t 7) .skip (.ex 0))) (.sq (.bk 1 (.sq (.dr [] [.mv 10 (.t 0), .mv 11 (.t 3), .bi 12 .sub (.t 11) (.i 1), .ia 13 (.t 10) (.t 12) kS, .ld 14 (.t 13) kS, .mv 15 (.t 0), .mv 16 (.t 3), .ia 17 (.t 15) (.t 16) kS, .ld 18 (.t 17) kS] [.bi 19 .geq (.t 14) (.t 18)]) (.cd (.t 19) (.sq (.rg [.mv 2 (.b false)]) .rt) .skip))) (.rg [.mv 8 (.t 3), .bi 9 .add (.t 8) (.i 1), .mv 3 (.t 9)]))
def ir_spec_AreAscending : C := .sq (.rg [.mv 2 (.b false)]) (.sq (.sq (.rg [.mv 3 (.i 1)]) (.bk 0 (.lk [0, 3] [] c7_spec_AreAscending))) c23_spec_AreAscending)
noncomputable abbrev T_spec_AreAscending (nf : Nat) : XT := []
noncomputable def m_spec_AreAscending (nf : Nat) (list : List Str) : Option (Bool) := runF (T_spec_AreAscending nf) nf [.v (kL kS)] [.t 2 (.v .bool)] ir_spec_AreAscending (list, ())
noncomputable def X_spec_AreAscending {R : Type} (nf : Nat) : C → Env → (Xt → Env → Option R) → Option R := xc (R := R) (T_spec_AreAscending nf).S nf
noncomputable def l6_spec_AreAscending (nf : Nat) (m6 : Nat) (list : List Str) (x3_6 : Int) : Option (Bool) := xit [0, 3] [] (X_spec_AreAscending nf c7_spec_AreAscending) (qB 0 (qS (X_spec_AreAscending nf c23_spec_AreAscending) (KF [.t 2 (.v .bool)]))) m6 ⟨[(0, .v (kL kS) list), (3, .v kI x3_6)], []⟩
theorem l6_spec_AreAscending_eq (nf : Nat) (m6 : Nat) (list : List Str) (x3_6 : Int) : l6_spec_AreAscending nf (m6 + 1) list x3_6 = (
  br (decide (x3_6 < (List.length list : Int))) (
    gg (0 ≤ (w64 (x3_6 - (1 : Int))) ∧ (w64 (x3_6 - (1 : Int))) < (List.length list : Int)) <|
      gg (0 ≤ x3_6 ∧ x3_6 < (List.length list : Int)) <|
        br (!(Op.bytesLess (gt list (w64 (x3_6 - (1 : Int))) ([] : Str)) (gt list x3_6 ([] : Str)))) (
          some false) (
          mark (l6_spec_AreAscending nf m6 list (w64 (x3_6 + (1 : Int)))))) (
    some true)) := by kernel_rfl
theorem m_spec_AreAscending_eq (nf : Nat) (list : List Str) : m_spec_AreAscending nf list = (
  mark (l6_spec_AreAscending nf nf list (1 : Int))) := by kernel_rfl
noncomputable def e_spec_AreAscending (nf : Nat) : XE := eF 199 [.v (kL kS)] [.v .bool] (fun t => m_spec_AreAscending nf t.1)
theorem o_spec_AreAscending (nf : Nat) : conOK Try.prog 199 (e_spec_AreAscending nf).con := by
  have ih : XT.ok Try.prog (T_spec_AreAscending nf) := by exact trivial
  refine eF_ok fun t x h => ?_
  obtain ⟨list, _⟩ := t
  exact runF_ok (N := 20) ih Try.func199 (by kernel_rfl) rfl h
def c25_spec_IsName : C := .sq (.rg [.mv 39 (.t 0), .ln 40 true (.t 39), .cv (some 41) 198 [((.t 40), .v kI), ((.i 1), .v kI), ((.i 4), .v kI)], .mv 42 (.t 41), .g 42 true (.mv 43 (.t 0)), .g 42 true (.bi 44 .neq (.t 43) (.s [105, 102])), .pk 45 (.t 42) (.t 44) (.b false), .mv 46 (.t 45), .g 46 true (.mv 47 (.t 0)), .g 46 true (.bi 48 .neq (.t 47) (.s [102, 111, 114])), .pk 49 (.t 46) (.t 48) (.b false), .mv 2 (.t 49)]) .rt
def w25_spec_IsName : C := .kp [0] [] c25_spec_IsName
def c24_spec_IsName : C := .rg [.mv 9 (.t 3), .bi 10 .add (.t 9) (.i 1), .mv 3 (.t 10)]
def c19_spec_IsName : C := .cd (.t 38) (.sq (.rg [.mv 2 (.b false)]) .rt) .skip
def w19_spec_IsName : C := .kp [0, 3, 38] [] c19_spec_IsName
def c17_spec_IsName : C := .sq (.rg [.mv 21 (.t 4), .un 22 .not (.t 21), .mv 23 (.t 22), .g 23 true (.mv 24 (.t 3)), .g 23 true (.bi 25 .eql (.t 24) (.i 0)), .g 23 true (.mv 26 (.t 25)), .g 26 false (.mv 27 (.t 0)), .g 26 false (.mv 28 (.t 3)), .g 26 false (.ix 29 (.t 27) (.t 28)), .g 26 false (.bi 30 .lss (.t 29) (.k .u8 48)), .g 23 true (.pk 31 (.t 26) (.b true) (.t 30)), .g 23 true (.mv 32 (.t 31)), .g 32 false (.mv 33 (.t 0)), .g 32 false (.mv 34 (.t 3)), .g 32 false (.ix 35 (.t 33) (.t 34)), .g 32 false (.bi 36 .gtr (.t 35) (.k .u8 57)), .g 23 true (.pk 37 (.t 32) (.b true) (.t 36)), .pk 38 (.t 23) (.t 37) (.b false)]) w19_spec_IsName
def w17_spec_IsName : C := .kp [0, 3, 4] [] c17_spec_IsName
def c7_spec_IsName : C := .sq (.sq (.rg [.mv 5 (.t 3), .mv 6 (.t 0), .ln 7 true (.t 6), .bi 8 .lss (.t 5) (.t 7)]) (.cd (.t 8) .skip (.ex 0))) (.sq (.bk 1 (.sq (.rg [.mv 11 (.t 0), .mv 12 (.t 3), .ix 13 (.t 11) (.t 12), .bi 14 .geq (.t 13) (.k .u8 97), .mv 15 (.t 14), .g 15 true (.mv 16 (.t 0)), .g 15 true (.mv 17 (.t 3)), .g 15 true (.ix 18 (.t 16) (.t 17)), .g 15 true (.bi 19 .leq (.t 18) (.k .u8 122)), .pk 20 (.t 15) (.t 19) (.b false), .mv 4 (.t 20)]) w17_spec_IsName)) c24_spec_IsName)
def ir_spec_IsName : C := .sq (.rg [.mv 2 (.b false)]) (.sq (.sq (.rg [.mv 3 (.i 0)]) (.bk 0 (.lk [0, 3] [] c7_spec_IsName))) w25_spec_IsName)
noncomputable abbrev T_spec_IsName (nf : Nat) : XT := [e_spec_l1In nf]
noncomputable def m_spec_IsName (nf : Nat) (s : Str) : Option (Bool) := runF (T_spec_IsName nf) nf [.v kS] [.t 2 (.v .bool)] ir_spec_IsName (s, ())
noncomputable def X_spec_IsName {R : Type} (nf : Nat) : C → Env → (Xt → Env → Option R) → Option R := xc (R := R) (T_spec_IsName nf).S nf
noncomputable def j19_spec_IsName (nf : Nat) (m6 : Nat) (s : Str) (x3_6 : Int) (x38_19 : Bool) : Option (Bool) := X_spec_IsName nf c19_spec_IsName ⟨[(0, .v kS s), (3, .v kI x3_6), (38, .v .bool x38_19)], []⟩ (qB 1 (qS (X_spec_IsName nf c24_spec_IsName) (qM [0, 3] [] (X_spec_IsName nf c7_spec_IsName) m6 (qB 0 (qS (X_spec_IsName nf w25_spec_IsName) (KF [.t 2 (.v .bool)]))))))
noncomputable def j17_spec_IsName (nf : Nat) (m6 : Nat) (s : Str) (x3_6 : Int) (x4_17 : Bool) : Option (Bool) := X_spec_IsName nf c17_spec_IsName ⟨[(0, .v kS s), (3, .v kI x3_6), (4, .v .bool x4_17)], []⟩ (qB 1 (qS (X_spec_IsName nf c24_spec_IsName) (qM [0, 3] [] (X_spec_IsName nf c7_spec_IsName) m6 (qB 0 (qS (X_spec_IsName nf w25_spec_IsName) (KF [.t 2 (.v .bool)]))))))
noncomputable def l6_spec_IsName (nf : Nat) (m6 : Nat) (s : Str) (x3_6 : Int) : Option (Bool) := xit [0, 3] [] (X_spec_IsName nf c7_spec_IsName) (qB 0 (qS (X_spec_IsName nf w25_spec_IsName) (KF [.t 2 (.v .bool)]))) m6 ⟨[(0, .v kS s), (3, .v kI x3_6)], []⟩
noncomputable def j25_spec_IsName (nf : Nat) (s : Str) : Option (Bool) := X_spec_IsName nf c25_spec_IsName ⟨[(0, .v kS s)], []⟩ (KF [.t 2 (.v .bool)])
theorem j19_spec_IsName_eq (nf : Nat) (m6 : Nat) (s : Str) (x3_6 : Int) (x38_19 : Bool) : j19_spec_IsName nf m6 s x3_6 x38_19 = (
  br x38_19 (
    some false) (
    mark (l6_spec_IsName nf m6 s (w64 (x3_6 + (1 : Int)))))) := by
  unfold j19_spec_IsName l6_spec_IsName c19_spec_IsName w25_spec_IsName c24_spec_IsName
  generalize c25_spec_IsName = x0
  revert x0
  refine id ?_
  intro x0
  kernel_rfl
theorem j17_spec_IsName_eq (nf : Nat) (m6 : Nat) (s : Str) (x3_6 : Int) (x4_17 : Bool) : j17_spec_IsName nf m6 s x3_6 x4_17 = (
  br ((!x4_17) == true) (
    br ((x3_6 == (0 : Int)) == false) (
      gg (0 ≤ x3_6 ∧ x3_6 < (List.length s : Int)) <|
        br ((decide (((List.getD s (Int.toNat x3_6) 0).toNat : Int) < (48 : Int))) == false) (
          gg (0 ≤ x3_6 ∧ x3_6 < (List.length s : Int)) <|
            mark (j19_spec_IsName nf m6 s x3_6 (decide ((57 : Int) < ((List.getD s (Int.toNat x3_6) 0).toNat : Int))))) (
          mark (j19_spec_IsName nf m6 s x3_6 true))) (
      mark (j19_spec_IsName nf m6 s x3_6 true))) (
    mark (j19_spec_IsName nf m6 s x3_6 false))) := by
  unfold j17_spec_IsName j19_spec_IsName c17_spec_IsName w25_spec_IsName c24_spec_IsName w19_spec_IsName
  generalize c25_spec_IsName = x0
  generalize c19_spec_IsName = x1
  revert x0 x1
  refine id ?_
  intro x0 x1
  kernel_rfl
theorem l6_spec_IsName_eq (nf : Nat) (m6 : Nat) (s : Str) (x3_6 : Int) : l6_spec_IsName nf (m6 + 1) s x3_6 = (
  br (decide (x3_6 < (List.length s : Int))) (
    gg (0 ≤ x3_6 ∧ x3_6 < (List.length s : Int)) <|
      br ((decide ((97 : Int) ≤ ((List.getD s (Int.toNat x3_6) 0).toNat : Int))) == true) (
        gg (0 ≤ x3_6 ∧ x3_6 < (List.length s : Int)) <|
          mark (j17_spec_IsName nf m6 s x3_6 (decide (((List.getD s (Int.toNat x3_6) 0).toNat : Int) ≤ (122 : Int))))) (
        mark (j17_spec_IsName nf m6 s x3_6 false))) (
    mark (j25_spec_IsName nf s))) := by
  unfold l6_spec_IsName j17_spec_IsName j25_spec_IsName c7_spec_IsName w25_spec_IsName w17_spec_IsName c24_spec_IsName
  generalize c25_spec_IsName = x0
  generalize c17_spec_IsName = x1
  revert x0 x1
  refine id ?_
  intro x0 x1
  kernel_rfl
theorem j25_spec_IsName_eq (nf : Nat) (s : Str) : j25_spec_IsName nf s = (
  cb (m_spec_l1In nf (List.length s : Int) (1 : Int) (4 : Int)) fun r41 =>
    br (r41 == true) (
      br ((!(s == ([105, 102] : Str))) == true) (
        some (!(s == ([102, 111, 114] : Str)))) (
        some false)) (
      some false)) := by kernel_rfl
theorem m_spec_IsName_eq (nf : Nat) (s : Str) : m_spec_IsName nf s = (
  mark (l6_spec_IsName nf nf s (0 : Int))) := by
  unfold m_spec_IsName l6_spec_IsName ir_spec_IsName w25_spec_IsName
  generalize c25_spec_IsName = x0
  revert x0
  refine id ?_
  intro x0
  kernel_rfl
noncomputable def e_spec_IsName (nf : Nat) : XE := eF 197 [.v kS] [.v .bool] (fun t => m_spec_IsName nf t.1)
theorem o_spec_IsName (nf : Nat) : conOK Try.prog 197 (e_spec_IsName nf).con := by
  have ih : XT.ok Try.prog (T_spec_IsName nf) := by exact ⟨o_spec_l1In nf, trivial⟩
  refine eF_ok fun t x h => ?_
  obtain ⟨s, _⟩ := t
  exact runF_ok (N := 50) ih Try.func197 (by kernel_rfl) rfl h
def c23_spec_l3Labels : C := .sq (.rg [.mv 16 (.t 0), .ln 17 false (.t 16), .cv (some 18) 198 [((.t 17), .v kI), ((.i 1), .v kI), ((.i 4), .v kI)], .mv 19 (.t 18), .g 19 true (.mv 20 (.t 0)), .g 19 true (.cv (some 21) 199 [((.t 20), .v (kL kS))]), .pk 22 (.t 19) (.t 21) (.b false), .mv 2 (.t 22)]) .rt
def w23_spec_l3Labels : C := .kp [0] [] c23_spec_l3Labels
def c7_spec_l3Labels : C := .sq (.sq (.rg [.mv 4 (.t 3), .mv 5 (.t 0), .ln 6 false (.t 5), .bi 7 .lss (.t 4) (.t 6)]) (.cd (.t 7) .skip (.ex 0))) (.sq (.bk 1 (.sq (.rg [.mv 10 (.t 0), .mv 11 (.t 3), .ia 12 (.t 10) (.t 11) kS, .ld 13 (.t 12) kS, .cv (some 14) 197 [((.t 13), .v kS)], .un 15 .not (.t 14)]) (.cd (.t 15) (.sq (.rg [.mv 2 (.b false)]) .rt) .skip))) (.rg [.mv 8 (.t 3), .bi 9 .add (.t 8) (.i 1), .mv 3 (.t 9)]))
def ir_spec_l3Labels : C := .sq (.rg [.mv 2 (.b false)]) (.sq (.sq (.rg [.mv 3 (.i 0)]) (.bk 0 (.lk [0, 3] [] c7_spec_l3Labels))) w23_spec_l3Labels)
noncomputable abbrev T_spec_l3Labels (nf : Nat) : XT := [e_spec_IsName nf, e_spec_l1In nf, e_spec_AreAscending nf]
noncomputable def m_spec_l3Labels (nf : Nat) (list : List Str) : Option (Bool) := runF (T_spec_l3Labels nf) nf [.v (kL kS)] [.t 2 (.v .bool)] ir_spec_l3Labels (list, ())
noncomputable def X_spec_l3Labels {R : Type} (nf : Nat) : C → Env → (Xt → Env → Option R) → Option R := xc (R := R) (T_spec_l3Labels nf).S nf
noncomputable def l6_spec_l3Labels (nf : Nat) (m6 : Nat) (list : List Str) (x3_6 : Int) : Option (Bool) := xit [0, 3] [] (X_spec_l3Labels nf c7_spec_l3Labels) (qB 0 (qS (X_spec_l3Labels nf w23_spec_l3Labels) (KF [.t 2 (.v .bool)]))) m6 ⟨[(0, .v (kL kS) list), (3, .v kI x3_6)], []⟩
noncomputable def j23_spec_l3Labels (nf : Nat) (list : List Str) : Option (Bool) := X_spec_l3Labels nf c23_spec_l3Labels ⟨[(0, .v (kL kS) list)], []⟩ (KF [.t 2 (.v .bool)])
theorem l6_spec_l3Labels_eq (nf : Nat) (m6 : Nat) (list : List Str) (x3_6 : Int) : l6_spec_l3Labels nf (m6 + 1) list x3_6 = (
  br (decide (x3_6 < (List.length list : Int))) (
    gg (0 ≤ x3_6 ∧ x3_6 < (List.length list : Int)) <|
      cb (m_spec_IsName nf (gt list x3_6 ([] : Str))) fun r14 =>
        br (!r14) (
          some false) (
          mark (l6_spec_l3Labels nf m6 list (w64 (x3_6 + (1 : Int)))))) (
    mark (j23_spec_l3Labels nf list))) := by
  unfold l6_spec_l3Labels j23_spec_l3Labels c7_spec_l3Labels w23_spec_l3Labels
  generalize c23_spec_l3Labels = x0
  revert x0
  refine id ?_
  intro x0
  kernel_rfl
theorem j23_spec_l3Labels_eq (nf : Nat) (list : List Str) : j23_spec_l3Labels nf list = (
  cb (m_spec_l1In nf (List.length list : Int) (1 : Int) (4 : Int)) fun r18 =>
    br (r18 == true) (
      cb (m_spec_AreAscending nf list) fun r21 =>
        some r21) (
      some false)) := by kernel_rfl
theorem m_spec_l3Labels_eq (nf : Nat) (list : List Str) : m_spec_l3Labels nf list = (
  mark (l6_spec_l3Labels nf nf list (0 : Int))) := by
  unfold m_spec_l3Labels l6_spec_l3Labels ir_spec_l3Labels w23_spec_l3Labels
  generalize c23_spec_l3Labels = x0
  revert x0
  refine id ?_
  intro x0
  kernel_rfl
noncomputable def e_spec_l3Labels (nf : Nat) : XE := eF 167 [.v (kL kS)] [.v .bool] (fun t => m_spec_l3Labels nf t.1)
theorem o_spec_l3Labels (nf : Nat) : conOK Try.prog 167 (e_spec_l3Labels nf).con := by
  have ih : XT.ok Try.prog (T_spec_l3Labels nf) := by exact ⟨o_spec_IsName nf, o_spec_l1In nf, o_spec_AreAscending nf, trivial⟩
  refine eF_ok fun t x h => ?_
  obtain ⟨list, _⟩ := t
  exact runF_ok (N := 23) ih Try.func167 (by kernel_rfl) rfl h
def c23_spec_l3Has : C := .sq (.rg [.fa 20 (.t 2) 0 0 0, .ld 21 (.t 20) kI, .mv 22 (.t 1), .bi 23 .eql (.t 21) (.t 22), .mv 4 (.t 23)]) .rt
def c7_spec_l3Has : C := .sq (.sq (.rg [.mv 6 (.t 5), .fa 7 (.t 2) 0 2 2, .ld 8 (.t 7) (kL (kR 0)), .ln 9 false (.t 8), .bi 10 .lss (.t 6) (.t 9)]) (.cd (.t 10) .skip (.ex 0))) (.sq (.bk 1 (.sq (.rg [.fa 13 (.t 2) 0 2 2, .ld 14 (.t 13) (kL (kR 0)), .mv 15 (.t 5), .ia 16 (.t 14) (.t 15) (kR 0), .ld 17 (.t 16) (kR 0), .mv 18 (.t 1), .cv (some 19) 117 [((.t 17), .v (kR 0)), ((.t 18), .v kI)]]) (.cd (.t 19) (.sq (.rg [.mv 4 (.b true)]) .rt) .skip))) (.rg [.mv 11 (.t 5), .bi 12 .add (.t 11) (.i 1), .mv 5 (.t 12)]))
def ir_spec_l3Has : C := .sq (.rg [.bx 2 (.t 0) (kR 0), .mv 4 (.b false)]) (.sq (.sq (.rg [.mv 5 (.i 0)]) (.bk 0 (.lk [1, 2, 5] [[2]] c7_spec_l3Has))) c23_spec_l3Has)
noncomputable def B_spec_l3Has (nf : Nat) : XT := []
noncomputable def G_spec_l3Has (nf : Nat) : Nat → XT
  | 0 => []
  | kf + 1 => [eF 117 [.v (kR 0), .v kI] [.v .bool] (fun t => (fun (t : Ty) (kind : Int) => runF (G_spec_l3Has nf kf ++ B_spec_l3Has nf) nf [.v (kR 0), .v kI] [.t 4 (.v .bool)] ir_spec_l3Has (t, kind, ())) t.1 t.2.1)]
noncomputable abbrev T_spec_l3Has (nf kf : Nat) : XT := G_spec_l3Has nf kf ++ B_spec_l3Has nf
noncomputable def m_spec_l3Has (nf kf : Nat) (t : Ty) (kind : Int) : Option (Bool) := runF (T_spec_l3Has nf kf) nf [.v (kR 0), .v kI] [.t 4 (.v .bool)] ir_spec_l3Has (t, kind, ())
noncomputable def X_spec_l3Has {R : Type} (nf kf : Nat) : C → Env → (Xt → Env → Option R) → Option R := xc (R := R) (T_spec_l3Has nf kf).S nf
noncomputable def l6_spec_l3Has (nf kf : Nat) (m6 : Nat) (kind : Int) (t : Ty) (x5_6 : Int) : Option (Bool) := xit [1, 2, 5] [[2]] (X_spec_l3Has nf kf c7_spec_l3Has) (qB 0 (qS (X_spec_l3Has nf kf c23_spec_l3Has) (KF [.t 4 (.v .bool)]))) m6 ⟨[(1, .v kI kind), (2, .pt [2] 0), (5, .v kI x5_6)], [([2], .box [.v kI t.kind, .v (kL kS) t.labels, .v (kL (kR 0)) t.args])]⟩
theorem l6_spec_l3Has_eq (nf kf : Nat) (m6 : Nat) (kind : Int) (t : Ty) (x5_6 : Int) : l6_spec_l3Has nf (kf + 1) (m6 + 1) kind t x5_6 = (
  br (decide (x5_6 < (List.length t.args : Int))) (
    gg (0 ≤ x5_6 ∧ x5_6 < (List.length t.args : Int)) <|
      cb (m_spec_l3Has nf kf (gt t.args x5_6 Ty.zero) kind) fun r19 =>
        br r19 (
          some true) (
          mark (l6_spec_l3Has nf (kf + 1) m6 kind t (w64 (x5_6 + (1 : Int)))))) (
    some (t.kind == kind))) := by kernel_rfl
theorem m_spec_l3Has_eq (nf kf : Nat) (t : Ty) (kind : Int) : m_spec_l3Has nf (kf + 1) t kind = (
  mark (l6_spec_l3Has nf (kf + 1) nf kind t (0 : Int))) := by kernel_rfl
noncomputable def e_spec_l3Has (nf : Nat) : XE := eF 117 [.v (kR 0), .v kI] [.v .bool] (fun t => m_spec_l3Has nf nf t.1 t.2.1)
theorem gok_spec_l3Has (nf : Nat) : ∀ kf : Nat, XT.ok Try.prog (G_spec_l3Has nf kf ++ B_spec_l3Has nf)
  | 0 => by exact trivial
  | kf + 1 => by
    have ih := gok_spec_l3Has nf kf
    refine ⟨?_, (by exact trivial)⟩
    · refine eF_ok fun t x h => ?_
      obtain ⟨t, kind, _⟩ := t
      exact runF_ok (N := 24) ih Try.func117 (by kernel_rfl) rfl h
theorem o_spec_l3Has (nf : Nat) : conOK Try.prog 117 (e_spec_l3Has nf).con := by
  have ih := gok_spec_l3Has nf nf
  refine eF_ok fun t x h => ?_
  obtain ⟨t, kind, _⟩ := t
  exact runF_ok (N := 24) ih Try.func117 (by kernel_rfl) rfl h
def c19_spec_l3Left : C := .sq (.rg [.mv 26 (.t 1), .mv 4 (.t 26)]) .rt
def c15_spec_l3Left : C := .sq (.bk 1 (.rg [.fa 19 (.t 2) 0 2 2, .ld 20 (.t 19) (kL (kR 0)), .mv 21 (.t 5), .ia 22 (.t 20) (.t 21) (kR 0), .ld 23 (.t 22) (kR 0), .mv 24 (.t 1), .cv (some 25) 110 [((.t 23), .v (kR 0)), ((.t 24), .v kI)], .mv 1 (.t 25)])) (.rg [.mv 17 (.t 5), .bi 18 .add (.t 17) (.i 1), .mv 5 (.t 18)])
def c12_spec_l3Left : C := .cd (.t 16) .skip (.ex 0)
def w12_spec_l3Left : C := .kp [1, 2, 5, 16] [[2]] c12_spec_l3Left
def c9_spec_l3Left : C := .sq (.sq (.rg [.mv 8 (.t 5), .fa 9 (.t 2) 0 2 2, .ld 10 (.t 9) (kL (kR 0)), .ln 11 false (.t 10), .bi 12 .lss (.t 8) (.t 11), .mv 13 (.t 12), .g 13 true (.mv 14 (.t 1)), .g 13 true (.bi 15 .geq (.t 14) (.i 0)), .pk 16 (.t 13) (.t 15) (.b false)]) w12_spec_l3Left) c15_spec_l3Left
def ir_spec_l3Left : C := .sq (.rg [.bx 2 (.t 0) (kR 0), .mv 4 (.i 0)]) (.sq (.rg [.mv 6 (.t 1), .bi 7 .sub (.t 6) (.i 1), .mv 1 (.t 7)]) (.sq (.sq (.rg [.mv 5 (.i 0)]) (.bk 0 (.lk [1, 2, 5] [[2]] c9_spec_l3Left))) c19_spec_l3Left))
noncomputable def B_spec_l3Left (nf : Nat) : XT := []
noncomputable def G_spec_l3Left (nf : Nat) : Nat → XT
  | 0 => []
  | kf + 1 => [eF 110 [.v (kR 0), .v kI] [.v kI] (fun t => (fun (t : Ty) (left : Int) => runF (G_spec_l3Left nf kf ++ B_spec_l3Left nf) nf [.v (kR 0), .v kI] [.t 4 (.v kI)] ir_spec_l3Left (t, left, ())) t.1 t.2.1)]
noncomputable abbrev T_spec_l3Left (nf kf : Nat) : XT := G_spec_l3Left nf kf ++ B_spec_l3Left nf
noncomputable def m_spec_l3Left (nf kf : Nat) (t : Ty) (left : Int) : Option (Int) := runF (T_spec_l3Left nf kf) nf [.v (kR 0), .v kI] [.t 4 (.v kI)] ir_spec_l3Left (t, left, ())
noncomputable def X_spec_l3Left {R : Type} (nf kf : Nat) : C → Env → (Xt → Env → Option R) → Option R := xc (R := R) (T_spec_l3Left nf kf).S nf
noncomputable def j12_spec_l3Left (nf kf : Nat) (m8 : Nat) (x1_8 : Int) (x5_8 : Int) (t : Ty) (x16_12 : Bool) : Option (Int) := X_spec_l3Left nf kf c12_spec_l3Left ⟨[(1, .v kI x1_8), (2, .pt [2] 0), (5, .v kI x5_8), (16, .v .bool x16_12)], [([2], .box [.v kI t.kind, .v (kL kS) t.labels, .v (kL (kR 0)) t.args])]⟩ (qS (X_spec_l3Left nf kf c15_spec_l3Left) (qM [1, 2, 5] [[2]] (X_spec_l3Left nf kf c9_spec_l3Left) m8 (qB 0 (qS (X_spec_l3Left nf kf c19_spec_l3Left) (KF [.t 4 (.v kI)])))))
noncomputable def l8_spec_l3Left (nf kf : Nat) (m8 : Nat) (t : Ty) (x1_8 : Int) (x5_8 : Int) : Option (Int) := xit [1, 2, 5] [[2]] (X_spec_l3Left nf kf c9_spec_l3Left) (qB 0 (qS (X_spec_l3Left nf kf c19_spec_l3Left) (KF [.t 4 (.v kI)]))) m8 ⟨[(1, .v kI x1_8), (2, .pt [2] 0), (5, .v kI x5_8)], [([2], .box [.v kI t.kind, .v (kL kS) t.labels, .v (kL (kR 0)) t.args])]⟩
theorem j12_spec_l3Left_eq (nf kf : Nat) (m8 : Nat) (x1_8 : Int) (x5_8 : Int) (t : Ty) (x16_12 : Bool) : j12_spec_l3Left nf (kf + 1) m8 x1_8 x5_8 t x16_12 = (
  br x16_12 (
    gg (0 ≤ x5_8 ∧ x5_8 < (List.length t.args : Int)) <|
      cb (m_spec_l3Left nf kf (gt t.args x5_8 Ty.zero) x1_8) fun r25 =>
        mark (l8_spec_l3Left nf (kf + 1) m8 t r25 (w64 (x5_8 + (1 : Int))))) (
    some x1_8)) := by kernel_rfl
theorem l8_spec_l3Left_eq (nf kf : Nat) (m8 : Nat) (t : Ty) (x1_8 : Int) (x5_8 : Int) : l8_spec_l3Left nf (kf + 1) (m8 + 1) t x1_8 x5_8 = (
  br ((decide (x5_8 < (List.length t.args : Int))) == true) (
    mark (j12_spec_l3Left nf (kf + 1) m8 x1_8 x5_8 t (decide ((0 : Int) ≤ x1_8)))) (
    mark (j12_spec_l3Left nf (kf + 1) m8 x1_8 x5_8 t false))) := by
  unfold l8_spec_l3Left j12_spec_l3Left c9_spec_l3Left c19_spec_l3Left w12_spec_l3Left c15_spec_l3Left
  generalize c12_spec_l3Left = x0
  revert x0
  refine id ?_
  intro x0
  kernel_rfl
theorem m_spec_l3Left_eq (nf kf : Nat) (t : Ty) (left : Int) : m_spec_l3Left nf (kf + 1) t left = (
  mark (l8_spec_l3Left nf (kf + 1) nf t (w64 (left - (1 : Int))) (0 : Int))) := by kernel_rfl
noncomputable def e_spec_l3Left (nf : Nat) : XE := eF 110 [.v (kR 0), .v kI] [.v kI] (fun t => m_spec_l3Left nf nf t.1 t.2.1)
theorem gok_spec_l3Left (nf : Nat) : ∀ kf : Nat, XT.ok Try.prog (G_spec_l3Left nf kf ++ B_spec_l3Left nf)
  | 0 => by exact trivial
  | kf + 1 => by
    have ih := gok_spec_l3Left nf kf
    refine ⟨?_, (by exact trivial)⟩
    · refine eF_ok fun t x h => ?_
      obtain ⟨t, left, _⟩ := t
      exact runF_ok (N := 27) ih Try.func110 (by kernel_rfl) rfl h
theorem o_spec_l3Left (nf : Nat) : conOK Try.prog 110 (e_spec_l3Left nf).con := by
  have ih := gok_spec_l3Left nf nf
  refine eF_ok fun t x h => ?_
  obtain ⟨t, left, _⟩ := t
  exact runF_ok (N := 27) ih Try.func110 (by kernel_rfl) rfl h
def c19_spec_DepthOfType : C := .sq (.rg [.mv 20 (.t 3), .bi 21 .add (.t 20) (.i 1), .mv 2 (.t 21)]) .rt
def c9_spec_DepthOfType : C := .sq (.sq (.rg [.mv 5 (.t 4), .fa 6 (.t 1) 0 2 2, .ld 7 (.t 6) (kL (kR 0)), .ln 8 false (.t 7), .bi 9 .lss (.t 5) (.t 8)]) (.cd (.t 9) .skip (.ex 0))) (.sq (.bk 1 (.rg [.mv 12 (.t 3), .fa 13 (.t 1) 0 2 2, .ld 14 (.t 13) (kL (kR 0)), .mv 15 (.t 4), .ia 16 (.t 14) (.t 15) (kR 0), .ld 17 (.t 16) (kR 0), .cv (some 18) 111 [((.t 17), .v (kR 0))], .cv (some 19) 166 [((.t 12), .v kI), ((.t 18), .v kI)], .mv 3 (.t 19)])) (.rg [.mv 10 (.t 4), .bi 11 .add (.t 10) (.i 1), .mv 4 (.t 11)]))
def ir_spec_DepthOfType : C := .sq (.rg [.bx 1 (.t 0) (kR 0), .mv 2 (.i 0)]) (.sq (.rg [.mv 3 (.i 0)]) (.sq (.sq (.rg [.mv 4 (.i 0)]) (.bk 0 (.lk [1, 3, 4] [[1]] c9_spec_DepthOfType))) c19_spec_DepthOfType))
noncomputable def B_spec_DepthOfType (nf : Nat) : XT := [e_spec_l1Max nf]
noncomputable def G_spec_DepthOfType (nf : Nat) : Nat → XT
  | 0 => []
  | kf + 1 => [eF 111 [.v (kR 0)] [.v kI] (fun t => (fun (t : Ty) => runF (G_spec_DepthOfType nf kf ++ B_spec_DepthOfType nf) nf [.v (kR 0)] [.t 2 (.v kI)] ir_spec_DepthOfType (t, ())) t.1)]
noncomputable abbrev T_spec_DepthOfType (nf kf : Nat) : XT := G_spec_DepthOfType nf kf ++ B_spec_DepthOfType nf
noncomputable def m_spec_DepthOfType (nf kf : Nat) (t : Ty) : Option (Int) := runF (T_spec_DepthOfType nf kf) nf [.v (kR 0)] [.t 2 (.v kI)] ir_spec_DepthOfType (t, ())
noncomputable def X_spec_DepthOfType {R : Type} (nf kf : Nat) : C → Env → (Xt → Env → Option R) → Option R := xc (R := R) (T_spec_DepthOfType nf kf).S nf
noncomputable def l8_spec_DepthOfType (nf kf : Nat) (m8 : Nat) (t : Ty) (x3_8 : Int) (x4_8 : Int) : Option (Int) := xit [1, 3, 4] [[1]] (X_spec_DepthOfType nf kf c9_spec_DepthOfType) (qB 0 (qS (X_spec_DepthOfType nf kf c19_spec_DepthOfType) (KF [.t 2 (.v kI)]))) m8 ⟨[(1, .pt [1] 0), (3, .v kI x3_8), (4, .v kI x4_8)], [([1], .box [.v kI t.kind, .v (kL kS) t.labels, .v (kL (kR 0)) t.args])]⟩
theorem l8_spec_DepthOfType_eq (nf kf : Nat) (m8 : Nat) (t : Ty) (x3_8 : Int) (x4_8 : Int) : l8_spec_DepthOfType nf (kf + 1) (m8 + 1) t x3_8 x4_8 = (
  br (decide (x4_8 < (List.length t.args : Int))) (
    gg (0 ≤ x4_8 ∧ x4_8 < (List.length t.args : Int)) <|
      cb (m_spec_DepthOfType nf kf (gt t.args x4_8 Ty.zero)) fun r18 =>
        cb (m_spec_l1Max nf x3_8 r18) fun r19 =>
          mark (l8_spec_DepthOfType nf (kf + 1) m8 t r19 (w64 (x4_8 + (1 : Int))))) (
    some (w64 (x3_8 + (1 : Int))))) := by kernel_rfl
theorem m_spec_DepthOfType_eq (nf kf : Nat) (t : Ty) : m_spec_DepthOfType nf (kf + 1) t = (
  mark (l8_spec_DepthOfType nf (kf + 1) nf t (0 : Int) (0 : Int))) := by kernel_rfl
noncomputable def e_spec_DepthOfType (nf : Nat) : XE := eF 111 [.v (kR 0)] [.v kI] (fun t => m_spec_DepthOfType nf nf t.1)
theorem gok_spec_DepthOfType (nf : Nat) : ∀ kf : Nat, XT.ok Try.prog (G_spec_DepthOfType nf kf ++ B_spec_DepthOfType nf)
  | 0 => by exact ⟨o_spec_l1Max nf, trivial⟩
  | kf + 1 => by
    have ih := gok_spec_DepthOfType nf kf
    refine ⟨?_, (by exact ⟨o_spec_l1Max nf, trivial⟩)⟩
    · refine eF_ok fun t x h => ?_
      obtain ⟨t, _⟩ := t
      exact runF_ok (N := 22) ih Try.func111 (by kernel_rfl) rfl h
theorem o_spec_DepthOfType (nf : Nat) : conOK Try.prog 111 (e_spec_DepthOfType nf).con := by
  have ih := gok_spec_DepthOfType nf nf
  refine eF_ok fun t x h => ?_
  obtain ⟨t, _⟩ := t
  exact runF_ok (N := 22) ih Try.func111 (by kernel_rfl) rfl h
def c62_spec_l3Form : C := .sq (.rg [.fa 64 (.t 1) 0 1 1, .ld 65 (.t 64) (kL kS), .ln 66 false (.t 65), .bi 67 .eql (.t 66) (.i 0), .mv 68 (.t 67), .g 68 true (.fa 69 (.t 1) 0 2 2), .g 68 true (.ld 70 (.t 69) (kL (kR 0))), .g 68 true (.ln 71 false (.t 70)), .g 68 true (.mv 72 (.t 4)), .g 68 true (.bi 73 .eql (.t 71) (.t 72)), .pk 74 (.t 68) (.t 73) (.b false), .mv 2 (.t 74)]) .rt
def w62_spec_l3Form : C := .kp [1, 4] [[1]] c62_spec_l3Form
def c51_spec_l3Form : C := .cd (.t 57) (.rg [.mv 4 (.i 0)]) (.sq (.rg [.bi 61 .eql (.t 56) (.i 4), .mv 60 (.t 61)]) (.cd (.t 60) (.rg [.mv 4 (.i 1)]) (.sq (.rg [.bi 63 .eql (.t 56) (.i 5), .mv 62 (.t 63)]) (.cd (.t 62) (.rg [.mv 4 (.i 2)]) .skip))))
def w51_spec_l3Form : C := .kp [1, 4, 56, 57] [[1]] c51_spec_l3Form
def c39_spec_l3Form : C := .sq (.rg [.mv 4 (.i (-1))]) (.sq (.sq (.rg [.fa 55 (.t 1) 0 0 0, .ld 56 (.t 55) kI]) (.bk 2 (.sq (.sq (.rg [.bi 58 .eql (.t 56) (.i 1), .mv 57 (.t 58)]) (.cd (.t 57) .skip (.rg [.bi 59 .eql (.t 56) (.i 2), .mv 57 (.t 59)]))) w51_spec_l3Form))) w62_spec_l3Form)
def c34_spec_l3Form : C := .cd (.t 54) (.sq (.rg [.mv 2 (.b false)]) .rt) .skip
def w34_spec_l3Form : C := .kp [1, 54] [[1]] c34_spec_l3Form
def c31_spec_l3Form : C := .sq (.sq (.rg [.fa 39 (.t 1) 0 0 0, .ld 40 (.t 39) kI, .bi 41 .eql (.t 40) (.i 4), .mv 42 (.t 41), .g 42 true (.fa 43 (.t 1) 0 2 2), .g 42 true (.ld 44 (.t 43) (kL (kR 0))), .g 42 true (.ln 45 false (.t 44)), .g 42 true (.bi 46 .eql (.t 45) (.i 1)), .pk 47 (.t 42) (.t 46) (.b false), .mv 48 (.t 47), .g 48 true (.fa 49 (.t 1) 0 2 2), .g 48 true (.ld 50 (.t 49) (kL (kR 0))), .g 48 true (.ia 51 (.t 50) (.i 0) (kR 0)), .g 48 true (.ld 52 (.t 51) (kR 0)), .g 48 true (.cv (some 53) 117 [((.t 52), .v (kR 0)), ((.i 5), .v kI)]), .pk 54 (.t 48) (.t 53) (.b false)]) w34_spec_l3Form) c39_spec_l3Form
def c29_spec_l3Form : C := .rt
def w29_spec_l3Form : C := .kp [2] [] c29_spec_l3Form
def c23_spec_l3Form : C := .sq (.sq (.rg [.fa 19 (.t 1) 0 0 0, .ld 20 (.t 19) kI, .bi 21 .eql (.t 20) (.i 3)]) (.cd (.t 21) (.sq (.rg [.fa 22 (.t 1) 0 2 2, .ld 23 (.t 22) (kL (kR 0)), .ln 24 false (.t 23), .fa 25 (.t 1) 0 1 1, .ld 26 (.t 25) (kL kS), .ln 27 false (.t 26), .bi 28 .eql (.t 24) (.t 27), .mv 29 (.t 28), .g 29 true (.fa 30 (.t 1) 0 1 1), .g 29 true (.ld 31 (.t 30) (kL kS)), .g 29 true (.cv (some 32) 167 [((.t 31), .v (kL kS))]), .pk 33 (.t 29) (.t 32) (.b false), .mv 34 (.t 33), .g 34 true (.ld 35 (.t 1) (kR 0)), .g 34 true (.cv (some 36) 117 [((.t 35), .v (kR 0)), ((.i 5), .v kI)]), .g 34 true (.un 37 .not (.t 36)), .pk 38 (.t 34) (.t 37) (.b false), .mv 2 (.t 38)]) w29_spec_l3Form) .skip)) c31_spec_l3Form
def w23_spec_l3Form : C := .kp [1] [[1]] c23_spec_l3Form
def c7_spec_l3Form : C := .sq (.sq (.rg [.mv 5 (.t 3), .fa 6 (.t 1) 0 2 2, .ld 7 (.t 6) (kL (kR 0)), .ln 8 false (.t 7), .bi 9 .lss (.t 5) (.t 8)]) (.cd (.t 9) .skip (.ex 0))) (.sq (.bk 1 (.sq (.rg [.fa 12 (.t 1) 0 2 2, .ld 13 (.t 12) (kL (kR 0)), .mv 14 (.t 3), .ia 15 (.t 13) (.t 14) (kR 0), .ld 16 (.t 15) (kR 0), .cv (some 17) 112 [((.t 16), .v (kR 0))], .un 18 .not (.t 17)]) (.cd (.t 18) (.sq (.rg [.mv 2 (.b false)]) .rt) .skip))) (.rg [.mv 10 (.t 3), .bi 11 .add (.t 10) (.i 1), .mv 3 (.t 11)]))
def ir_spec_l3Form : C := .sq (.rg [.bx 1 (.t 0) (kR 0), .mv 2 (.b false)]) (.sq (.sq (.rg [.mv 3 (.i 0)]) (.bk 0 (.lk [1, 3] [[1]] c7_spec_l3Form))) w23_spec_l3Form)
noncomputable def B_spec_l3Form (nf : Nat) : XT := [e_spec_l3Labels nf, e_spec_l3Has nf]
noncomputable def G_spec_l3Form (nf : Nat) : Nat → XT
  | 0 => []
  | kf + 1 => [eF 112 [.v (kR 0)] [.v .bool] (fun t => (fun (t : Ty) => runF (G_spec_l3Form nf kf ++ B_spec_l3Form nf) nf [.v (kR 0)] [.t 2 (.v .bool)] ir_spec_l3Form (t, ())) t.1)]
noncomputable abbrev T_spec_l3Form (nf kf : Nat) : XT := G_spec_l3Form nf kf ++ B_spec_l3Form nf
noncomputable def m_spec_l3Form (nf kf : Nat) (t : Ty) : Option (Bool) := runF (T_spec_l3Form nf kf) nf [.v (kR 0)] [.t 2 (.v .bool)] ir_spec_l3Form (t, ())
noncomputable def X_spec_l3Form {R : Type} (nf kf : Nat) : C → Env → (Xt → Env → Option R) → Option R := xc (R := R) (T_spec_l3Form nf kf).S nf
noncomputable def l6_spec_l3Form (nf kf : Nat) (m6 : Nat) (t : Ty) (x3_6 : Int) : Option (Bool) := xit [1, 3] [[1]] (X_spec_l3Form nf kf c7_spec_l3Form) (qB 0 (qS (X_spec_l3Form nf kf w23_spec_l3Form) (KF [.t 2 (.v .bool)]))) m6 ⟨[(1, .pt [1] 0), (3, .v kI x3_6)], [([1], .box [.v kI t.kind, .v (kL kS) t.labels, .v (kL (kR 0)) t.args])]⟩
noncomputable def j29_spec_l3Form (nf kf : Nat) (x2_29 : Bool) : Option (Bool) := X_spec_l3Form nf kf c29_spec_l3Form ⟨[(2, .v .bool x2_29)], []⟩ (qS (X_spec_l3Form nf kf c31_spec_l3Form) (KF [.t 2 (.v .bool)]))
noncomputable def j34_spec_l3Form (nf kf : Nat) (t : Ty) (x54_34 : Bool) : Option (Bool) := X_spec_l3Form nf kf c34_spec_l3Form ⟨[(1, .pt [1] 0), (54, .v .bool x54_34)], [([1], .box [.v kI t.kind, .v (kL kS) t.labels, .v (kL (kR 0)) t.args])]⟩ (qS (X_spec_l3Form nf kf c39_spec_l3Form) (KF [.t 2 (.v .bool)]))
noncomputable def j51_spec_l3Form (nf kf : Nat) (t : Ty) (x57_51 : Bool) : Option (Bool) := X_spec_l3Form nf kf c51_spec_l3Form ⟨[(1, .pt [1] 0), (4, .v kI (-1 : Int)), (56, .v kI t.kind), (57, .v .bool x57_51)], [([1], .box [.v kI t.kind, .v (kL kS) t.labels, .v (kL (kR 0)) t.args])]⟩ (qB 2 (qS (X_spec_l3Form nf kf w62_spec_l3Form) (KF [.t 2 (.v .bool)])))
noncomputable def j62_spec_l3Form (nf kf : Nat) (t : Ty) (x4_62 : Int) : Option (Bool) := X_spec_l3Form nf kf c62_spec_l3Form ⟨[(1, .pt [1] 0), (4, .v kI x4_62)], [([1], .box [.v kI t.kind, .v (kL kS) t.labels, .v (kL (kR 0)) t.args])]⟩ (KF [.t 2 (.v .bool)])
noncomputable def j23_spec_l3Form (nf kf : Nat) (t : Ty) : Option (Bool) := X_spec_l3Form nf kf c23_spec_l3Form ⟨[(1, .pt [1] 0)], [([1], .box [.v kI t.kind, .v (kL kS) t.labels, .v (kL (kR 0)) t.args])]⟩ (KF [.t 2 (.v .bool)])
theorem l6_spec_l3Form_eq (nf kf : Nat) (m6 : Nat) (t : Ty) (x3_6 : Int) : l6_spec_l3Form nf (kf + 1) (m6 + 1) t x3_6 = (
  br (decide (x3_6 < (List.length t.args : Int))) (
    gg (0 ≤ x3_6 ∧ x3_6 < (List.length t.args : Int)) <|
      cb (m_spec_l3Form nf kf (gt t.args x3_6 Ty.zero)) fun r17 =>
        br (!r17) (
          some false) (
          mark (l6_spec_l3Form nf (kf + 1) m6 t (w64 (x3_6 + (1 : Int)))))) (
    mark (j23_spec_l3Form nf (kf + 1) t))) := by
  unfold l6_spec_l3Form j23_spec_l3Form c7_spec_l3Form w23_spec_l3Form
  generalize c23_spec_l3Form = x0
  revert x0
  refine id ?_
  intro x0
  kernel_rfl
theorem j29_spec_l3Form_eq (nf kf : Nat) (x2_29 : Bool) : j29_spec_l3Form nf (kf + 1) x2_29 = (
  some x2_29) := by
  unfold j29_spec_l3Form c29_spec_l3Form c31_spec_l3Form w34_spec_l3Form c39_spec_l3Form w51_spec_l3Form w62_spec_l3Form
  generalize c34_spec_l3Form = x0
  generalize c51_spec_l3Form = x1
  generalize c62_spec_l3Form = x2
  revert x0 x1 x2
  refine id ?_
  intro x0 x1 x2
  kernel_rfl
theorem j34_spec_l3Form_eq (nf kf : Nat) (t : Ty) (x54_34 : Bool) : j34_spec_l3Form nf (kf + 1) t x54_34 = (
  br x54_34 (
    some false) (
    br (t.kind == (1 : Int)) (
      mark (j51_spec_l3Form nf (kf + 1) t (t.kind == (1 : Int)))) (
      mark (j51_spec_l3Form nf (kf + 1) t (t.kind == (2 : Int)))))) := by
  unfold j34_spec_l3Form j51_spec_l3Form c34_spec_l3Form c39_spec_l3Form w51_spec_l3Form w62_spec_l3Form
  generalize c51_spec_l3Form = x0
  generalize c62_spec_l3Form = x1
  revert x0 x1
  refine id ?_
  intro x0 x1
  kernel_rfl
theorem j51_spec_l3Form_eq (nf kf : Nat) (t : Ty) (x57_51 : Bool) : j51_spec_l3Form nf (kf + 1) t x57_51 = (
  br x57_51 (
    mark (j62_spec_l3Form nf (kf + 1) t (0 : Int))) (
    br (t.kind == (4 : Int)) (
      mark (j62_spec_l3Form nf (kf + 1) t (1 : Int))) (
      br (t.kind == (5 : Int)) (
        mark (j62_spec_l3Form nf (kf + 1) t (2 : Int))) (
        mark (j62_spec_l3Form nf (kf + 1) t (-1 : Int)))))) := by
  unfold j51_spec_l3Form j62_spec_l3Form c51_spec_l3Form w62_spec_l3Form
  generalize c62_spec_l3Form = x0
  revert x0
  refine id ?_
  intro x0
  kernel_rfl
theorem j62_spec_l3Form_eq (nf kf : Nat) (t : Ty) (x4_62 : Int) : j62_spec_l3Form nf (kf + 1) t x4_62 = (
  br (((List.length t.labels : Int) == (0 : Int)) == true) (
    some ((List.length t.args : Int) == x4_62)) (
    some false)) := by kernel_rfl
theorem j23_spec_l3Form_eq (nf kf : Nat) (t : Ty) : j23_spec_l3Form nf (kf + 1) t = (
  br (t.kind == (3 : Int)) (
    br (((List.length t.args : Int) == (List.length t.labels : Int)) == true) (
      cb (m_spec_l3Labels nf t.labels) fun r32 =>
        br (r32 == true) (
          cb (m_spec_l3Has nf nf (Ty.h t) (5 : Int)) fun r36 =>
            mark (j29_spec_l3Form nf (kf + 1) (!r36))) (
          mark (j29_spec_l3Form nf (kf + 1) false))) (
      mark (j29_spec_l3Form nf (kf + 1) false))) (
    br ((t.kind == (4 : Int)) == true) (
      br (((List.length t.args : Int) == (1 : Int)) == true) (
        gg (0 ≤ (0 : Int) ∧ (0 : Int) < (List.length t.args : Int)) <|
          cb (m_spec_l3Has nf nf (gt t.args (0 : Int) Ty.zero) (5 : Int)) fun r53 =>
            mark (j34_spec_l3Form nf (kf + 1) t r53)) (
        mark (j34_spec_l3Form nf (kf + 1) t false))) (
      mark (j34_spec_l3Form nf (kf + 1) t false)))) := by
  unfold j23_spec_l3Form j29_spec_l3Form j34_spec_l3Form c23_spec_l3Form w29_spec_l3Form c31_spec_l3Form w34_spec_l3Form c39_spec_l3Form w51_spec_l3Form w62_spec_l3Form
  generalize c29_spec_l3Form = x0
  generalize c34_spec_l3Form = x1
  generalize c51_spec_l3Form = x2
  generalize c62_spec_l3Form = x3
  revert x0 x1 x2 x3
  refine id ?_
  intro x0 x1 x2 x3
  kernel_rfl
theorem m_spec_l3Form_eq (nf kf : Nat) (t : Ty) : m_spec_l3Form nf (kf + 1) t = (
  mark (l6_spec_l3Form nf (kf + 1) nf t (0 : Int))) := by
  unfold m_spec_l3Form l6_spec_l3Form ir_spec_l3Form w23_spec_l3Form
  generalize c23_spec_l3Form = x0
  revert x0
  refine id ?_
  intro x0
  kernel_rfl
noncomputable def e_spec_l3Form (nf : Nat) : XE := eF 112 [.v (kR 0)] [.v .bool] (fun t => m_spec_l3Form nf nf t.1)
theorem gok_spec_l3Form (nf : Nat) : ∀ kf : Nat, XT.ok Try.prog (G_spec_l3Form nf kf ++ B_spec_l3Form nf)
  | 0 => by exact ⟨o_spec_l3Labels nf, o_spec_l3Has nf, trivial⟩
  | kf + 1 => by
    have ih := gok_spec_l3Form nf kf
    refine ⟨?_, (by exact ⟨o_spec_l3Labels nf, o_spec_l3Has nf, trivial⟩)⟩
    · refine eF_ok fun t x h => ?_
      obtain ⟨t, _⟩ := t
      exact runF_ok (N := 75) ih Try.func112 (by kernel_rfl) rfl h
theorem o_spec_l3Form (nf : Nat) : conOK Try.prog 112 (e_spec_l3Form nf).con := by
  have ih := gok_spec_l3Form nf nf
  refine eF_ok fun t x h => ?_
  obtain ⟨t, _⟩ := t
  exact runF_ok (N := 75) ih Try.func112 (by kernel_rfl) rfl h
def ir_spec_IsValidType : C := .sq (.rg [.bx 1 (.t 0) (kR 0), .mv 2 (.b false)]) (.sq (.rg [.ld 3 (.t 1) (kR 0), .cv (some 4) 110 [((.t 3), .v (kR 0)), ((.i 24), .v kI)], .bi 5 .geq (.t 4) (.i 0), .mv 6 (.t 5), .g 6 true (.ld 7 (.t 1) (kR 0)), .g 6 true (.cv (some 8) 111 [((.t 7), .v (kR 0))]), .g 6 true (.bi 9 .leq (.t 8) (.i 7)), .pk 10 (.t 6) (.t 9) (.b false), .mv 11 (.t 10), .g 11 true (.ld 12 (.t 1) (kR 0)), .g 11 true (.cv (some 13) 112 [((.t 12), .v (kR 0))]), .pk 14 (.t 11) (.t 13) (.b false), .mv 2 (.t 14)]) .rt)
noncomputable abbrev T_spec_IsValidType (nf : Nat) : XT := [e_spec_l3Left nf, e_spec_DepthOfType nf, e_spec_l3Form nf]
noncomputable def m_spec_IsValidType (nf : Nat) (t : Ty) : Option (Bool) := runF (T_spec_IsValidType nf) nf [.v (kR 0)] [.t 2 (.v .bool)] ir_spec_IsValidType (t, ())
theorem m_spec_IsValidType_eq (nf : Nat) (t : Ty) : m_spec_IsValidType nf t = (
  cb (m_spec_l3Left nf nf (Ty.h t) (24 : Int)) fun r4 =>
    br ((decide ((0 : Int) ≤ r4)) == true) (
      cb (m_spec_DepthOfType nf nf (Ty.h t)) fun r8 =>
        br ((decide (r8 ≤ (7 : Int))) == true) (
          cb (m_spec_l3Form nf nf (Ty.h t)) fun r13 =>
            some r13) (
          some false)) (
      some false)) := by kernel_rfl
noncomputable def e_spec_IsValidType (nf : Nat) : XE := eF 51 [.v (kR 0)] [.v .bool] (fun t => m_spec_IsValidType nf t.1)
theorem o_spec_IsValidType (nf : Nat) : conOK Try.prog 51 (e_spec_IsValidType nf).con := by
  have ih : XT.ok Try.prog (T_spec_IsValidType nf) := by exact ⟨o_spec_l3Left nf, o_spec_DepthOfType nf, o_spec_l3Form nf, trivial⟩
  refine eF_ok fun t x h => ?_
  obtain ⟨t, _⟩ := t
  exact runF_ok (N := 15) ih Try.func51 (by kernel_rfl) rfl h
end Go.Q
