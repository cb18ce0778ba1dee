/- Typing: the reference's side. -/
import Derived.Test.YtjogpopbgmjlbaaGreatA6
import Derived.Test.YtjogpopbgmjlbaaGreatProg
import Derived.KernelRfl
set_option linter.unusedVariables false
set_option linter.unusedSimpArgs false
namespace Go.Q
open Go.Proofs
set_option linter.unusedVariables false
set_option maxRecDepth 20000
set_option maxHeartbeats 4000000
def c19_spec_l3Copy : C := .sq (.rg [.ld 30 (.t 3) (kR 0), .st (.t 2) (.t 30) (kR 0)]) .rt
def c9_spec_l3Copy : C := .sq (.sq (.rg [.mv 12 (.t 4), .fa 13 (.t 1) 0 2 2, .ld 14 (.t 13) (kL (kR 0)), .ln 15 false (.t 14), .bi 16 .lss (.t 12) (.t 15)]) (.cd (.t 16) .skip (.ex 0))) (.sq (.bk 1 (.gb 3 2 true (kR 0) (.dr [26, 27] [.fa 19 (.t 3) 0 2 2, .ld 20 (.t 19) (kL (kR 0)), .fa 21 (.t 1) 0 2 2, .ld 22 (.t 21) (kL (kR 0)), .mv 23 (.t 4), .ia 24 (.t 22) (.t 23) (kR 0), .ld 25 (.t 24) (kR 0), .ca (some 26) 131 [((.t 25), .v (kR 0))], .bl 27 (kR 0) [(.t 26)]] [.apl 28 [3, 2] (kR 0) (.t 20) 27, .fa 29 (.t 3) 0 2 2, .st (.t 29) (.t 28) (kL (kR 0))]))) (.rg [.mv 17 (.t 4), .bi 18 .add (.t 17) (.i 1), .mv 4 (.t 18)]))
def ir_spec_l3Copy : C := .sq (.rg [.bx 1 (.t 0) (kR 0), .al 2 (kR 0)]) (.sq (.dr [10, 3] [.fa 5 (.t 1) 0 0 0, .ld 6 (.t 5) kI, .bs 7 true kS [], .fa 8 (.t 1) 0 1 1, .ld 9 (.t 8) (kL kS), .an 10 true kS (.t 7) (.t 9), .bd 11 0 [(0, 1, (.t 6)), (1, 1, (.t 10))], .al 3 (kR 0)] [.st (.t 3) (.t 11) (kR 0)]) (.sq (.sq (.rg [.mv 4 (.i 0)]) (.bk 0 (.gb 3 2 true (kR 0) (.lk [1, 2, 3, 4] [[1], [2], [3], [3, 2], [10]] c9_spec_l3Copy)))) c19_spec_l3Copy))
noncomputable def B_spec_l3Copy (nf : Nat) : XT := []
noncomputable def G_spec_l3Copy (nf : Nat) : Nat → XT
  | 0 => []
  | kf + 1 => [eF 131 [.v (kR 0)] [.o (kR 0)] (fun t => (fun (t : Ty) => runF (G_spec_l3Copy nf kf ++ B_spec_l3Copy nf) nf [.v (kR 0)] [.c 2 (.o (kR 0))] ir_spec_l3Copy (t, ())) t.1)]
noncomputable abbrev T_spec_l3Copy (nf kf : Nat) : XT := G_spec_l3Copy nf kf ++ B_spec_l3Copy nf
noncomputable def m_spec_l3Copy (nf kf : Nat) (t : Ty) : Option (Ty) := runF (T_spec_l3Copy nf kf) nf [.v (kR 0)] [.c 2 (.o (kR 0))] ir_spec_l3Copy (t, ())
noncomputable def X_spec_l3Copy {R : Type} (nf kf : Nat) : C → Env → (Xt → Env → Option R) → Option R := xc (R := R) (T_spec_l3Copy nf kf).S nf
noncomputable def l8_spec_l3Copy (nf kf : Nat) (m8 : Nat) (t : Ty) (x4_8 : Int) (y3_2_8 : List Ty) : Option (Ty) := xit [1, 2, 3, 4] [[1], [2], [3], [3, 2], [10]] (X_spec_l3Copy nf kf c9_spec_l3Copy) (qB 0 (qS (X_spec_l3Copy nf kf c19_spec_l3Copy) (KF [.c 2 (.o (kR 0))]))) m8 ⟨[(1, .pt [1] 0), (2, .pt [2] 0), (3, .pt [3] 0), (4, .v kI x4_8)], [([1], .box [.v kI t.kind, .v (kL kS) t.labels, .v (kL (kR 0)) t.args]), ([2], .box [.v kI (0 : Int), .nl kS, .nl (kR 0)]), ([3], .box [.v kI t.kind, .sl [10], .sl [3, 2]]), ([3, 2], .row true false (kR 0) y3_2_8), ([10], .row true false kS t.labels)]⟩
theorem l8_spec_l3Copy_eq (nf kf : Nat) (m8 : Nat) (t : Ty) (x4_8 : Int) (y3_2_8 : List Ty) : l8_spec_l3Copy nf (kf + 1) (m8 + 1) t x4_8 y3_2_8 = (
  br (decide (x4_8 < (List.length t.args : Int))) (
    gg (0 ≤ x4_8 ∧ x4_8 < (List.length t.args : Int)) <|
      cb (m_spec_l3Copy nf kf (gt t.args x4_8 Ty.zero)) fun r26 =>
        gg (List.length y3_2_8 + List.length ([(Ty.h r26)] : List Ty) ≤ 33554432) <|
          mark (l8_spec_l3Copy nf (kf + 1) m8 t (w64 (x4_8 + (1 : Int))) (y3_2_8 ++ ([(Ty.h r26)] : List Ty)))) (
    some (Ty.mk t.kind t.labels y3_2_8))) := by kernel_rfl
theorem m_spec_l3Copy_eq (nf kf : Nat) (t : Ty) : m_spec_l3Copy nf (kf + 1) t = (
  gg (List.length t.labels ≤ 33554432) <|
    mark (l8_spec_l3Copy nf (kf + 1) nf t (0 : Int) ([] : List Ty))) := by kernel_rfl
noncomputable def e_spec_l3Copy (nf : Nat) : XE := eF 131 [.v (kR 0)] [.o (kR 0)] (fun t => m_spec_l3Copy nf nf t.1)
theorem gok_spec_l3Copy (nf : Nat) : ∀ kf : Nat, XT.ok Tryz.prog (G_spec_l3Copy nf kf ++ B_spec_l3Copy nf)
  | 0 => by exact trivial
  | kf + 1 => by
    have ih := gok_spec_l3Copy nf kf
    refine ⟨?_, (by exact trivial)⟩
    · refine eF_ok fun t x h => ?_
      obtain ⟨t, _⟩ := t
      exact runF_ok (N := 31) ih Tryz.func131 (by kernel_rfl) rfl h
theorem o_spec_l3Copy (nf : Nat) : conOK Tryz.prog 131 (e_spec_l3Copy nf).con := by
  have ih := gok_spec_l3Copy nf nf
  refine eF_ok fun t x h => ?_
  obtain ⟨t, _⟩ := t
  exact runF_ok (N := 31) ih Tryz.func131 (by kernel_rfl) rfl h
def ir_spec_l1In : C := .sq (.rg [.mv 6 (.b false)]) (.sq (.rg [.mv 7 (.t 0), .mv 8 (.t 1), .bi 9 .geq (.t 7) (.t 8), .mv 10 (.t 9), .g 10 true (.mv 11 (.t 0)), .g 10 true (.mv 12 (.t 2)), .g 10 true (.bi 13 .leq (.t 11) (.t 12)), .pk 14 (.t 10) (.t 13) (.b false), .mv 6 (.t 14)]) .rt)
noncomputable abbrev T_spec_l1In (nf : Nat) : XT := []
noncomputable def m_spec_l1In (nf : Nat) (x : Int) (lo : Int) (hi : Int) : Option (Bool) := runF (T_spec_l1In nf) nf [.v kI, .v kI, .v kI] [.t 6 (.v .bool)] ir_spec_l1In (x, lo, hi, ())
theorem m_spec_l1In_eq (nf : Nat) (x : Int) (lo : Int) (hi : Int) : m_spec_l1In nf x lo hi = (
  br ((decide (lo ≤ x)) == true) (
    some (decide (x ≤ hi))) (
    some false)) := by kernel_rfl
noncomputable def e_spec_l1In (nf : Nat) : XE := eF 92 [.v kI, .v kI, .v kI] [.v .bool] (fun t => m_spec_l1In nf t.1 t.2.1 t.2.2.1)
theorem o_spec_l1In (nf : Nat) : conOK Tryz.prog 92 (e_spec_l1In nf).con := by
  have ih : XT.ok Tryz.prog (T_spec_l1In nf) := by exact trivial
  refine eF_ok fun t x h => ?_
  obtain ⟨x, lo, hi, _⟩ := t
  exact runF_ok (N := 15) ih Tryz.func92 (by kernel_rfl) rfl h
def ir_spec_l1Max : C := .sq (.rg [.mv 4 (.i 0)]) (.sq (.sq (.rg [.mv 5 (.t 0), .mv 6 (.t 1), .bi 7 .gtr (.t 5) (.t 6)]) (.cd (.t 7) (.sq (.rg [.mv 8 (.t 0), .mv 4 (.t 8)]) .rt) .skip)) (.sq (.rg [.mv 9 (.t 1), .mv 4 (.t 9)]) .rt))
noncomputable abbrev T_spec_l1Max (nf : Nat) : XT := []
noncomputable def m_spec_l1Max (nf : Nat) (a : Int) (b : Int) : Option (Int) := runF (T_spec_l1Max nf) nf [.v kI, .v kI] [.t 4 (.v kI)] ir_spec_l1Max (a, b, ())
theorem m_spec_l1Max_eq (nf : Nat) (a : Int) (b : Int) : m_spec_l1Max nf a b = (
  br (decide (b < a)) (
    some a) (
    some b)) := by kernel_rfl
noncomputable def e_spec_l1Max (nf : Nat) : XE := eF 94 [.v kI, .v kI] [.v kI] (fun t => m_spec_l1Max nf t.1 t.2.1)
theorem o_spec_l1Max (nf : Nat) : conOK Tryz.prog 94 (e_spec_l1Max nf).con := by
  have ih : XT.ok Tryz.prog (T_spec_l1Max nf) := by exact trivial
  refine eF_ok fun t x h => ?_
  obtain ⟨a, b, _⟩ := t
  exact runF_ok (N := 10) ih Tryz.func94 (by kernel_rfl) rfl h
def c23_spec_AreAscending : C := .sq (.rg [.mv 2 (.b true)]) .rt
def c7_spec_AreAscending : C := .sq (.sq (.rg [.mv 4 (.t 3), .mv 5 (.t 0), .ln 6 false (.t 5), .bi 7 .lss (.t 4) (.t 6)]) (.cd (.t 7) .skip (.ex 0))) (.sq (.bk 1 (.sq (.dr [] [.mv 10 (.t 0), .mv 11 (.t 3), .bi 12 .sub (.t 11) (.i 1), .ia 13 (.t 10) (.t 12) kS, .ld 14 (.t 13) kS, .mv 15 (.t 0), .mv 16 (.t 3), .ia 17 (.t 15) (.t 16) kS, .ld 18 (.t 17) kS] [.bi 19 .geq (.t 14) (.t 18)]) (.cd (.t 19) (.sq (.rg [.mv 2 (.b false)]) .rt) .skip))) (.rg [.mv 8 (.t 3), .bi 9 .add (.t 8) (.i 1), .mv 3 (.t 9)]))
def ir_spec_AreAscending : C := .sq (.rg [.mv 2 (.b false)]) (.sq (.sq (.rg [.mv 3 (.i 1)]) (.bk 0 (.lk [0, 3] [] c7_spec_AreAscending))) c23_spec_AreAscending)
noncomputable abbrev T_spec_AreAscending (nf : Nat) : XT := []
noncomputable def m_spec_AreAscending (nf : Nat) (list : List Str) : Option (Bool) := runF (T_spec_AreAscending nf) nf [.v (kL kS)] [.t 2 (.v .bool)] ir_spec_AreAscending (list, ())
noncomputable def X_spec_AreAscending {R : Type} (nf : Nat) : C → Env → (Xt → Env → Option R) → Option R := xc (R := R) (T_spec_AreAscending nf).S nf
noncomputable def l6_spec_AreAscending (nf : Nat) (m6 : Nat) (list : List Str) (x3_6 : Int) : Option (Bool) := xit [0, 3] [] (X_spec_AreAscending nf c7_spec_AreAscending) (qB 0 (qS (X_spec_AreAscending nf c23_spec_AreAscending) (KF [.t 2 (.v .bool)]))) m6 ⟨[(0, .v (kL kS) list), (3, .v kI x3_6)], []⟩
theorem l6_spec_AreAscending_eq (nf : Nat) (m6 : Nat) (list : List Str) (x3_6 : Int) : l6_spec_AreAscending nf (m6 + 1) list x3_6 = (
  br (decide (x3_6 < (List.length list : Int))) (
    gg (0 ≤ (w64 (x3_6 - (1 : Int))) ∧ (w64 (x3_6 - (1 : Int))) < (List.length list : Int)) <|
      gg (0 ≤ x3_6 ∧ x3_6 < (List.length list : Int)) <|
        br (!(Op.bytesLess (gt list (w64 (x3_6 - (1 : Int))) ([] : Str)) (gt list x3_6 ([] : Str)))) (
          some false) (
          mark (l6_spec_AreAscending nf m6 list (w64 (x3_6 + (1 : Int)))))) (
    some true)) := by kernel_rfl
theorem m_spec_AreAscending_eq (nf : Nat) (list : List Str) : m_spec_AreAscending nf list = (
  mark (l6_spec_AreAscending nf nf list (1 : Int))) := by kernel_rfl
noncomputable def e_spec_AreAscending (nf : Nat) : XE := eF 73 [.v (kL kS)] [.v .bool] (fun t => m_spec_AreAscending nf t.1)
theorem o_spec_AreAscending (nf : Nat) : conOK Tryz.prog 73 (e_spec_AreAscending nf).con := by
  have ih : XT.ok Tryz.prog (T_spec_AreAscending nf) := by exact trivial
  refine eF_ok fun t x h => ?_
  obtain ⟨list, _⟩ := t
  exact runF_ok (N := 20) ih Tryz.func73 (by kernel_rfl) rfl h
def c25_spec_IsName : C := .sq (.rg [.mv 39 (.t 0), .ln 40 true (.t 39), .cv (some 41) 92 [((.t 40), .v kI), ((.i 1), .v kI), ((.i 4), .v kI)], .mv 42 (.t 41), .g 42 true (.mv 43 (.t 0)), .g 42 true (.bi 44 .neq (.t 43) (.s [105, 102])), .pk 45 (.t 42) (.t 44) (.b false), .mv 46 (.t 45), .g 46 true (.mv 47 (.t 0)), .g 46 true (.bi 48 .neq (.t 47) (.s [102, 111, 114])), .pk 49 (.t 46) (.t 48) (.b false), .mv 2 (.t 49)]) .rt
def w25_spec_IsName : C := .kp [0] [] c25_spec_IsName
def c24_spec_IsName : C := .rg [.mv 9 (.t 3), .bi 10 .add (.t 9) (.i 1), .mv 3 (.t 10)]
def c19_spec_IsName : C := .cd (.t 38) (.sq (.rg [.mv 2 (.b false)]) .rt) .skip
def w19_spec_IsName : C := .kp [0, 3, 38] [] c19_spec_IsName
def c17_spec_IsName : C := .sq (.rg [.mv 21 (.t 4), .un 22 .not (.t 21), .mv 23 (.t 22), .g 23 true (.mv 24 (.t 3)), .g 23 true (.bi 25 .eql (.t 24) (.i 0)), .g 23 true (.mv 26 (.t 25)), .g 26 false (.mv 27 (.t 0)), .g 26 false (.mv 28 (.t 3)), .g 26 false (.ix 29 (.t 27) (.t 28)), .g 26 false (.bi 30 .lss (.t 29) (.k .u8 48)), .g 23 true (.pk 31 (.t 26) (.b true) (.t 30)), .g 23 true (.mv 32 (.t 31)), .g 32 false (.mv 33 (.t 0)), .g 32 false (.mv 34 (.t 3)), .g 32 false (.ix 35 (.t 33) (.t 34)), .g 32 false (.bi 36 .gtr (.t 35) (.k .u8 57)), .g 23 true (.pk 37 (.t 32) (.b true) (.t 36)), .pk 38 (.t 23) (.t 37) (.b false)]) w19_spec_IsName
def w17_spec_IsName : C := .kp [0, 3, 4] [] c17_spec_IsName
def c7_spec_IsName : C := .sq (.sq (.rg [.mv 5 (.t 3), .mv 6 (.t 0), .ln 7 true (.t 6), .bi 8 .lss (.t 5) (.t 7)]) (.cd (.t 8) .skip (.ex 0))) (.sq (.bk 1 (.sq (.rg [.mv 11 (.t 0), .mv 12 (.t 3), .ix 13 (.t 11) (.t 12), .bi 14 .geq (.t 13) (.k .u8 97), .mv 15 (.t 14), .g 15 true (.mv 16 (.t 0)), .g 15 true (.mv 17 (.t 3)), .g 15 true (.ix 18 (.t 16) (.t 17)), .g 15 true (.bi 19 .leq (.t 18) (.k .u8 122)), .pk 20 (.t 15) (.t 19) (.b false), .mv 4 (.t 20)]) w17_spec_IsName)) c24_spec_IsName)
def ir_spec_IsName : C := .sq (.rg [.mv 2 (.b false)]) (.sq (.sq (.rg [.mv 3 (.i 0)]) (.bk 0 (.lk [0, 3] [] c7_spec_IsName))) w25_spec_IsName)
noncomputable abbrev T_spec_IsName (nf : Nat) : XT := [e_spec_l1In nf]
noncomputable def m_spec_IsName (nf : Nat) (s : Str) : Option (Bool) := runF (T_spec_IsName nf) nf [.v kS] [.t 2 (.v .bool)] ir_spec_IsName (s, ())
noncomputable def X_spec_IsName {R : Type} (nf : Nat) : C → Env → (Xt → Env → Option R) → Option R := xc (R := R) (T_spec_IsName nf).S nf
noncomputable def j19_spec_IsName (nf : Nat) (m6 : Nat) (s : Str) (x3_6 : Int) (x38_19 : Bool) : Option (Bool) := X_spec_IsName nf c19_spec_IsName ⟨[(0, .v kS s), (3, .v kI x3_6), (38, .v .bool x38_19)], []⟩ (qB 1 (qS (X_spec_IsName nf c24_spec_IsName) (qM [0, 3] [] (X_spec_IsName nf c7_spec_IsName) m6 (qB 0 (qS (X_spec_IsName nf w25_spec_IsName) (KF [.t 2 (.v .bool)]))))))
noncomputable def j17_spec_IsName (nf : Nat) (m6 : Nat) (s : Str) (x3_6 : Int) (x4_17 : Bool) : Option (Bool) := X_spec_IsName nf c17_spec_IsName ⟨[(0, .v kS s), (3, .v kI x3_6), (4, .v .bool x4_17)], []⟩ (qB 1 (qS (X_spec_IsName nf c24_spec_IsName) (qM [0, 3] [] (X_spec_IsName nf c7_spec_IsName) m6 (qB 0 (qS (X_spec_IsName nf w25_spec_IsName) (KF [.t 2 (.v .bool)]))))))
noncomputable def l6_spec_IsName (nf : Nat) (m6 : Nat) (s : Str) (x3_6 : Int) : Option (Bool) := xit [0, 3] [] (X_spec_IsName nf c7_spec_IsName) (qB 0 (qS (X_spec_IsName nf w25_spec_IsName) (KF [.t 2 (.v .bool)]))) m6 ⟨[(0, .v kS s), (3, .v kI x3_6)], []⟩
noncomputable def j25_spec_IsName (nf : Nat) (s : Str) : Option (Bool) := X_spec_IsName nf c25_spec_IsName ⟨[(0, .v kS s)], []⟩ (KF [.t 2 (.v .bool)])
theorem j19_spec_IsName_eq (nf : Nat) (m6 : Nat) (s : Str) (x3_6 : Int) (x38_19 : Bool) : j19_spec_IsName nf m6 s x3_6 x38_19 = (
  br x38_19 (
    some false) (
    mark (l6_spec_IsName nf m6 s (w64 (x3_6 + (1 : Int)))))) := by
  unfold j19_spec_IsName l6_spec_IsName c19_spec_IsName w25_spec_IsName c24_spec_IsName
  generalize c25_spec_IsName = x0
  revert x0
  refine id ?_
  intro x0
  kernel_rfl
theorem j17_spec_IsName_eq (nf : Nat) (m6 : Nat) (s : Str) (x3_6 : Int) (x4_17 : Bool) : j17_spec_IsName nf m6 s x3_6 x4_17 = (
  br ((!x4_17) == true) (
    br ((x3_6 == (0 : Int)) == false) (
      gg (0 ≤ x3_6 ∧ x3_6 < (List.length s : Int)) <|
        br ((decide (((List.getD s (Int.toNat x3_6) 0).toNat : Int) < (48 : Int))) == false) (
          gg (0 ≤ x3_6 ∧ x3_6 < (List.length s : Int)) <|
            mark (j19_spec_IsName nf m6 s x3_6 (decide ((57 : Int) < ((List.getD s (Int.toNat x3_6) 0).toNat : Int))))) (
          mark (j19_spec_IsName nf m6 s x3_6 true))) (
      mark (j19_spec_IsName nf m6 s x3_6 true))) (
    mark (j19_spec_IsName nf m6 s x3_6 false))) := by
  unfold j17_spec_IsName j19_spec_IsName c17_spec_IsName w25_spec_IsName c24_spec_IsName w19_spec_IsName
  generalize c25_spec_IsName = x0
  generalize c19_spec_IsName = x1
  revert x0 x1
  refine id ?_
  intro x0 x1
  kernel_rfl
theorem l6_spec_IsName_eq (nf : Nat) (m6 : Nat) (s : Str) (x3_6 : Int) : l6_spec_IsName nf (m6 + 1) s x3_6 = (
  br (decide (x3_6 < (List.length s : Int))) (
    gg (0 ≤ x3_6 ∧ x3_6 < (List.length s : Int)) <|
      br ((decide ((97 : Int) ≤ ((List.getD s (Int.toNat x3_6) 0).toNat : Int))) == true) (
        gg (0 ≤ x3_6 ∧ x3_6 < (List.length s : Int)) <|
          mark (j17_spec_IsName nf m6 s x3_6 (decide (((List.getD s (Int.toNat x3_6) 0).toNat : Int) ≤ (122 : Int))))) (
        mark (j17_spec_IsName nf m6 s x3_6 false))) (
    mark (j25_spec_IsName nf s))) := by
  unfold l6_spec_IsName j17_spec_IsName j25_spec_IsName c7_spec_IsName w25_spec_IsName w17_spec_IsName c24_spec_IsName
  generalize c25_spec_IsName = x0
  generalize c17_spec_IsName = x1
  revert x0 x1
  refine id ?_
  intro x0 x1
  kernel_rfl
theorem j25_spec_IsName_eq (nf : Nat) (s : Str) : j25_spec_IsName nf s = (
  cb (m_spec_l1In nf (List.length s : Int) (1 : Int) (4 : Int)) fun r41 =>
    br (r41 == true) (
      br ((!(s == ([105, 102] : Str))) == true) (
        some (!(s == ([102, 111, 114] : Str)))) (
        some false)) (
      some false)) := by kernel_rfl
theorem m_spec_IsName_eq (nf : Nat) (s : Str) : m_spec_IsName nf s = (
  mark (l6_spec_IsName nf nf s (0 : Int))) := by
  unfold m_spec_IsName l6_spec_IsName ir_spec_IsName w25_spec_IsName
  generalize c25_spec_IsName = x0
  revert x0
  refine id ?_
  intro x0
  kernel_rfl
noncomputable def e_spec_IsName (nf : Nat) : XE := eF 71 [.v kS] [.v .bool] (fun t => m_spec_IsName nf t.1)
theorem o_spec_IsName (nf : Nat) : conOK Tryz.prog 71 (e_spec_IsName nf).con := by
  have ih : XT.ok Tryz.prog (T_spec_IsName nf) := by exact ⟨o_spec_l1In nf, trivial⟩
  refine eF_ok fun t x h => ?_
  obtain ⟨s, _⟩ := t
  exact runF_ok (N := 50) ih Tryz.func71 (by kernel_rfl) rfl h
def c23_spec_IndexOf : C := .sq (.rg [.mv 4 (.i (-1))]) .rt
def c7_spec_IndexOf : C := .sq (.sq (.rg [.mv 6 (.t 5), .mv 7 (.t 0), .ln 8 false (.t 7), .bi 9 .lss (.t 6) (.t 8)]) (.cd (.t 9) .skip (.ex 0))) (.sq (.bk 1 (.sq (.rg [.mv 12 (.t 0), .mv 13 (.t 5), .ia 14 (.t 12) (.t 13) kS, .ld 15 (.t 14) kS, .mv 16 (.t 1), .bi 17 .eql (.t 15) (.t 16)]) (.cd (.t 17) (.sq (.rg [.mv 18 (.t 5), .mv 4 (.t 18)]) .rt) .skip))) (.rg [.mv 10 (.t 5), .bi 11 .add (.t 10) (.i 1), .mv 5 (.t 11)]))
def ir_spec_IndexOf : C := .sq (.rg [.mv 4 (.i 0)]) (.sq (.sq (.rg [.mv 5 (.i 0)]) (.bk 0 (.lk [0, 1, 5] [] c7_spec_IndexOf))) c23_spec_IndexOf)
noncomputable abbrev T_spec_IndexOf (nf : Nat) : XT := []
noncomputable def m_spec_IndexOf (nf : Nat) (list : List Str) (s : Str) : Option (Int) := runF (T_spec_IndexOf nf) nf [.v (kL kS), .v kS] [.t 4 (.v kI)] ir_spec_IndexOf (list, s, ())
noncomputable def X_spec_IndexOf {R : Type} (nf : Nat) : C → Env → (Xt → Env → Option R) → Option R := xc (R := R) (T_spec_IndexOf nf).S nf
noncomputable def l6_spec_IndexOf (nf : Nat) (m6 : Nat) (list : List Str) (s : Str) (x5_6 : Int) : Option (Int) := xit [0, 1, 5] [] (X_spec_IndexOf nf c7_spec_IndexOf) (qB 0 (qS (X_spec_IndexOf nf c23_spec_IndexOf) (KF [.t 4 (.v kI)]))) m6 ⟨[(0, .v (kL kS) list), (1, .v kS s), (5, .v kI x5_6)], []⟩
theorem l6_spec_IndexOf_eq (nf : Nat) (m6 : Nat) (list : List Str) (s : Str) (x5_6 : Int) : l6_spec_IndexOf nf (m6 + 1) list s x5_6 = (
  br (decide (x5_6 < (List.length list : Int))) (
    gg (0 ≤ x5_6 ∧ x5_6 < (List.length list : Int)) <|
      br ((gt list x5_6 ([] : Str)) == s) (
        some x5_6) (
        mark (l6_spec_IndexOf nf m6 list s (w64 (x5_6 + (1 : Int)))))) (
    some (-1 : Int))) := by kernel_rfl
theorem m_spec_IndexOf_eq (nf : Nat) (list : List Str) (s : Str) : m_spec_IndexOf nf list s = (
  mark (l6_spec_IndexOf nf nf list s (0 : Int))) := by kernel_rfl
noncomputable def e_spec_IndexOf (nf : Nat) : XE := eF 144 [.v (kL kS), .v kS] [.v kI] (fun t => m_spec_IndexOf nf t.1 t.2.1)
theorem o_spec_IndexOf (nf : Nat) : conOK Tryz.prog 144 (e_spec_IndexOf nf).con := by
  have ih : XT.ok Tryz.prog (T_spec_IndexOf nf) := by exact trivial
  refine eF_ok fun t x h => ?_
  obtain ⟨list, s, _⟩ := t
  exact runF_ok (N := 19) ih Tryz.func144 (by kernel_rfl) rfl h
def c23_spec_l3Labels : C := .sq (.rg [.mv 16 (.t 0), .ln 17 false (.t 16), .cv (some 18) 92 [((.t 17), .v kI), ((.i 1), .v kI), ((.i 4), .v kI)], .mv 19 (.t 18), .g 19 true (.mv 20 (.t 0)), .g 19 true (.cv (some 21) 73 [((.t 20), .v (kL kS))]), .pk 22 (.t 19) (.t 21) (.b false), .mv 2 (.t 22)]) .rt
def w23_spec_l3Labels : C := .kp [0] [] c23_spec_l3Labels
def c7_spec_l3Labels : C := .sq (.sq (.rg [.mv 4 (.t 3), .mv 5 (.t 0), .ln 6 false (.t 5), .bi 7 .lss (.t 4) (.t 6)]) (.cd (.t 7) .skip (.ex 0))) (.sq (.bk 1 (.sq (.rg [.mv 10 (.t 0), .mv 11 (.t 3), .ia 12 (.t 10) (.t 11) kS, .ld 13 (.t 12) kS, .cv (some 14) 71 [((.t 13), .v kS)], .un 15 .not (.t 14)]) (.cd (.t 15) (.sq (.rg [.mv 2 (.b false)]) .rt) .skip))) (.rg [.mv 8 (.t 3), .bi 9 .add (.t 8) (.i 1), .mv 3 (.t 9)]))
def ir_spec_l3Labels : C := .sq (.rg [.mv 2 (.b false)]) (.sq (.sq (.rg [.mv 3 (.i 0)]) (.bk 0 (.lk [0, 3] [] c7_spec_l3Labels))) w23_spec_l3Labels)
noncomputable abbrev T_spec_l3Labels (nf : Nat) : XT := [e_spec_IsName nf, e_spec_l1In nf, e_spec_AreAscending nf]
noncomputable def m_spec_l3Labels (nf : Nat) (list : List Str) : Option (Bool) := runF (T_spec_l3Labels nf) nf [.v (kL kS)] [.t 2 (.v .bool)] ir_spec_l3Labels (list, ())
noncomputable def X_spec_l3Labels {R : Type} (nf : Nat) : C → Env → (Xt → Env → Option R) → Option R := xc (R := R) (T_spec_l3Labels nf).S nf
noncomputable def l6_spec_l3Labels (nf : Nat) (m6 : Nat) (list : List Str) (x3_6 : Int) : Option (Bool) := xit [0, 3] [] (X_spec_l3Labels nf c7_spec_l3Labels) (qB 0 (qS (X_spec_l3Labels nf w23_spec_l3Labels) (KF [.t 2 (.v .bool)]))) m6 ⟨[(0, .v (kL kS) list), (3, .v kI x3_6)], []⟩
noncomputable def j23_spec_l3Labels (nf : Nat) (list : List Str) : Option (Bool) := X_spec_l3Labels nf c23_spec_l3Labels ⟨[(0, .v (kL kS) list)], []⟩ (KF [.t 2 (.v .bool)])
theorem l6_spec_l3Labels_eq (nf : Nat) (m6 : Nat) (list : List Str) (x3_6 : Int) : l6_spec_l3Labels nf (m6 + 1) list x3_6 = (
  br (decide (x3_6 < (List.length list : Int))) (
    gg (0 ≤ x3_6 ∧ x3_6 < (List.length list : Int)) <|
      cb (m_spec_IsName nf (gt list x3_6 ([] : Str))) fun r14 =>
        br (!r14) (
          some false) (
          mark (l6_spec_l3Labels nf m6 list (w64 (x3_6 + (1 : Int)))))) (
    mark (j23_spec_l3Labels nf list))) := by
  unfold l6_spec_l3Labels j23_spec_l3Labels c7_spec_l3Labels w23_spec_l3Labels
  generalize c23_spec_l3Labels = x0
  revert x0
  refine id ?_
  intro x0
  kernel_rfl
theorem j23_spec_l3Labels_eq (nf : Nat) (list : List Str) : j23_spec_l3Labels nf list = (
  cb (m_spec_l1In nf (List.length list : Int) (1 : Int) (4 : Int)) fun r18 =>
    br (r18 == true) (
      cb (m_spec_AreAscending nf list) fun r21 =>
        some r21) (
      some false)) := by kernel_rfl
theorem m_spec_l3Labels_eq (nf : Nat) (list : List Str) : m_spec_l3Labels nf list = (
  mark (l6_spec_l3Labels nf nf list (0 : Int))) := by
  unfold m_spec_l3Labels l6_spec_l3Labels ir_spec_l3Labels w23_spec_l3Labels
  generalize c23_spec_l3Labels = x0
  revert x0
  refine id ?_
  intro x0
  kernel_rfl
noncomputable def e_spec_l3Labels (nf : Nat) : XE := eF 116 [.v (kL kS)] [.v .bool] (fun t => m_spec_l3Labels nf t.1)
theorem o_spec_l3Labels (nf : Nat) : conOK Tryz.prog 116 (e_spec_l3Labels nf).con := by
  have ih : XT.ok Tryz.prog (T_spec_l3Labels nf) := by exact ⟨o_spec_IsName nf, o_spec_l1In nf, o_spec_AreAscending nf, trivial⟩
  refine eF_ok fun t x h => ?_
  obtain ⟨list, _⟩ := t
  exact runF_ok (N := 23) ih Tryz.func116 (by kernel_rfl) rfl h
def c23_spec_l3Has : C := .sq (.rg [.fa 20 (.t 2) 0 0 0, .ld 21 (.t 20) kI, .mv 22 (.t 1), .bi 23 .eql (.t 21) (.t 22), .mv 4 (.t 23)]) .rt
def c7_spec_l3Has : C := .sq (.sq (.rg [.mv 6 (.t 5), .fa 7 (.t 2) 0 2 2, .ld 8 (.t 7) (kL (kR 0)), .ln 9 false (.t 8), .bi 10 .lss (.t 6) (.t 9)]) (.cd (.t 10) .skip (.ex 0))) (.sq (.bk 1 (.sq (.rg [.fa 13 (.t 2) 0 2 2, .ld 14 (.t 13) (kL (kR 0)), .mv 15 (.t 5), .ia 16 (.t 14) (.t 15) (kR 0), .ld 17 (.t 16) (kR 0), .mv 18 (.t 1), .cv (some 19) 65 [((.t 17), .v (kR 0)), ((.t 18), .v kI)]]) (.cd (.t 19) (.sq (.rg [.mv 4 (.b true)]) .rt) .skip))) (.rg [.mv 11 (.t 5), .bi 12 .add (.t 11) (.i 1), .mv 5 (.t 12)]))
def ir_spec_l3Has : C := .sq (.rg [.bx 2 (.t 0) (kR 0), .mv 4 (.b false)]) (.sq (.sq (.rg [.mv 5 (.i 0)]) (.bk 0 (.lk [1, 2, 5] [[2]] c7_spec_l3Has))) c23_spec_l3Has)
noncomputable def B_spec_l3Has (nf : Nat) : XT := []
noncomputable def G_spec_l3Has (nf : Nat) : Nat → XT
  | 0 => []
  | kf + 1 => [eF 65 [.v (kR 0), .v kI] [.v .bool] (fun t => (fun (t : Ty) (kind : Int) => runF (G_spec_l3Has nf kf ++ B_spec_l3Has nf) nf [.v (kR 0), .v kI] [.t 4 (.v .bool)] ir_spec_l3Has (t, kind, ())) t.1 t.2.1)]
noncomputable abbrev T_spec_l3Has (nf kf : Nat) : XT := G_spec_l3Has nf kf ++ B_spec_l3Has nf
noncomputable def m_spec_l3Has (nf kf : Nat) (t : Ty) (kind : Int) : Option (Bool) := runF (T_spec_l3Has nf kf) nf [.v (kR 0), .v kI] [.t 4 (.v .bool)] ir_spec_l3Has (t, kind, ())
noncomputable def X_spec_l3Has {R : Type} (nf kf : Nat) : C → Env → (Xt → Env → Option R) → Option R := xc (R := R) (T_spec_l3Has nf kf).S nf
noncomputable def l6_spec_l3Has (nf kf : Nat) (m6 : Nat) (kind : Int) (t : Ty) (x5_6 : Int) : Option (Bool) := xit [1, 2, 5] [[2]] (X_spec_l3Has nf kf c7_spec_l3Has) (qB 0 (qS (X_spec_l3Has nf kf c23_spec_l3Has) (KF [.t 4 (.v .bool)]))) m6 ⟨[(1, .v kI kind), (2, .pt [2] 0), (5, .v kI x5_6)], [([2], .box [.v kI t.kind, .v (kL kS) t.labels, .v (kL (kR 0)) t.args])]⟩
theorem l6_spec_l3Has_eq (nf kf : Nat) (m6 : Nat) (kind : Int) (t : Ty) (x5_6 : Int) : l6_spec_l3Has nf (kf + 1) (m6 + 1) kind t x5_6 = (
  br (decide (x5_6 < (List.length t.args : Int))) (
    gg (0 ≤ x5_6 ∧ x5_6 < (List.length t.args : Int)) <|
      cb (m_spec_l3Has nf kf (gt t.args x5_6 Ty.zero) kind) fun r19 =>
        br r19 (
          some true) (
          mark (l6_spec_l3Has nf (kf + 1) m6 kind t (w64 (x5_6 + (1 : Int)))))) (
    some (t.kind == kind))) := by kernel_rfl
theorem m_spec_l3Has_eq (nf kf : Nat) (t : Ty) (kind : Int) : m_spec_l3Has nf (kf + 1) t kind = (
  mark (l6_spec_l3Has nf (kf + 1) nf kind t (0 : Int))) := by kernel_rfl
noncomputable def e_spec_l3Has (nf : Nat) : XE := eF 65 [.v (kR 0), .v kI] [.v .bool] (fun t => m_spec_l3Has nf nf t.1 t.2.1)
theorem gok_spec_l3Has (nf : Nat) : ∀ kf : Nat, XT.ok Tryz.prog (G_spec_l3Has nf kf ++ B_spec_l3Has nf)
  | 0 => by exact trivial
  | kf + 1 => by
    have ih := gok_spec_l3Has nf kf
    refine ⟨?_, (by exact trivial)⟩
    · refine eF_ok fun t x h => ?_
      obtain ⟨t, kind, _⟩ := t
      exact runF_ok (N := 24) ih Tryz.func65 (by kernel_rfl) rfl h
theorem o_spec_l3Has (nf : Nat) : conOK Tryz.prog 65 (e_spec_l3Has nf).con := by
  have ih := gok_spec_l3Has nf nf
  refine eF_ok fun t x h => ?_
  obtain ⟨t, kind, _⟩ := t
  exact runF_ok (N := 24) ih Tryz.func65 (by kernel_rfl) rfl h
def c19_spec_l3Left : C := .sq (.rg [.mv 26 (.t 1), .mv 4 (.t 26)]) .rt
def c15_spec_l3Left : C := .sq (.bk 1 (.rg [.fa 19 (.t 2) 0 2 2, .ld 20 (.t 19) (kL (kR 0)), .mv 21 (.t 5), .ia 22 (.t 20) (.t 21) (kR 0), .ld 23 (.t 22) (kR 0), .mv 24 (.t 1), .cv (some 25) 87 [((.t 23), .v (kR 0)), ((.t 24), .v kI)], .mv 1 (.t 25)])) (.rg [.mv 17 (.t 5), .bi 18 .add (.t 17) (.i 1), .mv 5 (.t 18)])
def c12_spec_l3Left : C := .cd (.t 16) .skip (.ex 0)
def w12_spec_l3Left : C := .kp [1, 2, 5, 16] [[2]] c12_spec_l3Left
def c9_spec_l3Left : C := .sq (.sq (.rg [.mv 8 (.t 5), .fa 9 (.t 2) 0 2 2, .ld 10 (.t 9) (kL (kR 0)), .ln 11 false (.t 10), .bi 12 .lss (.t 8) (.t 11), .mv 13 (.t 12), .g 13 true (.mv 14 (.t 1)), .g 13 true (.bi 15 .geq (.t 14) (.i 0)), .pk 16 (.t 13) (.t 15) (.b false)]) w12_spec_l3Left) c15_spec_l3Left
def ir_spec_l3Left : C := .sq (.rg [.bx 2 (.t 0) (kR 0), .mv 4 (.i 0)]) (.sq (.rg [.mv 6 (.t 1), .bi 7 .sub (.t 6) (.i 1), .mv 1 (.t 7)]) (.sq (.sq (.rg [.mv 5 (.i 0)]) (.bk 0 (.lk [1, 2, 5] [[2]] c9_spec_l3Left))) c19_spec_l3Left))
noncomputable def B_spec_l3Left (nf : Nat) : XT := []
noncomputable def G_spec_l3Left (nf : Nat) : Nat → XT
  | 0 => []
  | kf + 1 => [eF 87 [.v (kR 0), .v kI] [.v kI] (fun t => (fun (t : Ty) (left : Int) => runF (G_spec_l3Left nf kf ++ B_spec_l3Left nf) nf [.v (kR 0), .v kI] [.t 4 (.v kI)] ir_spec_l3Left (t, left, ())) t.1 t.2.1)]
noncomputable abbrev T_spec_l3Left (nf kf : Nat) : XT := G_spec_l3Left nf kf ++ B_spec_l3Left nf
noncomputable def m_spec_l3Left (nf kf : Nat) (t : Ty) (left : Int) : Option (Int) := runF (T_spec_l3Left nf kf) nf [.v (kR 0), .v kI] [.t 4 (.v kI)] ir_spec_l3Left (t, left, ())
noncomputable def X_spec_l3Left {R : Type} (nf kf : Nat) : C → Env → (Xt → Env → Option R) → Option R := xc (R := R) (T_spec_l3Left nf kf).S nf
noncomputable def j12_spec_l3Left (nf kf : Nat) (m8 : Nat) (x1_8 : Int) (x5_8 : Int) (t : Ty) (x16_12 : Bool) : Option (Int) := X_spec_l3Left nf kf c12_spec_l3Left ⟨[(1, .v kI x1_8), (2, .pt [2] 0), (5, .v kI x5_8), (16, .v .bool x16_12)], [([2], .box [.v kI t.kind, .v (kL kS) t.labels, .v (kL (kR 0)) t.args])]⟩ (qS (X_spec_l3Left nf kf c15_spec_l3Left) (qM [1, 2, 5] [[2]] (X_spec_l3Left nf kf c9_spec_l3Left) m8 (qB 0 (qS (X_spec_l3Left nf kf c19_spec_l3Left) (KF [.t 4 (.v kI)])))))
noncomputable def l8_spec_l3Left (nf kf : Nat) (m8 : Nat) (t : Ty) (x1_8 : Int) (x5_8 : Int) : Option (Int) := xit [1, 2, 5] [[2]] (X_spec_l3Left nf kf c9_spec_l3Left) (qB 0 (qS (X_spec_l3Left nf kf c19_spec_l3Left) (KF [.t 4 (.v kI)]))) m8 ⟨[(1, .v kI x1_8), (2, .pt [2] 0), (5, .v kI x5_8)], [([2], .box [.v kI t.kind, .v (kL kS) t.labels, .v (kL (kR 0)) t.args])]⟩
theorem j12_spec_l3Left_eq (nf kf : Nat) (m8 : Nat) (x1_8 : Int) (x5_8 : Int) (t : Ty) (x16_12 : Bool) : j12_spec_l3Left nf (kf + 1) m8 x1_8 x5_8 t x16_12 = (
  br x16_12 (
    gg (0 ≤ x5_8 ∧ x5_8 < (List.length t.args : Int)) <|
      cb (m_spec_l3Left nf kf (gt t.args x5_8 Ty.zero) x1_8) fun r25 =>
        mark (l8_spec_l3Left nf (kf + 1) m8 t r25 (w64 (x5_8 + (1 : Int))))) (
    some x1_8)) := by kernel_rfl
theorem l8_spec_l3Left_eq (nf kf : Nat) (m8 : Nat) (t : Ty) (x1_8 : Int) (x5_8 : Int) : l8_spec_l3Left nf (kf + 1) (m8 + 1) t x1_8 x5_8 = (
  br ((decide (x5_8 < (List.length t.args : Int))) == true) (
    mark (j12_spec_l3Left nf (kf + 1) m8 x1_8 x5_8 t (decide ((0 : Int) ≤ x1_8)))) (
    mark (j12_spec_l3Left nf (kf + 1) m8 x1_8 x5_8 t false))) := by
  unfold l8_spec_l3Left j12_spec_l3Left c9_spec_l3Left c19_spec_l3Left w12_spec_l3Left c15_spec_l3Left
  generalize c12_spec_l3Left = x0
  revert x0
  refine id ?_
  intro x0
  kernel_rfl
theorem m_spec_l3Left_eq (nf kf : Nat) (t : Ty) (left : Int) : m_spec_l3Left nf (kf + 1) t left = (
  mark (l8_spec_l3Left nf (kf + 1) nf t (w64 (left - (1 : Int))) (0 : Int))) := by kernel_rfl
noncomputable def e_spec_l3Left (nf : Nat) : XE := eF 87 [.v (kR 0), .v kI] [.v kI] (fun t => m_spec_l3Left nf nf t.1 t.2.1)
theorem gok_spec_l3Left (nf : Nat) : ∀ kf : Nat, XT.ok Tryz.prog (G_spec_l3Left nf kf ++ B_spec_l3Left nf)
  | 0 => by exact trivial
  | kf + 1 => by
    have ih := gok_spec_l3Left nf kf
    refine ⟨?_, (by exact trivial)⟩
    · refine eF_ok fun t x h => ?_
      obtain ⟨t, left, _⟩ := t
      exact runF_ok (N := 27) ih Tryz.func87 (by kernel_rfl) rfl h
theorem o_spec_l3Left (nf : Nat) : conOK Tryz.prog 87 (e_spec_l3Left nf).con := by
  have ih := gok_spec_l3Left nf nf
  refine eF_ok fun t x h => ?_
  obtain ⟨t, left, _⟩ := t
  exact runF_ok (N := 27) ih Tryz.func87 (by kernel_rfl) rfl h
def c19_spec_DepthOfType : C := .sq (.rg [.mv 20 (.t 3), .bi 21 .add (.t 20) (.i 1), .mv 2 (.t 21)]) .rt
def c9_spec_DepthOfType : C := .sq (.sq (.rg [.mv 5 (.t 4), .fa 6 (.t 1) 0 2 2, .ld 7 (.t 6) (kL (kR 0)), .ln 8 false (.t 7), .bi 9 .lss (.t 5) (.t 8)]) (.cd (.t 9) .skip (.ex 0))) (.sq (.bk 1 (.rg [.mv 12 (.t 3), .fa 13 (.t 1) 0 2 2, .ld 14 (.t 13) (kL (kR 0)), .mv 15 (.t 4), .ia 16 (.t 14) (.t 15) (kR 0), .ld 17 (.t 16) (kR 0), .cv (some 18) 88 [((.t 17), .v (kR 0))], .cv (some 19) 94 [((.t 12), .v kI), ((.t 18), .v kI)], .mv 3 (.t 19)])) (.rg [.mv 10 (.t 4), .bi 11 .add (.t 10) (.i 1), .mv 4 (.t 11)]))
def ir_spec_DepthOfType : C := .sq (.rg [.bx 1 (.t 0) (kR 0), .mv 2 (.i 0)]) (.sq (.rg [.mv 3 (.i 0)]) (.sq (.sq (.rg [.mv 4 (.i 0)]) (.bk 0 (.lk [1, 3, 4] [[1]] c9_spec_DepthOfType))) c19_spec_DepthOfType))
noncomputable def B_spec_DepthOfType (nf : Nat) : XT := [e_spec_l1Max nf]
noncomputable def G_spec_DepthOfType (nf : Nat) : Nat → XT
  | 0 => []
  | kf + 1 => [eF 88 [.v (kR 0)] [.v kI] (fun t => (fun (t : Ty) => runF (G_spec_DepthOfType nf kf ++ B_spec_DepthOfType nf) nf [.v (kR 0)] [.t 2 (.v kI)] ir_spec_DepthOfType (t, ())) t.1)]
noncomputable abbrev T_spec_DepthOfType (nf kf : Nat) : XT := G_spec_DepthOfType nf kf ++ B_spec_DepthOfType nf
noncomputable def m_spec_DepthOfType (nf kf : Nat) (t : Ty) : Option (Int) := runF (T_spec_DepthOfType nf kf) nf [.v (kR 0)] [.t 2 (.v kI)] ir_spec_DepthOfType (t, ())
noncomputable def X_spec_DepthOfType {R : Type} (nf kf : Nat) : C → Env → (Xt → Env → Option R) → Option R := xc (R := R) (T_spec_DepthOfType nf kf).S nf
noncomputable def l8_spec_DepthOfType (nf kf : Nat) (m8 : Nat) (t : Ty) (x3_8 : Int) (x4_8 : Int) : Option (Int) := xit [1, 3, 4] [[1]] (X_spec_DepthOfType nf kf c9_spec_DepthOfType) (qB 0 (qS (X_spec_DepthOfType nf kf c19_spec_DepthOfType) (KF [.t 2 (.v kI)]))) m8 ⟨[(1, .pt [1] 0), (3, .v kI x3_8), (4, .v kI x4_8)], [([1], .box [.v kI t.kind, .v (kL kS) t.labels, .v (kL (kR 0)) t.args])]⟩
theorem l8_spec_DepthOfType_eq (nf kf : Nat) (m8 : Nat) (t : Ty) (x3_8 : Int) (x4_8 : Int) : l8_spec_DepthOfType nf (kf + 1) (m8 + 1) t x3_8 x4_8 = (
  br (decide (x4_8 < (List.length t.args : Int))) (
    gg (0 ≤ x4_8 ∧ x4_8 < (List.length t.args : Int)) <|
      cb (m_spec_DepthOfType nf kf (gt t.args x4_8 Ty.zero)) fun r18 =>
        cb (m_spec_l1Max nf x3_8 r18) fun r19 =>
          mark (l8_spec_DepthOfType nf (kf + 1) m8 t r19 (w64 (x4_8 + (1 : Int))))) (
    some (w64 (x3_8 + (1 : Int))))) := by kernel_rfl
theorem m_spec_DepthOfType_eq (nf kf : Nat) (t : Ty) : m_spec_DepthOfType nf (kf + 1) t = (
  mark (l8_spec_DepthOfType nf (kf + 1) nf t (0 : Int) (0 : Int))) := by kernel_rfl
noncomputable def e_spec_DepthOfType (nf : Nat) : XE := eF 88 [.v (kR 0)] [.v kI] (fun t => m_spec_DepthOfType nf nf t.1)
theorem gok_spec_DepthOfType (nf : Nat) : ∀ kf : Nat, XT.ok Tryz.prog (G_spec_DepthOfType nf kf ++ B_spec_DepthOfType nf)
  | 0 => by exact ⟨o_spec_l1Max nf, trivial⟩
  | kf + 1 => by
    have ih := gok_spec_DepthOfType nf kf
    refine ⟨?_, (by exact ⟨o_spec_l1Max nf, trivial⟩)⟩
    · refine eF_ok fun t x h => ?_
      obtain ⟨t, _⟩ := t
      exact runF_ok (N := 22) ih Tryz.func88 (by kernel_rfl) rfl h
theorem o_spec_DepthOfType (nf : Nat) : conOK Tryz.prog 88 (e_spec_DepthOfType nf).con := by
  have ih := gok_spec_DepthOfType nf nf
  refine eF_ok fun t x h => ?_
  obtain ⟨t, _⟩ := t
  exact runF_ok (N := 22) ih Tryz.func88 (by kernel_rfl) rfl h
def c62_spec_l3Form : C := .sq (.rg [.fa 64 (.t 1) 0 1 1, .ld 65 (.t 64) (kL kS), .ln 66 false (.t 65), .bi 67 .eql (.t 66) (.i 0), .mv 68 (.t 67), .g 68 true (.fa 69 (.t 1) 0 2 2), .g 68 true (.ld 70 (.t 69) (kL (kR 0))), .g 68 true (.ln 71 false (.t 70)), .g 68 true (.mv 72 (.t 4)), .g 68 true (.bi 73 .eql (.t 71) (.t 72)), .pk 74 (.t 68) (.t 73) (.b false), .mv 2 (.t 74)]) .rt
def w62_spec_l3Form : C := .kp [1, 4] [[1]] c62_spec_l3Form
def c51_spec_l3Form : C := .cd (.t 57) (.rg [.mv 4 (.i 0)]) (.sq (.rg [.bi 61 .eql (.t 56) (.i 4), .mv 60 (.t 61)]) (.cd (.t 60) (.rg [.mv 4 (.i 1)]) (.sq (.rg [.bi 63 .eql (.t 56) (.i 5), .mv 62 (.t 63)]) (.cd (.t 62) (.rg [.mv 4 (.i 2)]) .skip))))
def w51_spec_l3Form : C := .kp [1, 4, 56, 57] [[1]] c51_spec_l3Form
def c39_spec_l3Form : C := .sq (.rg [.mv 4 (.i (-1))]) (.sq (.sq (.rg [.fa 55 (.t 1) 0 0 0, .ld 56 (.t 55) kI]) (.bk 2 (.sq (.sq (.rg [.bi 58 .eql (.t 56) (.i 1), .mv 57 (.t 58)]) (.cd (.t 57) .skip (.rg [.bi 59 .eql (.t 56) (.i 2), .mv 57 (.t 59)]))) w51_spec_l3Form))) w62_spec_l3Form)
def c34_spec_l3Form : C := .cd (.t 54) (.sq (.rg [.mv 2 (.b false)]) .rt) .skip
def w34_spec_l3Form : C := .kp [1, 54] [[1]] c34_spec_l3Form
def c31_spec_l3Form : C := .sq (.sq (.rg [.fa 39 (.t 1) 0 0 0, .ld 40 (.t 39) kI, .bi 41 .eql (.t 40) (.i 4), .mv 42 (.t 41), .g 42 true (.fa 43 (.t 1) 0 2 2), .g 42 true (.ld 44 (.t 43) (kL (kR 0))), .g 42 true (.ln 45 false (.t 44)), .g 42 true (.bi 46 .eql (.t 45) (.i 1)), .pk 47 (.t 42) (.t 46) (.b false), .mv 48 (.t 47), .g 48 true (.fa 49 (.t 1) 0 2 2), .g 48 true (.ld 50 (.t 49) (kL (kR 0))), .g 48 true (.ia 51 (.t 50) (.i 0) (kR 0)), .g 48 true (.ld 52 (.t 51) (kR 0)), .g 48 true (.cv (some 53) 65 [((.t 52), .v (kR 0)), ((.i 5), .v kI)]), .pk 54 (.t 48) (.t 53) (.b false)]) w34_spec_l3Form) c39_spec_l3Form
def c29_spec_l3Form : C := .rt
def w29_spec_l3Form : C := .kp [2] [] c29_spec_l3Form
def c23_spec_l3Form : C := .sq (.sq (.rg [.fa 19 (.t 1) 0 0 0, .ld 20 (.t 19) kI, .bi 21 .eql (.t 20) (.i 3)]) (.cd (.t 21) (.sq (.rg [.fa 22 (.t 1) 0 2 2, .ld 23 (.t 22) (kL (kR 0)), .ln 24 false (.t 23), .fa 25 (.t 1) 0 1 1, .ld 26 (.t 25) (kL kS), .ln 27 false (.t 26), .bi 28 .eql (.t 24) (.t 27), .mv 29 (.t 28), .g 29 true (.fa 30 (.t 1) 0 1 1), .g 29 true (.ld 31 (.t 30) (kL kS)), .g 29 true (.cv (some 32) 116 [((.t 31), .v (kL kS))]), .pk 33 (.t 29) (.t 32) (.b false), .mv 34 (.t 33), .g 34 true (.ld 35 (.t 1) (kR 0)), .g 34 true (.cv (some 36) 65 [((.t 35), .v (kR 0)), ((.i 5), .v kI)]), .g 34 true (.un 37 .not (.t 36)), .pk 38 (.t 34) (.t 37) (.b false), .mv 2 (.t 38)]) w29_spec_l3Form) .skip)) c31_spec_l3Form
def w23_spec_l3Form : C := .kp [1] [[1]] c23_spec_l3Form
def c7_spec_l3Form : C := .sq (.sq (.rg [.mv 5 (.t 3), .fa 6 (.t 1) 0 2 2, .ld 7 (.t 6) (kL (kR 0)), .ln 8 false (.t 7), .bi 9 .lss (.t 5) (.t 8)]) (.cd (.t 9) .skip (.ex 0))) (.sq (.bk 1 (.sq (.rg [.fa 12 (.t 1) 0 2 2, .ld 13 (.t 12) (kL (kR 0)), .mv 14 (.t 3), .ia 15 (.t 13) (.t 14) (kR 0), .ld 16 (.t 15) (kR 0), .cv (some 17) 89 [((.t 16), .v (kR 0))], .un 18 .not (.t 17)]) (.cd (.t 18) (.sq (.rg [.mv 2 (.b false)]) .rt) .skip))) (.rg [.mv 10 (.t 3), .bi 11 .add (.t 10) (.i 1), .mv 3 (.t 11)]))
def ir_spec_l3Form : C := .sq (.rg [.bx 1 (.t 0) (kR 0), .mv 2 (.b false)]) (.sq (.sq (.rg [.mv 3 (.i 0)]) (.bk 0 (.lk [1, 3] [[1]] c7_spec_l3Form))) w23_spec_l3Form)
noncomputable def B_spec_l3Form (nf : Nat) : XT := [e_spec_l3Labels nf, e_spec_l3Has nf]
noncomputable def G_spec_l3Form (nf : Nat) : Nat → XT
  | 0 => []
  | kf + 1 => [eF 89 [.v (kR 0)] [.v .bool] (fun t => (fun (t : Ty) => runF (G_spec_l3Form nf kf ++ B_spec_l3Form nf) nf [.v (kR 0)] [.t 2 (.v .bool)] ir_spec_l3Form (t, ())) t.1)]
noncomputable abbrev T_spec_l3Form (nf kf : Nat) : XT := G_spec_l3Form nf kf ++ B_spec_l3Form nf
noncomputable def m_spec_l3Form (nf kf : Nat) (t : Ty) : Option (Bool) := runF (T_spec_l3Form nf kf) nf [.v (kR 0)] [.t 2 (.v .bool)] ir_spec_l3Form (t, ())
noncomputable def X_spec_l3Form {R : Type} (nf kf : Nat) : C → Env → (Xt → Env → Option R) → Option R := xc (R := R) (T_spec_l3Form nf kf).S nf
noncomputable def l6_spec_l3Form (nf kf : Nat) (m6 : Nat) (t : Ty) (x3_6 : Int) : Option (Bool) := xit [1, 3] [[1]] (X_spec_l3Form nf kf c7_spec_l3Form) (qB 0 (qS (X_spec_l3Form nf kf w23_spec_l3Form) (KF [.t 2 (.v .bool)]))) m6 ⟨[(1, .pt [1] 0), (3, .v kI x3_6)], [([1], .box [.v kI t.kind, .v (kL kS) t.labels, .v (kL (kR 0)) t.args])]⟩
noncomputable def j29_spec_l3Form (nf kf : Nat) (x2_29 : Bool) : Option (Bool) := X_spec_l3Form nf kf c29_spec_l3Form ⟨[(2, .v .bool x2_29)], []⟩ (qS (X_spec_l3Form nf kf c31_spec_l3Form) (KF [.t 2 (.v .bool)]))
noncomputable def j34_spec_l3Form (nf kf : Nat) (t : Ty) (x54_34 : Bool) : Option (Bool) := X_spec_l3Form nf kf c34_spec_l3Form ⟨[(1, .pt [1] 0), (54, .v .bool x54_34)], [([1], .box [.v kI t.kind, .v (kL kS) t.labels, .v (kL (kR 0)) t.args])]⟩ (qS (X_spec_l3Form nf kf c39_spec_l3Form) (KF [.t 2 (.v .bool)]))
noncomputable def j51_spec_l3Form (nf kf : Nat) (t : Ty) (x57_51 : Bool) : Option (Bool) := X_spec_l3Form nf kf c51_spec_l3Form ⟨[(1, .pt [1] 0), (4, .v kI (-1 : Int)), (56, .v kI t.kind), (57, .v .bool x57_51)], [([1], .box [.v kI t.kind, .v (kL kS) t.labels, .v (kL (kR 0)) t.args])]⟩ (qB 2 (qS (X_spec_l3Form nf kf w62_spec_l3Form) (KF [.t 2 (.v .bool)])))
noncomputable def j62_spec_l3Form (nf kf : Nat) (t : Ty) (x4_62 : Int) : Option (Bool) := X_spec_l3Form nf kf c62_spec_l3Form ⟨[(1, .pt [1] 0), (4, .v kI x4_62)], [([1], .box [.v kI t.kind, .v (kL kS) t.labels, .v (kL (kR 0)) t.args])]⟩ (KF [.t 2 (.v .bool)])
noncomputable def j23_spec_l3Form (nf kf : Nat) (t : Ty) : Option (Bool) := X_spec_l3Form nf kf c23_spec_l3Form ⟨[(1, .pt [1] 0)], [([1], .box [.v kI t.kind, .v (kL kS) t.labels, .v (kL (kR 0)) t.args])]⟩ (KF [.t 2 (.v .bool)])
theorem l6_spec_l3Form_eq (nf kf : Nat) (m6 : Nat) (t : Ty) (x3_6 : Int) : l6_spec_l3Form nf (kf + 1) (m6 + 1) t x3_6 = (
  br (decide (x3_6 < (List.length t.args : Int))) (
    gg (0 ≤ x3_6 ∧ x3_6 < (List.length t.args : Int)) <|
      cb (m_spec_l3Form nf kf (gt t.args x3_6 Ty.zero)) fun r17 =>
        br (!r17) (
          some false) (
          mark (l6_spec_l3Form nf (kf + 1) m6 t (w64 (x3_6 + (1 : Int)))))) (
    mark (j23_spec_l3Form nf (kf + 1) t))) := by
  unfold l6_spec_l3Form j23_spec_l3Form c7_spec_l3Form w23_spec_l3Form
  generalize c23_spec_l3Form = x0
  revert x0
  refine id ?_
  intro x0
  kernel_rfl
theorem j29_spec_l3Form_eq (nf kf : Nat) (x2_29 : Bool) : j29_spec_l3Form nf (kf + 1) x2_29 = (
  some x2_29) := by
  unfold j29_spec_l3Form c29_spec_l3Form c31_spec_l3Form w34_spec_l3Form c39_spec_l3Form w51_spec_l3Form w62_spec_l3Form
  generalize c34_spec_l3Form = x0
  generalize c51_spec_l3Form = x1
  generalize c62_spec_l3Form = x2
  revert x0 x1 x2
  refine id ?_
  intro x0 x1 x2
  kernel_rfl
theorem j34_spec_l3Form_eq (nf kf : Nat) (t : Ty) (x54_34 : Bool) : j34_spec_l3Form nf (kf + 1) t x54_34 = (
  br x54_34 (
    some false) (
    br (t.kind == (1 : Int)) (
      mark (j51_spec_l3Form nf (kf + 1) t (t.kind == (1 : Int)))) (
      mark (j51_spec_l3Form nf (kf + 1) t (t.kind == (2 : Int)))))) := by
  unfold j34_spec_l3Form j51_spec_l3Form c34_spec_l3Form c39_spec_l3Form w51_spec_l3Form w62_spec_l3Form
  generalize c51_spec_l3Form = x0
  generalize c62_spec_l3Form = x1
  revert x0 x1
  refine id ?_
  intro x0 x1
  kernel_rfl
theorem j51_spec_l3Form_eq (nf kf : Nat) (t : Ty) (x57_51 : Bool) : j51_spec_l3Form nf (kf + 1) t x57_51 = (
  br x57_51 (
    mark (j62_spec_l3Form nf (kf + 1) t (0 : Int))) (
    br (t.kind == (4 : Int)) (
      mark (j62_spec_l3Form nf (kf + 1) t (1 : Int))) (
      br (t.kind == (5 : Int)) (
        mark (j62_spec_l3Form nf (kf + 1) t (2 : Int))) (
        mark (j62_spec_l3Form nf (kf + 1) t (-1 : Int)))))) := by
  unfold j51_spec_l3Form j62_spec_l3Form c51_spec_l3Form w62_spec_l3Form
  generalize c62_spec_l3Form = x0
  revert x0
  refine id ?_
  intro x0
  kernel_rfl
theorem j62_spec_l3Form_eq (nf kf : Nat) (t : Ty) (x4_62 : Int) : j62_spec_l3Form nf (kf + 1) t x4_62 = (
  br (((List.length t.labels : Int) == (0 : Int)) == true) (
    some ((List.length t.args : Int) == x4_62)) (
    some false)) := by kernel_rfl
theorem j23_spec_l3Form_eq (nf kf : Nat) (t : Ty) : j23_spec_l3Form nf (kf + 1) t = (
  br (t.kind == (3 : Int)) (
    br (((List.length t.args : Int) == (List.length t.labels : Int)) == true) (
      cb (m_spec_l3Labels nf t.labels) fun r32 =>
        br (r32 == true) (
          cb (m_spec_l3Has nf nf (Ty.h t) (5 : Int)) fun r36 =>
            mark (j29_spec_l3Form nf (kf + 1) (!r36))) (
          mark (j29_spec_l3Form nf (kf + 1) false))) (
      mark (j29_spec_l3Form nf (kf + 1) false))) (
    br ((t.kind == (4 : Int)) == true) (
      br (((List.length t.args : Int) == (1 : Int)) == true) (
        gg (0 ≤ (0 : Int) ∧ (0 : Int) < (List.length t.args : Int)) <|
          cb (m_spec_l3Has nf nf (gt t.args (0 : Int) Ty.zero) (5 : Int)) fun r53 =>
            mark (j34_spec_l3Form nf (kf + 1) t r53)) (
        mark (j34_spec_l3Form nf (kf + 1) t false))) (
      mark (j34_spec_l3Form nf (kf + 1) t false)))) := by
  unfold j23_spec_l3Form j29_spec_l3Form j34_spec_l3Form c23_spec_l3Form w29_spec_l3Form c31_spec_l3Form w34_spec_l3Form c39_spec_l3Form w51_spec_l3Form w62_spec_l3Form
  generalize c29_spec_l3Form = x0
  generalize c34_spec_l3Form = x1
  generalize c51_spec_l3Form = x2
  generalize c62_spec_l3Form = x3
  revert x0 x1 x2 x3
  refine id ?_
  intro x0 x1 x2 x3
  kernel_rfl
theorem m_spec_l3Form_eq (nf kf : Nat) (t : Ty) : m_spec_l3Form nf (kf + 1) t = (
  mark (l6_spec_l3Form nf (kf + 1) nf t (0 : Int))) := by
  unfold m_spec_l3Form l6_spec_l3Form ir_spec_l3Form w23_spec_l3Form
  generalize c23_spec_l3Form = x0
  revert x0
  refine id ?_
  intro x0
  kernel_rfl
noncomputable def e_spec_l3Form (nf : Nat) : XE := eF 89 [.v (kR 0)] [.v .bool] (fun t => m_spec_l3Form nf nf t.1)
theorem gok_spec_l3Form (nf : Nat) : ∀ kf : Nat, XT.ok Tryz.prog (G_spec_l3Form nf kf ++ B_spec_l3Form nf)
  | 0 => by exact ⟨o_spec_l3Labels nf, o_spec_l3Has nf, trivial⟩
  | kf + 1 => by
    have ih := gok_spec_l3Form nf kf
    refine ⟨?_, (by exact ⟨o_spec_l3Labels nf, o_spec_l3Has nf, trivial⟩)⟩
    · refine eF_ok fun t x h => ?_
      obtain ⟨t, _⟩ := t
      exact runF_ok (N := 75) ih Tryz.func89 (by kernel_rfl) rfl h
theorem o_spec_l3Form (nf : Nat) : conOK Tryz.prog 89 (e_spec_l3Form nf).con := by
  have ih := gok_spec_l3Form nf nf
  refine eF_ok fun t x h => ?_
  obtain ⟨t, _⟩ := t
  exact runF_ok (N := 75) ih Tryz.func89 (by kernel_rfl) rfl h
def ir_spec_IsValidType : C := .sq (.rg [.bx 1 (.t 0) (kR 0), .mv 2 (.b false)]) (.sq (.rg [.ld 3 (.t 1) (kR 0), .cv (some 4) 87 [((.t 3), .v (kR 0)), ((.i 24), .v kI)], .bi 5 .geq (.t 4) (.i 0), .mv 6 (.t 5), .g 6 true (.ld 7 (.t 1) (kR 0)), .g 6 true (.cv (some 8) 88 [((.t 7), .v (kR 0))]), .g 6 true (.bi 9 .leq (.t 8) (.i 7)), .pk 10 (.t 6) (.t 9) (.b false), .mv 11 (.t 10), .g 11 true (.ld 12 (.t 1) (kR 0)), .g 11 true (.cv (some 13) 89 [((.t 12), .v (kR 0))]), .pk 14 (.t 11) (.t 13) (.b false), .mv 2 (.t 14)]) .rt)
noncomputable abbrev T_spec_IsValidType (nf : Nat) : XT := [e_spec_l3Left nf, e_spec_DepthOfType nf, e_spec_l3Form nf]
noncomputable def m_spec_IsValidType (nf : Nat) (t : Ty) : Option (Bool) := runF (T_spec_IsValidType nf) nf [.v (kR 0)] [.t 2 (.v .bool)] ir_spec_IsValidType (t, ())
theorem m_spec_IsValidType_eq (nf : Nat) (t : Ty) : m_spec_IsValidType nf t = (
  cb (m_spec_l3Left nf nf (Ty.h t) (24 : Int)) fun r4 =>
    br ((decide ((0 : Int) ≤ r4)) == true) (
      cb (m_spec_DepthOfType nf nf (Ty.h t)) fun r8 =>
        br ((decide (r8 ≤ (7 : Int))) == true) (
          cb (m_spec_l3Form nf nf (Ty.h t)) fun r13 =>
            some r13) (
          some false)) (
      some false)) := by kernel_rfl
noncomputable def e_spec_IsValidType (nf : Nat) : XE := eF 64 [.v (kR 0)] [.v .bool] (fun t => m_spec_IsValidType nf t.1)
theorem o_spec_IsValidType (nf : Nat) : conOK Tryz.prog 64 (e_spec_IsValidType nf).con := by
  have ih : XT.ok Tryz.prog (T_spec_IsValidType nf) := by exact ⟨o_spec_l3Left nf, o_spec_DepthOfType nf, o_spec_l3Form nf, trivial⟩
  refine eF_ok fun t x h => ?_
  obtain ⟨t, _⟩ := t
  exact runF_ok (N := 15) ih Tryz.func64 (by kernel_rfl) rfl h
def ir_spec_IsData : C := .sq (.rg [.bx 1 (.t 0) (kR 0), .mv 2 (.b false)]) (.sq (.rg [.ld 3 (.t 1) (kR 0), .cv (some 4) 64 [((.t 3), .v (kR 0))], .mv 5 (.t 4), .g 5 true (.ld 6 (.t 1) (kR 0)), .g 5 true (.cv (some 7) 65 [((.t 6), .v (kR 0)), ((.i 5), .v kI)]), .g 5 true (.un 8 .not (.t 7)), .pk 9 (.t 5) (.t 8) (.b false), .mv 2 (.t 9)]) .rt)
noncomputable abbrev T_spec_IsData (nf : Nat) : XT := [e_spec_IsValidType nf, e_spec_l3Has nf]
noncomputable def m_spec_IsData (nf : Nat) (t : Ty) : Option (Bool) := runF (T_spec_IsData nf) nf [.v (kR 0)] [.t 2 (.v .bool)] ir_spec_IsData (t, ())
theorem m_spec_IsData_eq (nf : Nat) (t : Ty) : m_spec_IsData nf t = (
  cb (m_spec_IsValidType nf (Ty.h t)) fun r4 =>
    br (r4 == true) (
      cb (m_spec_l3Has nf nf (Ty.h t) (5 : Int)) fun r7 =>
        some (!r7)) (
      some false)) := by kernel_rfl
noncomputable def e_spec_IsData (nf : Nat) : XE := eF 31 [.v (kR 0)] [.v .bool] (fun t => m_spec_IsData nf t.1)
theorem o_spec_IsData (nf : Nat) : conOK Tryz.prog 31 (e_spec_IsData nf).con := by
  have ih : XT.ok Tryz.prog (T_spec_IsData nf) := by exact ⟨o_spec_IsValidType nf, o_spec_l3Has nf, trivial⟩
  refine eF_ok fun t x h => ?_
  obtain ⟨t, _⟩ := t
  exact runF_ok (N := 10) ih Tryz.func31 (by kernel_rfl) rfl h
def ir_spec_l3Base : C := .sq (.rg [.bx 1 (.t 0) (kR 0), .mv 2 (.b false)]) (.sq (.rg [.fa 3 (.t 1) 0 0 0, .ld 4 (.t 3) kI, .bi 5 .eql (.t 4) (.i 1), .mv 6 (.t 5), .g 6 false (.fa 7 (.t 1) 0 0 0), .g 6 false (.ld 8 (.t 7) kI), .g 6 false (.bi 9 .eql (.t 8) (.i 2)), .pk 10 (.t 6) (.b true) (.t 9), .mv 2 (.t 10)]) .rt)
noncomputable abbrev T_spec_l3Base (nf : Nat) : XT := []
noncomputable def m_spec_l3Base (nf : Nat) (t : Ty) : Option (Bool) := runF (T_spec_l3Base nf) nf [.v (kR 0)] [.t 2 (.v .bool)] ir_spec_l3Base (t, ())
theorem m_spec_l3Base_eq (nf : Nat) (t : Ty) : m_spec_l3Base nf t = (
  br ((t.kind == (1 : Int)) == false) (
    some (t.kind == (2 : Int))) (
    some true)) := by kernel_rfl
noncomputable def e_spec_l3Base (nf : Nat) : XE := eF 93 [.v (kR 0)] [.v .bool] (fun t => m_spec_l3Base nf t.1)
theorem o_spec_l3Base (nf : Nat) : conOK Tryz.prog 93 (e_spec_l3Base nf).con := by
  have ih : XT.ok Tryz.prog (T_spec_l3Base nf) := by exact trivial
  refine eF_ok fun t x h => ?_
  obtain ⟨t, _⟩ := t
  exact runF_ok (N := 11) ih Tryz.func93 (by kernel_rfl) rfl h
def c31_spec_IsRow : C := .sq (.rg [.mv 2 (.b true)]) .rt
def c15_spec_IsRow : C := .sq (.sq (.rg [.mv 12 (.t 3), .fa 13 (.t 1) 0 2 2, .ld 14 (.t 13) (kL (kR 0)), .ln 15 false (.t 14), .bi 16 .lss (.t 12) (.t 15)]) (.cd (.t 16) .skip (.ex 0))) (.sq (.bk 1 (.sq (.rg [.fa 19 (.t 1) 0 2 2, .ld 20 (.t 19) (kL (kR 0)), .mv 21 (.t 3), .ia 22 (.t 20) (.t 21) (kR 0), .ld 23 (.t 22) (kR 0), .cv (some 24) 93 [((.t 23), .v (kR 0))], .un 25 .not (.t 24)]) (.cd (.t 25) (.sq (.rg [.mv 2 (.b false)]) .rt) .skip))) (.rg [.mv 17 (.t 3), .bi 18 .add (.t 17) (.i 1), .mv 3 (.t 18)]))
def c10_spec_IsRow : C := .sq (.sq (.rg [.mv 3 (.i 0)]) (.bk 0 (.lk [1, 3] [[1]] c15_spec_IsRow))) c31_spec_IsRow
def c5_spec_IsRow : C := .cd (.t 11) (.sq (.rg [.mv 2 (.b false)]) .rt) .skip
def w5_spec_IsRow : C := .kp [1, 11] [[1]] c5_spec_IsRow
def ir_spec_IsRow : C := .sq (.rg [.bx 1 (.t 0) (kR 0), .mv 2 (.b false)]) (.sq (.sq (.rg [.ld 4 (.t 1) (kR 0), .cv (some 5) 64 [((.t 4), .v (kR 0))], .un 6 .not (.t 5), .mv 7 (.t 6), .g 7 false (.fa 8 (.t 1) 0 0 0), .g 7 false (.ld 9 (.t 8) kI), .g 7 false (.bi 10 .neq (.t 9) (.i 3)), .pk 11 (.t 7) (.b true) (.t 10)]) w5_spec_IsRow) c10_spec_IsRow)
noncomputable abbrev T_spec_IsRow (nf : Nat) : XT := [e_spec_IsValidType nf, e_spec_l3Base nf]
noncomputable def m_spec_IsRow (nf : Nat) (t : Ty) : Option (Bool) := runF (T_spec_IsRow nf) nf [.v (kR 0)] [.t 2 (.v .bool)] ir_spec_IsRow (t, ())
noncomputable def X_spec_IsRow {R : Type} (nf : Nat) : C → Env → (Xt → Env → Option R) → Option R := xc (R := R) (T_spec_IsRow nf).S nf
noncomputable def j5_spec_IsRow (nf : Nat) (t : Ty) (x11_5 : Bool) : Option (Bool) := X_spec_IsRow nf c5_spec_IsRow ⟨[(1, .pt [1] 0), (11, .v .bool x11_5)], [([1], .box [.v kI t.kind, .v (kL kS) t.labels, .v (kL (kR 0)) t.args])]⟩ (qS (X_spec_IsRow nf c10_spec_IsRow) (KF [.t 2 (.v .bool)]))
noncomputable def l14_spec_IsRow (nf : Nat) (m14 : Nat) (t : Ty) (x3_14 : Int) : Option (Bool) := xit [1, 3] [[1]] (X_spec_IsRow nf c15_spec_IsRow) (qB 0 (qS (X_spec_IsRow nf c31_spec_IsRow) (KF [.t 2 (.v .bool)]))) m14 ⟨[(1, .pt [1] 0), (3, .v kI x3_14)], [([1], .box [.v kI t.kind, .v (kL kS) t.labels, .v (kL (kR 0)) t.args])]⟩
theorem j5_spec_IsRow_eq (nf : Nat) (t : Ty) (x11_5 : Bool) : j5_spec_IsRow nf t x11_5 = (
  br x11_5 (
    some false) (
    mark (l14_spec_IsRow nf nf t (0 : Int)))) := by kernel_rfl
theorem l14_spec_IsRow_eq (nf : Nat) (m14 : Nat) (t : Ty) (x3_14 : Int) : l14_spec_IsRow nf (m14 + 1) t x3_14 = (
  br (decide (x3_14 < (List.length t.args : Int))) (
    gg (0 ≤ x3_14 ∧ x3_14 < (List.length t.args : Int)) <|
      cb (m_spec_l3Base nf (gt t.args x3_14 Ty.zero)) fun r24 =>
        br (!r24) (
          some false) (
          mark (l14_spec_IsRow nf m14 t (w64 (x3_14 + (1 : Int)))))) (
    some true)) := by kernel_rfl
theorem m_spec_IsRow_eq (nf : Nat) (t : Ty) : m_spec_IsRow nf t = (
  cb (m_spec_IsValidType nf (Ty.h t)) fun r5 =>
    br ((!r5) == false) (
      mark (j5_spec_IsRow nf t (!(t.kind == (3 : Int))))) (
      mark (j5_spec_IsRow nf t true))) := by
  unfold m_spec_IsRow j5_spec_IsRow ir_spec_IsRow w5_spec_IsRow c10_spec_IsRow c31_spec_IsRow
  generalize c5_spec_IsRow = x0
  revert x0
  refine id ?_
  intro x0
  kernel_rfl
noncomputable def e_spec_IsRow (nf : Nat) : XE := eF 72 [.v (kR 0)] [.v .bool] (fun t => m_spec_IsRow nf t.1)
theorem o_spec_IsRow (nf : Nat) : conOK Tryz.prog 72 (e_spec_IsRow nf).con := by
  have ih : XT.ok Tryz.prog (T_spec_IsRow nf) := by exact ⟨o_spec_IsValidType nf, o_spec_l3Base nf, trivial⟩
  refine eF_ok fun t x h => ?_
  obtain ⟨t, _⟩ := t
  exact runF_ok (N := 26) ih Tryz.func72 (by kernel_rfl) rfl h
def c27_spec_IsSchema : C := .sq (.rg [.mv 40 (.t 3), .ln 41 false (.t 40), .bi 42 .leq (.t 41) (.i 4), .mv 43 (.t 42), .g 43 true (.mv 44 (.t 3)), .g 43 true (.cv (some 45) 73 [((.t 44), .v (kL kS))]), .pk 46 (.t 43) (.t 45) (.b false), .mv 2 (.t 46)]) .rt
def w27_spec_IsSchema : C := .kp [3] [[3]] c27_spec_IsSchema
def c26_spec_IsSchema : C := .rg [.mv 11 (.t 4), .bi 12 .add (.t 11) (.i 1), .mv 4 (.t 12)]
def c25_spec_IsSchema : C := .gt 3 true kS (.rg [.mv 31 (.t 3), .fa 32 (.t 1) 5 0 0, .ld 33 (.t 32) (kL (kR 4)), .mv 34 (.t 4), .ia 35 (.t 33) (.t 34) (kR 4), .fa 36 (.t 35) 4 0 0, .ld 37 (.t 36) kS, .bs 38 true kS [(.t 37)], .ap 39 [3] true kS (.t 31) (.t 38), .mv 3 (.t 39)])
def c20_spec_IsSchema : C := .cd (.t 30) (.sq (.rg [.mv 2 (.b false)]) .rt) .skip
def w20_spec_IsSchema : C := .kp [1, 3, 4, 30] [[1], [3]] c20_spec_IsSchema
def c9_spec_IsSchema : C := .sq (.sq (.rg [.mv 6 (.t 4), .fa 7 (.t 1) 5 0 0, .ld 8 (.t 7) (kL (kR 4)), .ln 9 false (.t 8), .bi 10 .lss (.t 6) (.t 9)]) (.cd (.t 10) .skip (.ex 0))) (.sq (.bk 1 (.sq (.sq (.rg [.fa 13 (.t 1) 5 0 0, .ld 14 (.t 13) (kL (kR 4)), .mv 15 (.t 4), .ia 16 (.t 14) (.t 15) (kR 4), .fa 17 (.t 16) 4 0 0, .ld 18 (.t 17) kS, .cv (some 19) 71 [((.t 18), .v kS)], .un 20 .not (.t 19), .mv 21 (.t 20), .g 21 false (.fa 22 (.t 1) 5 0 0), .g 21 false (.ld 23 (.t 22) (kL (kR 4))), .g 21 false (.mv 24 (.t 4)), .g 21 false (.ia 25 (.t 23) (.t 24) (kR 4)), .g 21 false (.fa 26 (.t 25) 4 1 1), .g 21 false (.ld 27 (.t 26) (kR 0)), .g 21 false (.cv (some 28) 72 [((.t 27), .v (kR 0))]), .g 21 false (.un 29 .not (.t 28)), .pk 30 (.t 21) (.b true) (.t 29)]) w20_spec_IsSchema) c25_spec_IsSchema)) c26_spec_IsSchema)
def ir_spec_IsSchema : C := .sq (.rg [.bx 1 (.t 0) (kR 5), .mv 2 (.b false)]) (.sq (.rg [.bs 5 true kS [], .mv 3 (.t 5)]) (.sq (.sq (.rg [.mv 4 (.i 0)]) (.bk 0 (.gt 3 true kS (.lk [1, 3, 4] [[1], [3]] c9_spec_IsSchema)))) w27_spec_IsSchema))
noncomputable abbrev T_spec_IsSchema (nf : Nat) : XT := [e_spec_IsName nf, e_spec_IsRow nf, e_spec_AreAscending nf]
noncomputable def m_spec_IsSchema (nf : Nat) (s : Schema) : Option (Bool) := runF (T_spec_IsSchema nf) nf [.v (kR 5)] [.t 2 (.v .bool)] ir_spec_IsSchema (s, ())
noncomputable def X_spec_IsSchema {R : Type} (nf : Nat) : C → Env → (Xt → Env → Option R) → Option R := xc (R := R) (T_spec_IsSchema nf).S nf
noncomputable def j20_spec_IsSchema (nf : Nat) (m8 : Nat) (x4_8 : Int) (s : Schema) (y3_8 : List Str) (x30_20 : Bool) : Option (Bool) := X_spec_IsSchema nf c20_spec_IsSchema ⟨[(1, .pt [1] 0), (3, .sl [3]), (4, .v kI x4_8), (30, .v .bool x30_20)], [([1], .box [.v (kL (kR 4)) s.tables]), ([3], .row true false kS y3_8)]⟩ (qS (X_spec_IsSchema nf c25_spec_IsSchema) (qB 1 (qS (X_spec_IsSchema nf c26_spec_IsSchema) (qM [1, 3, 4] [[1], [3]] (X_spec_IsSchema nf c9_spec_IsSchema) m8 (qB 0 (qS (X_spec_IsSchema nf w27_spec_IsSchema) (KF [.t 2 (.v .bool)])))))))
noncomputable def l8_spec_IsSchema (nf : Nat) (m8 : Nat) (s : Schema) (x4_8 : Int) (y3_8 : List Str) : Option (Bool) := xit [1, 3, 4] [[1], [3]] (X_spec_IsSchema nf c9_spec_IsSchema) (qB 0 (qS (X_spec_IsSchema nf w27_spec_IsSchema) (KF [.t 2 (.v .bool)]))) m8 ⟨[(1, .pt [1] 0), (3, .sl [3]), (4, .v kI x4_8)], [([1], .box [.v (kL (kR 4)) s.tables]), ([3], .row true false kS y3_8)]⟩
noncomputable def j27_spec_IsSchema (nf : Nat) (y3_8 : List Str) : Option (Bool) := X_spec_IsSchema nf c27_spec_IsSchema ⟨[(3, .sl [3])], [([3], .row true false kS y3_8)]⟩ (KF [.t 2 (.v .bool)])
theorem j20_spec_IsSchema_eq (nf : Nat) (m8 : Nat) (x4_8 : Int) (s : Schema) (y3_8 : List Str) (x30_20 : Bool) : j20_spec_IsSchema nf m8 x4_8 s y3_8 x30_20 = (
  br x30_20 (
    some false) (
    gg (0 ≤ x4_8 ∧ x4_8 < (List.length s.tables : Int)) <|
      gg (List.length y3_8 + List.length ([((gt s.tables x4_8 TDecl.zero).name)] : List Str) ≤ 33554432) <|
        mark (l8_spec_IsSchema nf m8 s (w64 (x4_8 + (1 : Int))) (y3_8 ++ ([((gt s.tables x4_8 TDecl.zero).name)] : List Str))))) := by
  unfold j20_spec_IsSchema l8_spec_IsSchema c20_spec_IsSchema w27_spec_IsSchema c26_spec_IsSchema c25_spec_IsSchema
  generalize c27_spec_IsSchema = x0
  revert x0
  refine id ?_
  intro x0
  kernel_rfl
theorem l8_spec_IsSchema_eq (nf : Nat) (m8 : Nat) (s : Schema) (x4_8 : Int) (y3_8 : List Str) : l8_spec_IsSchema nf (m8 + 1) s x4_8 y3_8 = (
  br (decide (x4_8 < (List.length s.tables : Int))) (
    gg (0 ≤ x4_8 ∧ x4_8 < (List.length s.tables : Int)) <|
      cb (m_spec_IsName nf ((gt s.tables x4_8 TDecl.zero).name)) fun r19 =>
        br ((!r19) == false) (
          gg (0 ≤ x4_8 ∧ x4_8 < (List.length s.tables : Int)) <|
            cb (m_spec_IsRow nf ((gt s.tables x4_8 TDecl.zero).row)) fun r28 =>
              mark (j20_spec_IsSchema nf m8 x4_8 s y3_8 (!r28))) (
          mark (j20_spec_IsSchema nf m8 x4_8 s y3_8 true))) (
    mark (j27_spec_IsSchema nf y3_8))) := by
  unfold l8_spec_IsSchema j20_spec_IsSchema j27_spec_IsSchema c9_spec_IsSchema w27_spec_IsSchema w20_spec_IsSchema c25_spec_IsSchema c26_spec_IsSchema
  generalize c27_spec_IsSchema = x0
  generalize c20_spec_IsSchema = x1
  revert x0 x1
  refine id ?_
  intro x0 x1
  kernel_rfl
theorem j27_spec_IsSchema_eq (nf : Nat) (y3_8 : List Str) : j27_spec_IsSchema nf y3_8 = (
  br ((decide ((List.length y3_8 : Int) ≤ (4 : Int))) == true) (
    cb (m_spec_AreAscending nf y3_8) fun r45 =>
      some r45) (
    some false)) := by kernel_rfl
theorem m_spec_IsSchema_eq (nf : Nat) (s : Schema) : m_spec_IsSchema nf s = (
  mark (l8_spec_IsSchema nf nf s (0 : Int) ([] : List Str))) := by
  unfold m_spec_IsSchema l8_spec_IsSchema ir_spec_IsSchema w27_spec_IsSchema
  generalize c27_spec_IsSchema = x0
  revert x0
  refine id ?_
  intro x0
  kernel_rfl
noncomputable def e_spec_IsSchema (nf : Nat) : XE := eF 43 [.v (kR 5)] [.v .bool] (fun t => m_spec_IsSchema nf t.1)
theorem o_spec_IsSchema (nf : Nat) : conOK Tryz.prog 43 (e_spec_IsSchema nf).con := by
  have ih : XT.ok Tryz.prog (T_spec_IsSchema nf) := by exact ⟨o_spec_IsName nf, o_spec_IsRow nf, o_spec_AreAscending nf, trivial⟩
  refine eF_ok fun t x h => ?_
  obtain ⟨s, _⟩ := t
  exact runF_ok (N := 47) ih Tryz.func43 (by kernel_rfl) rfl h
def c23_spec_IsCtx : C := .sq (.rg [.mv 26 (.t 0), .ln 27 false (.t 26), .bi 28 .leq (.t 27) (.i 16), .mv 2 (.t 28)]) .rt
def c22_spec_IsCtx : C := .rg [.mv 8 (.t 3), .bi 9 .add (.t 8) (.i 1), .mv 3 (.t 9)]
def c17_spec_IsCtx : C := .cd (.t 25) (.sq (.rg [.mv 2 (.b false)]) .rt) .skip
def w17_spec_IsCtx : C := .kp [0, 3, 25] [] c17_spec_IsCtx
def c7_spec_IsCtx : C := .sq (.sq (.rg [.mv 4 (.t 3), .mv 5 (.t 0), .ln 6 false (.t 5), .bi 7 .lss (.t 4) (.t 6)]) (.cd (.t 7) .skip (.ex 0))) (.sq (.bk 1 (.sq (.rg [.mv 10 (.t 0), .mv 11 (.t 3), .ia 12 (.t 10) (.t 11) (kR 8), .fa 13 (.t 12) 8 0 0, .ld 14 (.t 13) kS, .cv (some 15) 71 [((.t 14), .v kS)], .un 16 .not (.t 15), .mv 17 (.t 16), .g 17 false (.mv 18 (.t 0)), .g 17 false (.mv 19 (.t 3)), .g 17 false (.ia 20 (.t 18) (.t 19) (kR 8)), .g 17 false (.fa 21 (.t 20) 8 1 1), .g 17 false (.ld 22 (.t 21) (kR 0)), .g 17 false (.cv (some 23) 64 [((.t 22), .v (kR 0))]), .g 17 false (.un 24 .not (.t 23)), .pk 25 (.t 17) (.b true) (.t 24)]) w17_spec_IsCtx)) c22_spec_IsCtx)
def ir_spec_IsCtx : C := .sq (.rg [.mv 2 (.b false)]) (.sq (.sq (.rg [.mv 3 (.i 0)]) (.bk 0 (.lk [0, 3] [] c7_spec_IsCtx))) c23_spec_IsCtx)
noncomputable abbrev T_spec_IsCtx (nf : Nat) : XT := [e_spec_IsName nf, e_spec_IsValidType nf]
noncomputable def m_spec_IsCtx (nf : Nat) (ctx : List Typing) : Option (Bool) := runF (T_spec_IsCtx nf) nf [.v (kL (kR 8))] [.t 2 (.v .bool)] ir_spec_IsCtx (ctx, ())
noncomputable def X_spec_IsCtx {R : Type} (nf : Nat) : C → Env → (Xt → Env → Option R) → Option R := xc (R := R) (T_spec_IsCtx nf).S nf
noncomputable def j17_spec_IsCtx (nf : Nat) (m6 : Nat) (ctx : List Typing) (x3_6 : Int) (x25_17 : Bool) : Option (Bool) := X_spec_IsCtx nf c17_spec_IsCtx ⟨[(0, .v (kL (kR 8)) ctx), (3, .v kI x3_6), (25, .v .bool x25_17)], []⟩ (qB 1 (qS (X_spec_IsCtx nf c22_spec_IsCtx) (qM [0, 3] [] (X_spec_IsCtx nf c7_spec_IsCtx) m6 (qB 0 (qS (X_spec_IsCtx nf c23_spec_IsCtx) (KF [.t 2 (.v .bool)]))))))
noncomputable def l6_spec_IsCtx (nf : Nat) (m6 : Nat) (ctx : List Typing) (x3_6 : Int) : Option (Bool) := xit [0, 3] [] (X_spec_IsCtx nf c7_spec_IsCtx) (qB 0 (qS (X_spec_IsCtx nf c23_spec_IsCtx) (KF [.t 2 (.v .bool)]))) m6 ⟨[(0, .v (kL (kR 8)) ctx), (3, .v kI x3_6)], []⟩
theorem j17_spec_IsCtx_eq (nf : Nat) (m6 : Nat) (ctx : List Typing) (x3_6 : Int) (x25_17 : Bool) : j17_spec_IsCtx nf m6 ctx x3_6 x25_17 = (
  br x25_17 (
    some false) (
    mark (l6_spec_IsCtx nf m6 ctx (w64 (x3_6 + (1 : Int)))))) := by kernel_rfl
theorem l6_spec_IsCtx_eq (nf : Nat) (m6 : Nat) (ctx : List Typing) (x3_6 : Int) : l6_spec_IsCtx nf (m6 + 1) ctx x3_6 = (
  br (decide (x3_6 < (List.length ctx : Int))) (
    gg (0 ≤ x3_6 ∧ x3_6 < (List.length ctx : Int)) <|
      cb (m_spec_IsName nf ((gt ctx x3_6 Typing.zero).name)) fun r15 =>
        br ((!r15) == false) (
          gg (0 ≤ x3_6 ∧ x3_6 < (List.length ctx : Int)) <|
            cb (m_spec_IsValidType nf ((gt ctx x3_6 Typing.zero).type)) fun r23 =>
              mark (j17_spec_IsCtx nf m6 ctx x3_6 (!r23))) (
          mark (j17_spec_IsCtx nf m6 ctx x3_6 true))) (
    some (decide ((List.length ctx : Int) ≤ (16 : Int))))) := by
  unfold l6_spec_IsCtx j17_spec_IsCtx c7_spec_IsCtx c23_spec_IsCtx w17_spec_IsCtx c22_spec_IsCtx
  generalize c17_spec_IsCtx = x0
  revert x0
  refine id ?_
  intro x0
  kernel_rfl
theorem m_spec_IsCtx_eq (nf : Nat) (ctx : List Typing) : m_spec_IsCtx nf ctx = (
  mark (l6_spec_IsCtx nf nf ctx (0 : Int))) := by kernel_rfl
noncomputable def e_spec_IsCtx (nf : Nat) : XE := eF 44 [.v (kL (kR 8))] [.v .bool] (fun t => m_spec_IsCtx nf t.1)
theorem o_spec_IsCtx (nf : Nat) : conOK Tryz.prog 44 (e_spec_IsCtx nf).con := by
  have ih : XT.ok Tryz.prog (T_spec_IsCtx nf) := by exact ⟨o_spec_IsName nf, o_spec_IsValidType nf, trivial⟩
  refine eF_ok fun t x h => ?_
  obtain ⟨ctx, _⟩ := t
  exact runF_ok (N := 29) ih Tryz.func44 (by kernel_rfl) rfl h
def c19_spec_l7Left : C := .sq (.rg [.mv 26 (.t 1), .mv 4 (.t 26)]) .rt
def c15_spec_l7Left : C := .sq (.bk 1 (.rg [.fa 19 (.t 2) 2 5 7, .ld 20 (.t 19) (kL (kR 2)), .mv 21 (.t 5), .ia 22 (.t 20) (.t 21) (kR 2), .ld 23 (.t 22) (kR 2), .mv 24 (.t 1), .cv (some 25) 74 [((.t 23), .v (kR 2)), ((.t 24), .v kI)], .mv 1 (.t 25)])) (.rg [.mv 17 (.t 5), .bi 18 .add (.t 17) (.i 1), .mv 5 (.t 18)])
def c12_spec_l7Left : C := .cd (.t 16) .skip (.ex 0)
def w12_spec_l7Left : C := .kp [1, 2, 5, 16] [[2]] c12_spec_l7Left
def c9_spec_l7Left : C := .sq (.sq (.rg [.mv 8 (.t 5), .fa 9 (.t 2) 2 5 7, .ld 10 (.t 9) (kL (kR 2)), .ln 11 false (.t 10), .bi 12 .lss (.t 8) (.t 11), .mv 13 (.t 12), .g 13 true (.mv 14 (.t 1)), .g 13 true (.bi 15 .geq (.t 14) (.i 0)), .pk 16 (.t 13) (.t 15) (.b false)]) w12_spec_l7Left) c15_spec_l7Left
def ir_spec_l7Left : C := .sq (.rg [.bx 2 (.t 0) (kR 2), .mv 4 (.i 0)]) (.sq (.rg [.mv 6 (.t 1), .bi 7 .sub (.t 6) (.i 1), .mv 1 (.t 7)]) (.sq (.sq (.rg [.mv 5 (.i 0)]) (.bk 0 (.lk [1, 2, 5] [[2]] c9_spec_l7Left))) c19_spec_l7Left))
noncomputable def B_spec_l7Left (nf : Nat) : XT := []
noncomputable def G_spec_l7Left (nf : Nat) : Nat → XT
  | 0 => []
  | kf + 1 => [eF 74 [.v (kR 2), .v kI] [.v kI] (fun t => (fun (e : Tm) (left : Int) => runF (G_spec_l7Left nf kf ++ B_spec_l7Left nf) nf [.v (kR 2), .v kI] [.t 4 (.v kI)] ir_spec_l7Left (e, left, ())) t.1 t.2.1)]
noncomputable abbrev T_spec_l7Left (nf kf : Nat) : XT := G_spec_l7Left nf kf ++ B_spec_l7Left nf
noncomputable def m_spec_l7Left (nf kf : Nat) (e : Tm) (left : Int) : Option (Int) := runF (T_spec_l7Left nf kf) nf [.v (kR 2), .v kI] [.t 4 (.v kI)] ir_spec_l7Left (e, left, ())
noncomputable def X_spec_l7Left {R : Type} (nf kf : Nat) : C → Env → (Xt → Env → Option R) → Option R := xc (R := R) (T_spec_l7Left nf kf).S nf
noncomputable def j12_spec_l7Left (nf kf : Nat) (m8 : Nat) (x1_8 : Int) (x5_8 : Int) (e : Tm) (x16_12 : Bool) : Option (Int) := X_spec_l7Left nf kf c12_spec_l7Left ⟨[(1, .v kI x1_8), (2, .pt [2] 0), (5, .v kI x5_8), (16, .v .bool x16_12)], [([2], .box [.v kI e.kind, .v kS e.name, .v kI e.n, .v kI e.type.kind, .v (kL kS) e.type.labels, .v (kL (kR 0)) e.type.args, .v (kL kS) e.labels, .v (kL (kR 2)) e.args])]⟩ (qS (X_spec_l7Left nf kf c15_spec_l7Left) (qM [1, 2, 5] [[2]] (X_spec_l7Left nf kf c9_spec_l7Left) m8 (qB 0 (qS (X_spec_l7Left nf kf c19_spec_l7Left) (KF [.t 4 (.v kI)])))))
noncomputable def l8_spec_l7Left (nf kf : Nat) (m8 : Nat) (e : Tm) (x1_8 : Int) (x5_8 : Int) : Option (Int) := xit [1, 2, 5] [[2]] (X_spec_l7Left nf kf c9_spec_l7Left) (qB 0 (qS (X_spec_l7Left nf kf c19_spec_l7Left) (KF [.t 4 (.v kI)]))) m8 ⟨[(1, .v kI x1_8), (2, .pt [2] 0), (5, .v kI x5_8)], [([2], .box [.v kI e.kind, .v kS e.name, .v kI e.n, .v kI e.type.kind, .v (kL kS) e.type.labels, .v (kL (kR 0)) e.type.args, .v (kL kS) e.labels, .v (kL (kR 2)) e.args])]⟩
theorem j12_spec_l7Left_eq (nf kf : Nat) (m8 : Nat) (x1_8 : Int) (x5_8 : Int) (e : Tm) (x16_12 : Bool) : j12_spec_l7Left nf (kf + 1) m8 x1_8 x5_8 e x16_12 = (
  br x16_12 (
    gg (0 ≤ x5_8 ∧ x5_8 < (List.length e.args : Int)) <|
      cb (m_spec_l7Left nf kf (gt e.args x5_8 Tm.zero) x1_8) fun r25 =>
        mark (l8_spec_l7Left nf (kf + 1) m8 e r25 (w64 (x5_8 + (1 : Int))))) (
    some x1_8)) := by kernel_rfl
theorem l8_spec_l7Left_eq (nf kf : Nat) (m8 : Nat) (e : Tm) (x1_8 : Int) (x5_8 : Int) : l8_spec_l7Left nf (kf + 1) (m8 + 1) e x1_8 x5_8 = (
  br ((decide (x5_8 < (List.length e.args : Int))) == true) (
    mark (j12_spec_l7Left nf (kf + 1) m8 x1_8 x5_8 e (decide ((0 : Int) ≤ x1_8)))) (
    mark (j12_spec_l7Left nf (kf + 1) m8 x1_8 x5_8 e false))) := by
  unfold l8_spec_l7Left j12_spec_l7Left c9_spec_l7Left c19_spec_l7Left w12_spec_l7Left c15_spec_l7Left
  generalize c12_spec_l7Left = x0
  revert x0
  refine id ?_
  intro x0
  kernel_rfl
theorem m_spec_l7Left_eq (nf kf : Nat) (e : Tm) (left : Int) : m_spec_l7Left nf (kf + 1) e left = (
  mark (l8_spec_l7Left nf (kf + 1) nf e (w64 (left - (1 : Int))) (0 : Int))) := by kernel_rfl
noncomputable def e_spec_l7Left (nf : Nat) : XE := eF 74 [.v (kR 2), .v kI] [.v kI] (fun t => m_spec_l7Left nf nf t.1 t.2.1)
theorem gok_spec_l7Left (nf : Nat) : ∀ kf : Nat, XT.ok Tryz.prog (G_spec_l7Left nf kf ++ B_spec_l7Left nf)
  | 0 => by exact trivial
  | kf + 1 => by
    have ih := gok_spec_l7Left nf kf
    refine ⟨?_, (by exact trivial)⟩
    · refine eF_ok fun t x h => ?_
      obtain ⟨e, left, _⟩ := t
      exact runF_ok (N := 27) ih Tryz.func74 (by kernel_rfl) rfl h
theorem o_spec_l7Left (nf : Nat) : conOK Tryz.prog 74 (e_spec_l7Left nf).con := by
  have ih := gok_spec_l7Left nf nf
  refine eF_ok fun t x h => ?_
  obtain ⟨e, left, _⟩ := t
  exact runF_ok (N := 27) ih Tryz.func74 (by kernel_rfl) rfl h
def c19_spec_DepthOfTerm : C := .sq (.rg [.mv 20 (.t 3), .bi 21 .add (.t 20) (.i 1), .mv 2 (.t 21)]) .rt
def c9_spec_DepthOfTerm : C := .sq (.sq (.rg [.mv 5 (.t 4), .fa 6 (.t 1) 2 5 7, .ld 7 (.t 6) (kL (kR 2)), .ln 8 false (.t 7), .bi 9 .lss (.t 5) (.t 8)]) (.cd (.t 9) .skip (.ex 0))) (.sq (.bk 1 (.rg [.mv 12 (.t 3), .fa 13 (.t 1) 2 5 7, .ld 14 (.t 13) (kL (kR 2)), .mv 15 (.t 4), .ia 16 (.t 14) (.t 15) (kR 2), .ld 17 (.t 16) (kR 2), .cv (some 18) 75 [((.t 17), .v (kR 2))], .cv (some 19) 94 [((.t 12), .v kI), ((.t 18), .v kI)], .mv 3 (.t 19)])) (.rg [.mv 10 (.t 4), .bi 11 .add (.t 10) (.i 1), .mv 4 (.t 11)]))
def ir_spec_DepthOfTerm : C := .sq (.rg [.bx 1 (.t 0) (kR 2), .mv 2 (.i 0)]) (.sq (.rg [.mv 3 (.i 0)]) (.sq (.sq (.rg [.mv 4 (.i 0)]) (.bk 0 (.lk [1, 3, 4] [[1]] c9_spec_DepthOfTerm))) c19_spec_DepthOfTerm))
noncomputable def B_spec_DepthOfTerm (nf : Nat) : XT := [e_spec_l1Max nf]
noncomputable def G_spec_DepthOfTerm (nf : Nat) : Nat → XT
  | 0 => []
  | kf + 1 => [eF 75 [.v (kR 2)] [.v kI] (fun t => (fun (e : Tm) => runF (G_spec_DepthOfTerm nf kf ++ B_spec_DepthOfTerm nf) nf [.v (kR 2)] [.t 2 (.v kI)] ir_spec_DepthOfTerm (e, ())) t.1)]
noncomputable abbrev T_spec_DepthOfTerm (nf kf : Nat) : XT := G_spec_DepthOfTerm nf kf ++ B_spec_DepthOfTerm nf
noncomputable def m_spec_DepthOfTerm (nf kf : Nat) (e : Tm) : Option (Int) := runF (T_spec_DepthOfTerm nf kf) nf [.v (kR 2)] [.t 2 (.v kI)] ir_spec_DepthOfTerm (e, ())
noncomputable def X_spec_DepthOfTerm {R : Type} (nf kf : Nat) : C → Env → (Xt → Env → Option R) → Option R := xc (R := R) (T_spec_DepthOfTerm nf kf).S nf
noncomputable def l8_spec_DepthOfTerm (nf kf : Nat) (m8 : Nat) (e : Tm) (x3_8 : Int) (x4_8 : Int) : Option (Int) := xit [1, 3, 4] [[1]] (X_spec_DepthOfTerm nf kf c9_spec_DepthOfTerm) (qB 0 (qS (X_spec_DepthOfTerm nf kf c19_spec_DepthOfTerm) (KF [.t 2 (.v kI)]))) m8 ⟨[(1, .pt [1] 0), (3, .v kI x3_8), (4, .v kI x4_8)], [([1], .box [.v kI e.kind, .v kS e.name, .v kI e.n, .v kI e.type.kind, .v (kL kS) e.type.labels, .v (kL (kR 0)) e.type.args, .v (kL kS) e.labels, .v (kL (kR 2)) e.args])]⟩
theorem l8_spec_DepthOfTerm_eq (nf kf : Nat) (m8 : Nat) (e : Tm) (x3_8 : Int) (x4_8 : Int) : l8_spec_DepthOfTerm nf (kf + 1) (m8 + 1) e x3_8 x4_8 = (
  br (decide (x4_8 < (List.length e.args : Int))) (
    gg (0 ≤ x4_8 ∧ x4_8 < (List.length e.args : Int)) <|
      cb (m_spec_DepthOfTerm nf kf (gt e.args x4_8 Tm.zero)) fun r18 =>
        cb (m_spec_l1Max nf x3_8 r18) fun r19 =>
          mark (l8_spec_DepthOfTerm nf (kf + 1) m8 e r19 (w64 (x4_8 + (1 : Int))))) (
    some (w64 (x3_8 + (1 : Int))))) := by kernel_rfl
theorem m_spec_DepthOfTerm_eq (nf kf : Nat) (e : Tm) : m_spec_DepthOfTerm nf (kf + 1) e = (
  mark (l8_spec_DepthOfTerm nf (kf + 1) nf e (0 : Int) (0 : Int))) := by kernel_rfl
noncomputable def e_spec_DepthOfTerm (nf : Nat) : XE := eF 75 [.v (kR 2)] [.v kI] (fun t => m_spec_DepthOfTerm nf nf t.1)
theorem gok_spec_DepthOfTerm (nf : Nat) : ∀ kf : Nat, XT.ok Tryz.prog (G_spec_DepthOfTerm nf kf ++ B_spec_DepthOfTerm nf)
  | 0 => by exact ⟨o_spec_l1Max nf, trivial⟩
  | kf + 1 => by
    have ih := gok_spec_DepthOfTerm nf kf
    refine ⟨?_, (by exact ⟨o_spec_l1Max nf, trivial⟩)⟩
    · refine eF_ok fun t x h => ?_
      obtain ⟨e, _⟩ := t
      exact runF_ok (N := 22) ih Tryz.func75 (by kernel_rfl) rfl h
theorem o_spec_DepthOfTerm (nf : Nat) : conOK Tryz.prog 75 (e_spec_DepthOfTerm nf).con := by
  have ih := gok_spec_DepthOfTerm nf nf
  refine eF_ok fun t x h => ?_
  obtain ⟨e, _⟩ := t
  exact runF_ok (N := 22) ih Tryz.func75 (by kernel_rfl) rfl h
def c39_spec_OpArity : C := .sq (.rg [.mv 2 (.i 0)]) .rt
def c28_spec_OpArity : C := .cd (.t 4) (.sq (.rg [.mv 2 (.i 2)]) .rt) (.sq (.rg [.bi 12 .eql (.t 3) (.s [33]), .mv 11 (.t 12)]) (.cd (.t 11) (.sq (.rg [.mv 2 (.i 1)]) .rt) .skip))
def w28_spec_OpArity : C := .kp [3, 4] [] c28_spec_OpArity
def ir_spec_OpArity : C := .sq (.rg [.mv 2 (.i 0)]) (.sq (.sq (.rg [.mv 3 (.t 0)]) (.bk 0 (.sq (.sq (.rg [.bi 5 .eql (.t 3) (.s [43]), .mv 4 (.t 5)]) (.cd (.t 4) .skip (.sq (.rg [.bi 6 .eql (.t 3) (.s [45]), .mv 4 (.t 6)]) (.cd (.t 4) .skip (.sq (.rg [.bi 7 .eql (.t 3) (.s [61]), .mv 4 (.t 7)]) (.cd (.t 4) .skip (.sq (.rg [.bi 8 .eql (.t 3) (.s [60]), .mv 4 (.t 8)]) (.cd (.t 4) .skip (.sq (.rg [.bi 9 .eql (.t 3) (.s [38]), .mv 4 (.t 9)]) (.cd (.t 4) .skip (.rg [.bi 10 .eql (.t 3) (.s [124]), .mv 4 (.t 10)]))))))))))) w28_spec_OpArity))) c39_spec_OpArity)
noncomputable abbrev T_spec_OpArity (nf : Nat) : XT := []
noncomputable def m_spec_OpArity (nf : Nat) (op : Str) : Option (Int) := runF (T_spec_OpArity nf) nf [.v kS] [.t 2 (.v kI)] ir_spec_OpArity (op, ())
noncomputable def X_spec_OpArity {R : Type} (nf : Nat) : C → Env → (Xt → Env → Option R) → Option R := xc (R := R) (T_spec_OpArity nf).S nf
noncomputable def j28_spec_OpArity (nf : Nat) (op : Str) (x4_28 : Bool) : Option (Int) := X_spec_OpArity nf c28_spec_OpArity ⟨[(3, .v kS op), (4, .v .bool x4_28)], []⟩ (qB 0 (qS (X_spec_OpArity nf c39_spec_OpArity) (KF [.t 2 (.v kI)])))
theorem j28_spec_OpArity_eq (nf : Nat) (op : Str) (x4_28 : Bool) : j28_spec_OpArity nf op x4_28 = (
  br x4_28 (
    some (2 : Int)) (
    br (op == ([33] : Str)) (
      some (1 : Int)) (
      some (0 : Int)))) := by kernel_rfl
theorem m_spec_OpArity_eq (nf : Nat) (op : Str) : m_spec_OpArity nf op = (
  br (op == ([43] : Str)) (
    mark (j28_spec_OpArity nf op (op == ([43] : Str)))) (
    br (op == ([45] : Str)) (
      mark (j28_spec_OpArity nf op (op == ([45] : Str)))) (
      br (op == ([61] : Str)) (
        mark (j28_spec_OpArity nf op (op == ([61] : Str)))) (
        br (op == ([60] : Str)) (
          mark (j28_spec_OpArity nf op (op == ([60] : Str)))) (
          br (op == ([38] : Str)) (
            mark (j28_spec_OpArity nf op (op == ([38] : Str)))) (
            mark (j28_spec_OpArity nf op (op == ([124] : Str))))))))) := by
  unfold m_spec_OpArity j28_spec_OpArity ir_spec_OpArity w28_spec_OpArity c39_spec_OpArity
  generalize c28_spec_OpArity = x0
  revert x0
  refine id ?_
  intro x0
  kernel_rfl
noncomputable def e_spec_OpArity (nf : Nat) : XE := eF 118 [.v kS] [.v kI] (fun t => m_spec_OpArity nf t.1)
theorem o_spec_OpArity (nf : Nat) : conOK Tryz.prog 118 (e_spec_OpArity nf).con := by
  have ih : XT.ok Tryz.prog (T_spec_OpArity nf) := by exact trivial
  refine eF_ok fun t x h => ?_
  obtain ⟨op, _⟩ := t
  exact runF_ok (N := 13) ih Tryz.func118 (by kernel_rfl) rfl h
def ir_spec_l7Named : C := .sq (.rg [.mv 2 (.b false)]) (.sq (.rg [.mv 3 (.t 0), .bi 4 .eql (.t 3) (.i 1), .mv 5 (.t 4), .g 5 false (.mv 6 (.t 0)), .g 5 false (.bi 7 .eql (.t 6) (.i 6)), .pk 8 (.t 5) (.b true) (.t 7), .mv 9 (.t 8), .g 9 false (.mv 10 (.t 0)), .g 9 false (.bi 11 .eql (.t 10) (.i 10)), .pk 12 (.t 9) (.b true) (.t 11), .mv 13 (.t 12), .g 13 false (.mv 14 (.t 0)), .g 13 false (.bi 15 .eql (.t 14) (.i 12)), .pk 16 (.t 13) (.b true) (.t 15), .mv 17 (.t 16), .g 17 false (.mv 18 (.t 0)), .g 17 false (.bi 19 .eql (.t 18) (.i 13)), .pk 20 (.t 17) (.b true) (.t 19), .mv 2 (.t 20)]) .rt)
noncomputable abbrev T_spec_l7Named (nf : Nat) : XT := []
noncomputable def m_spec_l7Named (nf : Nat) (kind : Int) : Option (Bool) := runF (T_spec_l7Named nf) nf [.v kI] [.t 2 (.v .bool)] ir_spec_l7Named (kind, ())
theorem m_spec_l7Named_eq (nf : Nat) (kind : Int) : m_spec_l7Named nf kind = (
  br ((kind == (1 : Int)) == false) (
    br ((kind == (6 : Int)) == false) (
      br ((kind == (10 : Int)) == false) (
        br ((kind == (12 : Int)) == false) (
          some (kind == (13 : Int))) (
          some true)) (
        some true)) (
      some true)) (
    some true)) := by kernel_rfl
noncomputable def e_spec_l7Named (nf : Nat) : XE := eF 119 [.v kI] [.v .bool] (fun t => m_spec_l7Named nf t.1)
theorem o_spec_l7Named (nf : Nat) : conOK Tryz.prog 119 (e_spec_l7Named nf).con := by
  have ih : XT.ok Tryz.prog (T_spec_l7Named nf) := by exact trivial
  refine eF_ok fun t x h => ?_
  obtain ⟨kind, _⟩ := t
  exact runF_ok (N := 21) ih Tryz.func119 (by kernel_rfl) rfl h
def c53_spec_l7Fields : C := .sq (.rg [.fa 93 (.t 1) 2 2 2, .ld 94 (.t 93) kI, .mv 95 (.t 4), .cv (some 96) 92 [((.t 94), .v kI), ((.i 0), .v kI), ((.t 95), .v kI)], .mv 2 (.t 96)]) .rt
def w53_spec_l7Fields : C := .kp [1, 4] [[1]] c53_spec_l7Fields
def c38_spec_l7Fields : C := .sq (.rg [.mv 4 (.i 0)]) (.sq (.sq (.rg [.fa 87 (.t 1) 2 0 0, .ld 88 (.t 87) kI]) (.bk 0 (.sq (.rg [.bi 90 .eql (.t 88) (.i 2), .mv 89 (.t 90)]) (.cd (.t 89) (.rg [.mv 4 (.i 999)]) (.sq (.rg [.bi 92 .eql (.t 88) (.i 3), .mv 91 (.t 92)]) (.cd (.t 91) (.rg [.mv 4 (.i 1)]) .skip)))))) w53_spec_l7Fields)
def c33_spec_l7Fields : C := .cd (.t 86) (.sq (.rg [.mv 2 (.b false)]) .rt) .skip
def w33_spec_l7Fields : C := .kp [1, 86] [[1]] c33_spec_l7Fields
def c30_spec_l7Fields : C := .sq (.sq (.rg [.fa 67 (.t 1) 2 0 0, .ld 68 (.t 67) kI, .bi 69 .eql (.t 68) (.i 5), .mv 70 (.t 69), .g 70 true (.fa 71 (.t 1) 2 4 6), .g 70 true (.ld 72 (.t 71) (kL kS)), .g 70 true (.cv (some 73) 116 [((.t 72), .v (kL kS))]), .g 70 true (.un 74 .not (.t 73)), .pk 75 (.t 70) (.t 74) (.b false), .mv 76 (.t 75), .g 76 false (.fa 77 (.t 1) 2 0 0), .g 76 false (.ld 78 (.t 77) kI), .g 76 false (.bi 79 .neq (.t 78) (.i 5)), .g 76 false (.mv 80 (.t 79)), .g 80 true (.fa 81 (.t 1) 2 4 6), .g 80 true (.ld 82 (.t 81) (kL kS)), .g 80 true (.ln 83 false (.t 82)), .g 80 true (.bi 84 .gtr (.t 83) (.i 0)), .g 76 false (.pk 85 (.t 80) (.t 84) (.b false)), .pk 86 (.t 76) (.b true) (.t 85)]) w33_spec_l7Fields) c38_spec_l7Fields
def c25_spec_l7Fields : C := .cd (.t 66) (.sq (.rg [.mv 2 (.b false)]) .rt) .skip
def w25_spec_l7Fields : C := .kp [1, 66] [[1]] c25_spec_l7Fields
def c22_spec_l7Fields : C := .sq (.sq (.rg [.mv 38 (.t 3), .fa 39 (.t 1) 2 3 3, .ld 40 (.t 39) (kR 0), .cv (some 41) 64 [((.t 40), .v (kR 0))], .be 42 true (.t 38) (.t 41), .mv 43 (.t 42), .g 43 false (.mv 44 (.t 3)), .g 43 false (.un 45 .not (.t 44)), .g 43 false (.mv 46 (.t 45)), .g 46 true (.fa 47 (.t 1) 2 3 3), .g 46 true (.fa 48 (.t 47) 0 0 0), .g 46 true (.ld 49 (.t 48) kI), .g 46 true (.bi 50 .neq (.t 49) (.i 0)), .g 46 true (.mv 51 (.t 50)), .g 51 false (.fa 52 (.t 1) 2 3 3), .g 51 false (.fa 53 (.t 52) 0 1 1), .g 51 false (.ld 54 (.t 53) (kL kS)), .g 51 false (.ln 55 false (.t 54)), .g 51 false (.bi 56 .gtr (.t 55) (.i 0)), .g 46 true (.pk 57 (.t 51) (.b true) (.t 56)), .g 46 true (.mv 58 (.t 57)), .g 58 false (.fa 59 (.t 1) 2 3 3), .g 58 false (.fa 60 (.t 59) 0 2 2), .g 58 false (.ld 61 (.t 60) (kL (kR 0))), .g 58 false (.ln 62 false (.t 61)), .g 58 false (.bi 63 .gtr (.t 62) (.i 0)), .g 46 true (.pk 64 (.t 58) (.b true) (.t 63)), .g 43 false (.pk 65 (.t 46) (.t 64) (.b false)), .pk 66 (.t 43) (.b true) (.t 65)]) w25_spec_l7Fields) c30_spec_l7Fields
def w22_spec_l7Fields : C := .kp [1, 3] [[1]] c22_spec_l7Fields
def c20_spec_l7Fields : C := .sq (.rg [.fa 30 (.t 1) 2 0 0, .ld 31 (.t 30) kI, .bi 32 .eql (.t 31) (.i 7), .mv 33 (.t 32), .g 33 false (.fa 34 (.t 1) 2 0 0), .g 33 false (.ld 35 (.t 34) kI), .g 33 false (.bi 36 .eql (.t 35) (.i 13)), .pk 37 (.t 33) (.b true) (.t 36), .mv 3 (.t 37)]) w22_spec_l7Fields
def w20_spec_l7Fields : C := .kp [1] [[1]] c20_spec_l7Fields
def c15_spec_l7Fields : C := .cd (.t 29) (.sq (.rg [.mv 2 (.b false)]) .rt) .skip
def w15_spec_l7Fields : C := .kp [1, 29] [[1]] c15_spec_l7Fields
def ir_spec_l7Fields : C := .sq (.rg [.bx 1 (.t 0) (kR 2), .mv 2 (.b false)]) (.sq (.sq (.rg [.fa 5 (.t 1) 2 0 0, .ld 6 (.t 5) kI, .bi 7 .eql (.t 6) (.i 4)]) (.cd (.t 7) (.sq (.rg [.fa 8 (.t 1) 2 1 1, .ld 9 (.t 8) kS, .cv (some 10) 118 [((.t 9), .v kS)], .bi 11 .eql (.t 10) (.i 0)]) (.cd (.t 11) (.sq (.rg [.mv 2 (.b false)]) .rt) .skip)) (.sq (.dr [] [.fa 12 (.t 1) 2 0 0, .ld 13 (.t 12) kI, .cv (some 14) 119 [((.t 13), .v kI)], .fa 15 (.t 1) 2 1 1, .ld 16 (.t 15) kS] [.cv (some 17) 71 [((.t 16), .v kS)], .be 18 true (.t 14) (.t 17), .mv 19 (.t 18), .g 19 false (.fa 20 (.t 1) 2 0 0), .g 19 false (.ld 21 (.t 20) kI), .g 19 false (.cv (some 22) 119 [((.t 21), .v kI)]), .g 19 false (.un 23 .not (.t 22)), .g 19 false (.mv 24 (.t 23)), .g 24 true (.fa 25 (.t 1) 2 1 1), .g 24 true (.ld 26 (.t 25) kS), .g 24 true (.bi 27 .neq (.t 26) (.s [])), .g 19 false (.pk 28 (.t 24) (.t 27) (.b false)), .pk 29 (.t 19) (.b true) (.t 28)]) w15_spec_l7Fields))) w20_spec_l7Fields)
noncomputable abbrev T_spec_l7Fields (nf : Nat) : XT := [e_spec_OpArity nf, e_spec_l7Named nf, e_spec_IsName nf, e_spec_IsValidType nf, e_spec_l3Labels nf, e_spec_l1In nf]
noncomputable def m_spec_l7Fields (nf : Nat) (e : Tm) : Option (Bool) := runF (T_spec_l7Fields nf) nf [.v (kR 2)] [.t 2 (.v .bool)] ir_spec_l7Fields (e, ())
noncomputable def X_spec_l7Fields {R : Type} (nf : Nat) : C → Env → (Xt → Env → Option R) → Option R := xc (R := R) (T_spec_l7Fields nf).S nf
noncomputable def j15_spec_l7Fields (nf : Nat) (e : Tm) (x29_15 : Bool) : Option (Bool) := X_spec_l7Fields nf c15_spec_l7Fields ⟨[(1, .pt [1] 0), (29, .v .bool x29_15)], [([1], .box [.v kI e.kind, .v kS e.name, .v kI e.n, .v kI e.type.kind, .v (kL kS) e.type.labels, .v (kL (kR 0)) e.type.args, .v (kL kS) e.labels, .v (kL (kR 2)) e.args])]⟩ (qS (X_spec_l7Fields nf w20_spec_l7Fields) (KF [.t 2 (.v .bool)]))
noncomputable def j25_spec_l7Fields (nf : Nat) (e : Tm) (x66_25 : Bool) : Option (Bool) := X_spec_l7Fields nf c25_spec_l7Fields ⟨[(1, .pt [1] 0), (66, .v .bool x66_25)], [([1], .box [.v kI e.kind, .v kS e.name, .v kI e.n, .v kI e.type.kind, .v (kL kS) e.type.labels, .v (kL (kR 0)) e.type.args, .v (kL kS) e.labels, .v (kL (kR 2)) e.args])]⟩ (qS (X_spec_l7Fields nf c30_spec_l7Fields) (KF [.t 2 (.v .bool)]))
noncomputable def j33_spec_l7Fields (nf : Nat) (e : Tm) (x86_33 : Bool) : Option (Bool) := X_spec_l7Fields nf c33_spec_l7Fields ⟨[(1, .pt [1] 0), (86, .v .bool x86_33)], [([1], .box [.v kI e.kind, .v kS e.name, .v kI e.n, .v kI e.type.kind, .v (kL kS) e.type.labels, .v (kL (kR 0)) e.type.args, .v (kL kS) e.labels, .v (kL (kR 2)) e.args])]⟩ (qS (X_spec_l7Fields nf c38_spec_l7Fields) (KF [.t 2 (.v .bool)]))
noncomputable def j53_spec_l7Fields (nf : Nat) (e : Tm) (x4_53 : Int) : Option (Bool) := X_spec_l7Fields nf c53_spec_l7Fields ⟨[(1, .pt [1] 0), (4, .v kI x4_53)], [([1], .box [.v kI e.kind, .v kS e.name, .v kI e.n, .v kI e.type.kind, .v (kL kS) e.type.labels, .v (kL (kR 0)) e.type.args, .v (kL kS) e.labels, .v (kL (kR 2)) e.args])]⟩ (KF [.t 2 (.v .bool)])
noncomputable def j22_spec_l7Fields (nf : Nat) (e : Tm) (x3_22 : Bool) : Option (Bool) := X_spec_l7Fields nf c22_spec_l7Fields ⟨[(1, .pt [1] 0), (3, .v .bool x3_22)], [([1], .box [.v kI e.kind, .v kS e.name, .v kI e.n, .v kI e.type.kind, .v (kL kS) e.type.labels, .v (kL (kR 0)) e.type.args, .v (kL kS) e.labels, .v (kL (kR 2)) e.args])]⟩ (KF [.t 2 (.v .bool)])
noncomputable def j20_spec_l7Fields (nf : Nat) (e : Tm) : Option (Bool) := X_spec_l7Fields nf c20_spec_l7Fields ⟨[(1, .pt [1] 0)], [([1], .box [.v kI e.kind, .v kS e.name, .v kI e.n, .v kI e.type.kind, .v (kL kS) e.type.labels, .v (kL (kR 0)) e.type.args, .v (kL kS) e.labels, .v (kL (kR 2)) e.args])]⟩ (KF [.t 2 (.v .bool)])
theorem j15_spec_l7Fields_eq (nf : Nat) (e : Tm) (x29_15 : Bool) : j15_spec_l7Fields nf e x29_15 = (
  br x29_15 (
    some false) (
    mark (j20_spec_l7Fields nf e))) := by
  unfold j15_spec_l7Fields j20_spec_l7Fields c15_spec_l7Fields w20_spec_l7Fields
  generalize c20_spec_l7Fields = x0
  revert x0
  refine id ?_
  intro x0
  kernel_rfl
theorem j25_spec_l7Fields_eq (nf : Nat) (e : Tm) (x66_25 : Bool) : j25_spec_l7Fields nf e x66_25 = (
  br x66_25 (
    some false) (
    br ((e.kind == (5 : Int)) == true) (
      cb (m_spec_l3Labels nf e.labels) fun r73 =>
        br ((!r73) == false) (
          br ((!(e.kind == (5 : Int))) == true) (
            mark (j33_spec_l7Fields nf e (decide ((0 : Int) < (List.length e.labels : Int))))) (
            mark (j33_spec_l7Fields nf e false))) (
          mark (j33_spec_l7Fields nf e true))) (
      br ((!(e.kind == (5 : Int))) == true) (
        mark (j33_spec_l7Fields nf e (decide ((0 : Int) < (List.length e.labels : Int))))) (
        mark (j33_spec_l7Fields nf e false))))) := by
  unfold j25_spec_l7Fields j33_spec_l7Fields c25_spec_l7Fields c30_spec_l7Fields w33_spec_l7Fields c38_spec_l7Fields w53_spec_l7Fields
  generalize c33_spec_l7Fields = x0
  generalize c53_spec_l7Fields = x1
  revert x0 x1
  refine id ?_
  intro x0 x1
  kernel_rfl
theorem j33_spec_l7Fields_eq (nf : Nat) (e : Tm) (x86_33 : Bool) : j33_spec_l7Fields nf e x86_33 = (
  br x86_33 (
    some false) (
    br (e.kind == (2 : Int)) (
      mark (j53_spec_l7Fields nf e (999 : Int))) (
      br (e.kind == (3 : Int)) (
        mark (j53_spec_l7Fields nf e (1 : Int))) (
        mark (j53_spec_l7Fields nf e (0 : Int)))))) := by
  unfold j33_spec_l7Fields j53_spec_l7Fields c33_spec_l7Fields c38_spec_l7Fields w53_spec_l7Fields
  generalize c53_spec_l7Fields = x0
  revert x0
  refine id ?_
  intro x0
  kernel_rfl
theorem j53_spec_l7Fields_eq (nf : Nat) (e : Tm) (x4_53 : Int) : j53_spec_l7Fields nf e x4_53 = (
  cb (m_spec_l1In nf e.n (0 : Int) x4_53) fun r96 =>
    some r96) := by kernel_rfl
theorem j22_spec_l7Fields_eq (nf : Nat) (e : Tm) (x3_22 : Bool) : j22_spec_l7Fields nf e x3_22 = (
  cb (m_spec_IsValidType nf (Ty.h e.type)) fun r41 =>
    br ((!(x3_22 == r41)) == false) (
      br ((!x3_22) == true) (
        br ((!(e.type.kind == (0 : Int))) == false) (
          br ((decide ((0 : Int) < (List.length e.type.labels : Int))) == false) (
            mark (j25_spec_l7Fields nf e (decide ((0 : Int) < (List.length e.type.args : Int))))) (
            mark (j25_spec_l7Fields nf e true))) (
          mark (j25_spec_l7Fields nf e true))) (
        mark (j25_spec_l7Fields nf e false))) (
      mark (j25_spec_l7Fields nf e true))) := by
  unfold j22_spec_l7Fields j25_spec_l7Fields c22_spec_l7Fields w25_spec_l7Fields c30_spec_l7Fields w33_spec_l7Fields c38_spec_l7Fields w53_spec_l7Fields
  generalize c25_spec_l7Fields = x0
  generalize c33_spec_l7Fields = x1
  generalize c53_spec_l7Fields = x2
  revert x0 x1 x2
  refine id ?_
  intro x0 x1 x2
  kernel_rfl
theorem j20_spec_l7Fields_eq (nf : Nat) (e : Tm) : j20_spec_l7Fields nf e = (
  br ((e.kind == (7 : Int)) == false) (
    mark (j22_spec_l7Fields nf e (e.kind == (13 : Int)))) (
    mark (j22_spec_l7Fields nf e true))) := by
  unfold j20_spec_l7Fields j22_spec_l7Fields c20_spec_l7Fields w22_spec_l7Fields
  generalize c22_spec_l7Fields = x0
  revert x0
  refine id ?_
  intro x0
  kernel_rfl
theorem m_spec_l7Fields_eq (nf : Nat) (e : Tm) : m_spec_l7Fields nf e = (
  br (e.kind == (4 : Int)) (
    cb (m_spec_OpArity nf e.name) fun r10 =>
      br (r10 == (0 : Int)) (
        some false) (
        mark (j20_spec_l7Fields nf e))) (
    cb (m_spec_l7Named nf e.kind) fun r14 =>
      cb (m_spec_IsName nf e.name) fun r17 =>
        br ((!(r14 == r17)) == false) (
          cb (m_spec_l7Named nf e.kind) fun r22 =>
            br ((!r22) == true) (
              mark (j15_spec_l7Fields nf e (!(e.name == ([] : Str))))) (
              mark (j15_spec_l7Fields nf e false))) (
          mark (j15_spec_l7Fields nf e true)))) := by
  unfold m_spec_l7Fields j20_spec_l7Fields j15_spec_l7Fields ir_spec_l7Fields w15_spec_l7Fields w20_spec_l7Fields
  generalize c15_spec_l7Fields = x0
  generalize c20_spec_l7Fields = x1
  revert x0 x1
  refine id ?_
  intro x0 x1
  kernel_rfl
noncomputable def e_spec_l7Fields (nf : Nat) : XE := eF 95 [.v (kR 2)] [.v .bool] (fun t => m_spec_l7Fields nf t.1)
theorem o_spec_l7Fields (nf : Nat) : conOK Tryz.prog 95 (e_spec_l7Fields nf).con := by
  have ih : XT.ok Tryz.prog (T_spec_l7Fields nf) := by exact ⟨o_spec_OpArity nf, o_spec_l7Named nf, o_spec_IsName nf, o_spec_IsValidType nf, o_spec_l3Labels nf, o_spec_l1In nf, trivial⟩
  refine eF_ok fun t x h => ?_
  obtain ⟨e, _⟩ := t
  exact runF_ok (N := 97) ih Tryz.func95 (by kernel_rfl) rfl h
def c83_spec_l7Arity : C := .sq (.rg [.mv 2 (.i (-1))]) .rt
def c72_spec_l7Arity : C := .cd (.t 27) (.sq (.rg [.mv 2 (.i 2)]) .rt) (.sq (.rg [.bi 32 .eql (.t 4) (.i 11), .mv 31 (.t 32)]) (.cd (.t 31) (.sq (.rg [.mv 2 (.i 3)]) .rt) .skip))
def w72_spec_l7Arity : C := .kp [4, 27] [] c72_spec_l7Arity
def c58_spec_l7Arity : C := .cd (.t 21) (.sq (.rg [.mv 2 (.i 1)]) .rt) (.sq (.sq (.rg [.bi 28 .eql (.t 4) (.i 9), .mv 27 (.t 28)]) (.cd (.t 27) .skip (.sq (.rg [.bi 29 .eql (.t 4) (.i 10), .mv 27 (.t 29)]) (.cd (.t 27) .skip (.rg [.bi 30 .eql (.t 4) (.i 14), .mv 27 (.t 30)]))))) w72_spec_l7Arity)
def w58_spec_l7Arity : C := .kp [4, 21] [] c58_spec_l7Arity
def c24_spec_l7Arity : C := .cd (.t 5) (.sq (.rg [.mv 2 (.i 0)]) .rt) (.sq (.rg [.bi 12 .eql (.t 4) (.i 4), .mv 11 (.t 12)]) (.cd (.t 11) (.sq (.rg [.fa 13 (.t 1) 2 1 1, .ld 14 (.t 13) kS, .cv (some 15) 118 [((.t 14), .v kS)], .mv 2 (.t 15)]) .rt) (.sq (.rg [.bi 17 .eql (.t 4) (.i 5), .mv 16 (.t 17)]) (.cd (.t 16) (.sq (.rg [.fa 18 (.t 1) 2 4 6, .ld 19 (.t 18) (kL kS), .ln 20 false (.t 19), .mv 2 (.t 20)]) .rt) (.sq (.sq (.rg [.bi 22 .eql (.t 4) (.i 6), .mv 21 (.t 22)]) (.cd (.t 21) .skip (.sq (.rg [.bi 23 .eql (.t 4) (.i 8), .mv 21 (.t 23)]) (.cd (.t 21) .skip (.sq (.rg [.bi 24 .eql (.t 4) (.i 13), .mv 21 (.t 24)]) (.cd (.t 21) .skip (.sq (.rg [.bi 25 .eql (.t 4) (.i 15), .mv 21 (.t 25)]) (.cd (.t 21) .skip (.rg [.bi 26 .eql (.t 4) (.i 16), .mv 21 (.t 26)]))))))))) w58_spec_l7Arity)))))
def w24_spec_l7Arity : C := .kp [1, 4, 5] [[1]] c24_spec_l7Arity
def ir_spec_l7Arity : C := .sq (.rg [.bx 1 (.t 0) (kR 2), .mv 2 (.i 0)]) (.sq (.sq (.rg [.fa 3 (.t 1) 2 0 0, .ld 4 (.t 3) kI]) (.bk 0 (.sq (.sq (.rg [.bi 6 .eql (.t 4) (.i 1), .mv 5 (.t 6)]) (.cd (.t 5) .skip (.sq (.rg [.bi 7 .eql (.t 4) (.i 2), .mv 5 (.t 7)]) (.cd (.t 5) .skip (.sq (.rg [.bi 8 .eql (.t 4) (.i 3), .mv 5 (.t 8)]) (.cd (.t 5) .skip (.sq (.rg [.bi 9 .eql (.t 4) (.i 7), .mv 5 (.t 9)]) (.cd (.t 5) .skip (.rg [.bi 10 .eql (.t 4) (.i 12), .mv 5 (.t 10)]))))))))) w24_spec_l7Arity))) c83_spec_l7Arity)
noncomputable abbrev T_spec_l7Arity (nf : Nat) : XT := [e_spec_OpArity nf]
noncomputable def m_spec_l7Arity (nf : Nat) (e : Tm) : Option (Int) := runF (T_spec_l7Arity nf) nf [.v (kR 2)] [.t 2 (.v kI)] ir_spec_l7Arity (e, ())
noncomputable def X_spec_l7Arity {R : Type} (nf : Nat) : C → Env → (Xt → Env → Option R) → Option R := xc (R := R) (T_spec_l7Arity nf).S nf
noncomputable def j72_spec_l7Arity (nf : Nat) (e : Tm) (x27_72 : Bool) : Option (Int) := X_spec_l7Arity nf c72_spec_l7Arity ⟨[(4, .v kI e.kind), (27, .v .bool x27_72)], []⟩ (qB 0 (qS (X_spec_l7Arity nf c83_spec_l7Arity) (KF [.t 2 (.v kI)])))
noncomputable def j58_spec_l7Arity (nf : Nat) (e : Tm) (x21_58 : Bool) : Option (Int) := X_spec_l7Arity nf c58_spec_l7Arity ⟨[(4, .v kI e.kind), (21, .v .bool x21_58)], []⟩ (qB 0 (qS (X_spec_l7Arity nf c83_spec_l7Arity) (KF [.t 2 (.v kI)])))
noncomputable def j24_spec_l7Arity (nf : Nat) (e : Tm) (x5_24 : Bool) : Option (Int) := X_spec_l7Arity nf c24_spec_l7Arity ⟨[(1, .pt [1] 0), (4, .v kI e.kind), (5, .v .bool x5_24)], [([1], .box [.v kI e.kind, .v kS e.name, .v kI e.n, .v kI e.type.kind, .v (kL kS) e.type.labels, .v (kL (kR 0)) e.type.args, .v (kL kS) e.labels, .v (kL (kR 2)) e.args])]⟩ (qB 0 (qS (X_spec_l7Arity nf c83_spec_l7Arity) (KF [.t 2 (.v kI)])))
theorem j72_spec_l7Arity_eq (nf : Nat) (e : Tm) (x27_72 : Bool) : j72_spec_l7Arity nf e x27_72 = (
  br x27_72 (
    some (2 : Int)) (
    br (e.kind == (11 : Int)) (
      some (3 : Int)) (
      some (-1 : Int)))) := by kernel_rfl
theorem j58_spec_l7Arity_eq (nf : Nat) (e : Tm) (x21_58 : Bool) : j58_spec_l7Arity nf e x21_58 = (
  br x21_58 (
    some (1 : Int)) (
    br (e.kind == (9 : Int)) (
      mark (j72_spec_l7Arity nf e (e.kind == (9 : Int)))) (
      br (e.kind == (10 : Int)) (
        mark (j72_spec_l7Arity nf e (e.kind == (10 : Int)))) (
        mark (j72_spec_l7Arity nf e (e.kind == (14 : Int))))))) := by
  unfold j58_spec_l7Arity j72_spec_l7Arity c58_spec_l7Arity c83_spec_l7Arity w72_spec_l7Arity
  generalize c72_spec_l7Arity = x0
  revert x0
  refine id ?_
  intro x0
  kernel_rfl
theorem j24_spec_l7Arity_eq (nf : Nat) (e : Tm) (x5_24 : Bool) : j24_spec_l7Arity nf e x5_24 = (
  br x5_24 (
    some (0 : Int)) (
    br (e.kind == (4 : Int)) (
      cb (m_spec_OpArity nf e.name) fun r15 =>
        some r15) (
      br (e.kind == (5 : Int)) (
        some (List.length e.labels : Int)) (
        br (e.kind == (6 : Int)) (
          mark (j58_spec_l7Arity nf e (e.kind == (6 : Int)))) (
          br (e.kind == (8 : Int)) (
            mark (j58_spec_l7Arity nf e (e.kind == (8 : Int)))) (
            br (e.kind == (13 : Int)) (
              mark (j58_spec_l7Arity nf e (e.kind == (13 : Int)))) (
              br (e.kind == (15 : Int)) (
                mark (j58_spec_l7Arity nf e (e.kind == (15 : Int)))) (
                mark (j58_spec_l7Arity nf e (e.kind == (16 : Int))))))))))) := by
  unfold j24_spec_l7Arity j58_spec_l7Arity c24_spec_l7Arity c83_spec_l7Arity w58_spec_l7Arity
  generalize c58_spec_l7Arity = x0
  revert x0
  refine id ?_
  intro x0
  kernel_rfl
theorem m_spec_l7Arity_eq (nf : Nat) (e : Tm) : m_spec_l7Arity nf e = (
  br (e.kind == (1 : Int)) (
    mark (j24_spec_l7Arity nf e (e.kind == (1 : Int)))) (
    br (e.kind == (2 : Int)) (
      mark (j24_spec_l7Arity nf e (e.kind == (2 : Int)))) (
      br (e.kind == (3 : Int)) (
        mark (j24_spec_l7Arity nf e (e.kind == (3 : Int)))) (
        br (e.kind == (7 : Int)) (
          mark (j24_spec_l7Arity nf e (e.kind == (7 : Int)))) (
          mark (j24_spec_l7Arity nf e (e.kind == (12 : Int)))))))) := by
  unfold m_spec_l7Arity j24_spec_l7Arity ir_spec_l7Arity w24_spec_l7Arity c83_spec_l7Arity
  generalize c24_spec_l7Arity = x0
  revert x0
  refine id ?_
  intro x0
  kernel_rfl
noncomputable def e_spec_l7Arity (nf : Nat) : XE := eF 96 [.v (kR 2)] [.v kI] (fun t => m_spec_l7Arity nf t.1)
theorem o_spec_l7Arity (nf : Nat) : conOK Tryz.prog 96 (e_spec_l7Arity nf).con := by
  have ih : XT.ok Tryz.prog (T_spec_l7Arity nf) := by exact ⟨o_spec_OpArity nf, trivial⟩
  refine eF_ok fun t x h => ?_
  obtain ⟨e, _⟩ := t
  exact runF_ok (N := 33) ih Tryz.func96 (by kernel_rfl) rfl h
def c23_spec_l7Form : C := .sq (.dr [] [.ld 18 (.t 1) (kR 2), .cv (some 19) 95 [((.t 18), .v (kR 2))], .mv 20 (.t 19), .g 20 true (.fa 21 (.t 1) 2 5 7), .g 20 true (.ld 22 (.t 21) (kL (kR 2))), .g 20 true (.ln 23 false (.t 22)), .g 20 true (.ld 24 (.t 1) (kR 2)), .g 20 true (.cv (some 25) 96 [((.t 24), .v (kR 2))])] [.g 20 true (.bi 26 .eql (.t 23) (.t 25)), .pk 27 (.t 20) (.t 26) (.b false), .mv 2 (.t 27)]) .rt
def w23_spec_l7Form : C := .kp [1] [[1]] c23_spec_l7Form
def c7_spec_l7Form : C := .sq (.sq (.rg [.mv 4 (.t 3), .fa 5 (.t 1) 2 5 7, .ld 6 (.t 5) (kL (kR 2)), .ln 7 false (.t 6), .bi 8 .lss (.t 4) (.t 7)]) (.cd (.t 8) .skip (.ex 0))) (.sq (.bk 1 (.sq (.rg [.fa 11 (.t 1) 2 5 7, .ld 12 (.t 11) (kL (kR 2)), .mv 13 (.t 3), .ia 14 (.t 12) (.t 13) (kR 2), .ld 15 (.t 14) (kR 2), .cv (some 16) 76 [((.t 15), .v (kR 2))], .un 17 .not (.t 16)]) (.cd (.t 17) (.sq (.rg [.mv 2 (.b false)]) .rt) .skip))) (.rg [.mv 9 (.t 3), .bi 10 .add (.t 9) (.i 1), .mv 3 (.t 10)]))
def ir_spec_l7Form : C := .sq (.rg [.bx 1 (.t 0) (kR 2), .mv 2 (.b false)]) (.sq (.sq (.rg [.mv 3 (.i 0)]) (.bk 0 (.lk [1, 3] [[1]] c7_spec_l7Form))) w23_spec_l7Form)
noncomputable def B_spec_l7Form (nf : Nat) : XT := [e_spec_l7Fields nf, e_spec_l7Arity nf]
noncomputable def G_spec_l7Form (nf : Nat) : Nat → XT
  | 0 => []
  | kf + 1 => [eF 76 [.v (kR 2)] [.v .bool] (fun t => (fun (e : Tm) => runF (G_spec_l7Form nf kf ++ B_spec_l7Form nf) nf [.v (kR 2)] [.t 2 (.v .bool)] ir_spec_l7Form (e, ())) t.1)]
noncomputable abbrev T_spec_l7Form (nf kf : Nat) : XT := G_spec_l7Form nf kf ++ B_spec_l7Form nf
noncomputable def m_spec_l7Form (nf kf : Nat) (e : Tm) : Option (Bool) := runF (T_spec_l7Form nf kf) nf [.v (kR 2)] [.t 2 (.v .bool)] ir_spec_l7Form (e, ())
noncomputable def X_spec_l7Form {R : Type} (nf kf : Nat) : C → Env → (Xt → Env → Option R) → Option R := xc (R := R) (T_spec_l7Form nf kf).S nf
noncomputable def l6_spec_l7Form (nf kf : Nat) (m6 : Nat) (e : Tm) (x3_6 : Int) : Option (Bool) := xit [1, 3] [[1]] (X_spec_l7Form nf kf c7_spec_l7Form) (qB 0 (qS (X_spec_l7Form nf kf w23_spec_l7Form) (KF [.t 2 (.v .bool)]))) m6 ⟨[(1, .pt [1] 0), (3, .v kI x3_6)], [([1], .box [.v kI e.kind, .v kS e.name, .v kI e.n, .v kI e.type.kind, .v (kL kS) e.type.labels, .v (kL (kR 0)) e.type.args, .v (kL kS) e.labels, .v (kL (kR 2)) e.args])]⟩
noncomputable def j23_spec_l7Form (nf kf : Nat) (e : Tm) : Option (Bool) := X_spec_l7Form nf kf c23_spec_l7Form ⟨[(1, .pt [1] 0)], [([1], .box [.v kI e.kind, .v kS e.name, .v kI e.n, .v kI e.type.kind, .v (kL kS) e.type.labels, .v (kL (kR 0)) e.type.args, .v (kL kS) e.labels, .v (kL (kR 2)) e.args])]⟩ (KF [.t 2 (.v .bool)])
theorem l6_spec_l7Form_eq (nf kf : Nat) (m6 : Nat) (e : Tm) (x3_6 : Int) : l6_spec_l7Form nf (kf + 1) (m6 + 1) e x3_6 = (
  br (decide (x3_6 < (List.length e.args : Int))) (
    gg (0 ≤ x3_6 ∧ x3_6 < (List.length e.args : Int)) <|
      cb (m_spec_l7Form nf kf (gt e.args x3_6 Tm.zero)) fun r16 =>
        br (!r16) (
          some false) (
          mark (l6_spec_l7Form nf (kf + 1) m6 e (w64 (x3_6 + (1 : Int)))))) (
    mark (j23_spec_l7Form nf (kf + 1) e))) := by
  unfold l6_spec_l7Form j23_spec_l7Form c7_spec_l7Form w23_spec_l7Form
  generalize c23_spec_l7Form = x0
  revert x0
  refine id ?_
  intro x0
  kernel_rfl
theorem j23_spec_l7Form_eq (nf kf : Nat) (e : Tm) : j23_spec_l7Form nf (kf + 1) e = (
  cb (m_spec_l7Fields nf (Tm.h e)) fun r19 =>
    br (r19 == true) (
      cb (m_spec_l7Arity nf (Tm.h e)) fun r25 =>
        some ((List.length e.args : Int) == r25)) (
      some false)) := by kernel_rfl
theorem m_spec_l7Form_eq (nf kf : Nat) (e : Tm) : m_spec_l7Form nf (kf + 1) e = (
  mark (l6_spec_l7Form nf (kf + 1) nf e (0 : Int))) := by
  unfold m_spec_l7Form l6_spec_l7Form ir_spec_l7Form w23_spec_l7Form
  generalize c23_spec_l7Form = x0
  revert x0
  refine id ?_
  intro x0
  kernel_rfl
noncomputable def e_spec_l7Form (nf : Nat) : XE := eF 76 [.v (kR 2)] [.v .bool] (fun t => m_spec_l7Form nf nf t.1)
theorem gok_spec_l7Form (nf : Nat) : ∀ kf : Nat, XT.ok Tryz.prog (G_spec_l7Form nf kf ++ B_spec_l7Form nf)
  | 0 => by exact ⟨o_spec_l7Fields nf, o_spec_l7Arity nf, trivial⟩
  | kf + 1 => by
    have ih := gok_spec_l7Form nf kf
    refine ⟨?_, (by exact ⟨o_spec_l7Fields nf, o_spec_l7Arity nf, trivial⟩)⟩
    · refine eF_ok fun t x h => ?_
      obtain ⟨e, _⟩ := t
      exact runF_ok (N := 28) ih Tryz.func76 (by kernel_rfl) rfl h
theorem o_spec_l7Form (nf : Nat) : conOK Tryz.prog 76 (e_spec_l7Form nf).con := by
  have ih := gok_spec_l7Form nf nf
  refine eF_ok fun t x h => ?_
  obtain ⟨e, _⟩ := t
  exact runF_ok (N := 28) ih Tryz.func76 (by kernel_rfl) rfl h
def ir_spec_IsValidTerm : C := .sq (.rg [.bx 1 (.t 0) (kR 2), .mv 2 (.b false)]) (.sq (.rg [.ld 3 (.t 1) (kR 2), .cv (some 4) 74 [((.t 3), .v (kR 2)), ((.i 60), .v kI)], .bi 5 .geq (.t 4) (.i 0), .mv 6 (.t 5), .g 6 true (.ld 7 (.t 1) (kR 2)), .g 6 true (.cv (some 8) 75 [((.t 7), .v (kR 2))]), .g 6 true (.bi 9 .leq (.t 8) (.i 16)), .pk 10 (.t 6) (.t 9) (.b false), .mv 11 (.t 10), .g 11 true (.ld 12 (.t 1) (kR 2)), .g 11 true (.cv (some 13) 76 [((.t 12), .v (kR 2))]), .pk 14 (.t 11) (.t 13) (.b false), .mv 2 (.t 14)]) .rt)
noncomputable abbrev T_spec_IsValidTerm (nf : Nat) : XT := [e_spec_l7Left nf, e_spec_DepthOfTerm nf, e_spec_l7Form nf]
noncomputable def m_spec_IsValidTerm (nf : Nat) (e : Tm) : Option (Bool) := runF (T_spec_IsValidTerm nf) nf [.v (kR 2)] [.t 2 (.v .bool)] ir_spec_IsValidTerm (e, ())
theorem m_spec_IsValidTerm_eq (nf : Nat) (e : Tm) : m_spec_IsValidTerm nf e = (
  cb (m_spec_l7Left nf nf (Tm.h e) (60 : Int)) fun r4 =>
    br ((decide ((0 : Int) ≤ r4)) == true) (
      cb (m_spec_DepthOfTerm nf nf (Tm.h e)) fun r8 =>
        br ((decide (r8 ≤ (16 : Int))) == true) (
          cb (m_spec_l7Form nf nf (Tm.h e)) fun r13 =>
            some r13) (
          some false)) (
      some false)) := by kernel_rfl
noncomputable def e_spec_IsValidTerm (nf : Nat) : XE := eF 45 [.v (kR 2)] [.v .bool] (fun t => m_spec_IsValidTerm nf t.1)
theorem o_spec_IsValidTerm (nf : Nat) : conOK Tryz.prog 45 (e_spec_IsValidTerm nf).con := by
  have ih : XT.ok Tryz.prog (T_spec_IsValidTerm nf) := by exact ⟨o_spec_l7Left nf, o_spec_DepthOfTerm nf, o_spec_l7Form nf, trivial⟩
  refine eF_ok fun t x h => ?_
  obtain ⟨e, _⟩ := t
  exact runF_ok (N := 15) ih Tryz.func45 (by kernel_rfl) rfl h
def ir_spec_l10With : C := .sq (.rg [.bx 5 (.t 2) (kR 0), .mv 6 (.nl (kR 8))]) (.sq (.rg [.bs 8 false (kR 8) [], .mv 9 (.t 0), .an 10 false (kR 8) (.t 8) (.t 9), .mv 7 (.t 10)]) (.sq (.rg [.mv 11 (.t 7), .mv 12 (.t 1), .ld 13 (.t 5) (kR 0), .bd 14 8 [(0, 1, (.t 12)), (1, 3, (.t 13))], .bs 15 false (kR 8) [(.t 14)], .ap 16 [6] false (kR 8) (.t 11) (.t 15), .mv 6 (.t 16)]) .rt))
noncomputable abbrev T_spec_l10With (nf : Nat) : XT := []
noncomputable def m_spec_l10With (nf : Nat) (ctx : List Typing) (name : Str) (t : Ty) : Option (List Typing) := runF (T_spec_l10With nf) nf [.v (kL (kR 8)), .v kS, .v (kR 0)] [.t 6 (.v (kL (kR 8)))] ir_spec_l10With (ctx, name, t, ())
theorem m_spec_l10With_eq (nf : Nat) (ctx : List Typing) (name : Str) (t : Ty) : m_spec_l10With nf ctx name t = (
  gg (List.length ctx ≤ 33554432) <|
    gg (List.length ctx + List.length ([(Typing.mk name (Ty.h t))] : List Typing) ≤ 33554432) <|
      some (ctx ++ ([(Typing.mk name (Ty.h t))] : List Typing))) := by kernel_rfl
noncomputable def e_spec_l10With (nf : Nat) : XE := eF 120 [.v (kL (kR 8)), .v kS, .v (kR 0)] [.v (kL (kR 8))] (fun t => m_spec_l10With nf t.1 t.2.1 t.2.2.1)
theorem o_spec_l10With (nf : Nat) : conOK Tryz.prog 120 (e_spec_l10With nf).con := by
  have ih : XT.ok Tryz.prog (T_spec_l10With nf) := by exact trivial
  refine eF_ok fun t x h => ?_
  obtain ⟨ctx, name, t, _⟩ := t
  exact runF_ok (N := 17) ih Tryz.func120 (by kernel_rfl) rfl h
def ir_spec_l3Int : C := .sq (.rg [.al 0 (kR 0)]) (.sq (.rg [.bd 1 0 [(0, 1, (.i 1))], .st (.t 0) (.t 1) (kR 0)]) .rt)
noncomputable abbrev T_spec_l3Int (nf : Nat) : XT := []
noncomputable def m_spec_l3Int (nf : Nat) : Option (Ty) := runF (T_spec_l3Int nf) nf [] [.c 0 (.v (kR 0))] ir_spec_l3Int (())
theorem m_spec_l3Int_eq (nf : Nat) : m_spec_l3Int nf = (
  some (Ty.mk (1 : Int) ([] : List Str) ([] : List Ty))) := by kernel_rfl
noncomputable def e_spec_l3Int (nf : Nat) : XE := eF 123 [] [.v (kR 0)] (fun t => m_spec_l3Int nf )
theorem o_spec_l3Int (nf : Nat) : conOK Tryz.prog 123 (e_spec_l3Int nf).con := by
  have ih : XT.ok Tryz.prog (T_spec_l3Int nf) := by exact trivial
  refine eF_ok fun t x h => ?_
  exact runF_ok (N := 2) ih Tryz.func123 (by kernel_rfl) rfl h
def ir_spec_l3Bool : C := .sq (.rg [.al 0 (kR 0)]) (.sq (.rg [.bd 1 0 [(0, 1, (.i 2))], .st (.t 0) (.t 1) (kR 0)]) .rt)
noncomputable abbrev T_spec_l3Bool (nf : Nat) : XT := []
noncomputable def m_spec_l3Bool (nf : Nat) : Option (Ty) := runF (T_spec_l3Bool nf) nf [] [.c 0 (.v (kR 0))] ir_spec_l3Bool (())
theorem m_spec_l3Bool_eq (nf : Nat) : m_spec_l3Bool nf = (
  some (Ty.mk (2 : Int) ([] : List Str) ([] : List Ty))) := by kernel_rfl
noncomputable def e_spec_l3Bool (nf : Nat) : XE := eF 124 [] [.v (kR 0)] (fun t => m_spec_l3Bool nf )
theorem o_spec_l3Bool (nf : Nat) : conOK Tryz.prog 124 (e_spec_l3Bool nf).con := by
  have ih : XT.ok Tryz.prog (T_spec_l3Bool nf) := by exact trivial
  refine eF_ok fun t x h => ?_
  exact runF_ok (N := 2) ih Tryz.func124 (by kernel_rfl) rfl h
def ir_spec_l3Fun : C := .sq (.rg [.bx 2 (.t 0) (kR 0), .bx 3 (.t 1) (kR 0), .al 4 (kR 0)]) (.sq (.dr [] [.ld 5 (.t 2) (kR 0), .cv (some 6) 131 [((.t 5), .v (kR 0))], .ld 7 (.t 3) (kR 0)] [.cv (some 8) 131 [((.t 7), .v (kR 0))], .bs 9 false (kR 0) [(.t 6), (.t 8)], .bd 10 0 [(0, 1, (.i 5)), (2, 1, (.t 9))], .st (.t 4) (.t 10) (kR 0)]) .rt)
noncomputable abbrev T_spec_l3Fun (nf : Nat) : XT := [e_spec_l3Copy nf]
noncomputable def m_spec_l3Fun (nf : Nat) (a : Ty) (b : Ty) : Option (Ty) := runF (T_spec_l3Fun nf) nf [.v (kR 0), .v (kR 0)] [.c 4 (.v (kR 0))] ir_spec_l3Fun (a, b, ())
theorem m_spec_l3Fun_eq (nf : Nat) (a : Ty) (b : Ty) : m_spec_l3Fun nf a b = (
  cb (m_spec_l3Copy nf nf (Ty.h a)) fun r6 =>
    cb (m_spec_l3Copy nf nf (Ty.h b)) fun r8 =>
      some (Ty.mk (5 : Int) ([] : List Str) ([r6, r8] : List Ty))) := by kernel_rfl
noncomputable def e_spec_l3Fun (nf : Nat) : XE := eF 121 [.v (kR 0), .v (kR 0)] [.v (kR 0)] (fun t => m_spec_l3Fun nf t.1 t.2.1)
theorem o_spec_l3Fun (nf : Nat) : conOK Tryz.prog 121 (e_spec_l3Fun nf).con := by
  have ih : XT.ok Tryz.prog (T_spec_l3Fun nf) := by exact ⟨o_spec_l3Copy nf, trivial⟩
  refine eF_ok fun t x h => ?_
  obtain ⟨a, b, _⟩ := t
  exact runF_ok (N := 11) ih Tryz.func121 (by kernel_rfl) rfl h
def ir_spec_l3Bag : C := .sq (.rg [.bx 1 (.t 0) (kR 0), .al 2 (kR 0)]) (.sq (.rg [.ld 3 (.t 1) (kR 0), .cv (some 4) 131 [((.t 3), .v (kR 0))], .bs 5 false (kR 0) [(.t 4)], .bd 6 0 [(0, 1, (.i 4)), (2, 1, (.t 5))], .st (.t 2) (.t 6) (kR 0)]) .rt)
noncomputable abbrev T_spec_l3Bag (nf : Nat) : XT := [e_spec_l3Copy nf]
noncomputable def m_spec_l3Bag (nf : Nat) (t : Ty) : Option (Ty) := runF (T_spec_l3Bag nf) nf [.v (kR 0)] [.c 2 (.v (kR 0))] ir_spec_l3Bag (t, ())
theorem m_spec_l3Bag_eq (nf : Nat) (t : Ty) : m_spec_l3Bag nf t = (
  cb (m_spec_l3Copy nf nf (Ty.h t)) fun r4 =>
    some (Ty.mk (4 : Int) ([] : List Str) ([r4] : List Ty))) := by kernel_rfl
noncomputable def e_spec_l3Bag (nf : Nat) : XE := eF 125 [.v (kR 0)] [.v (kR 0)] (fun t => m_spec_l3Bag nf t.1)
theorem o_spec_l3Bag (nf : Nat) : conOK Tryz.prog 125 (e_spec_l3Bag nf).con := by
  have ih : XT.ok Tryz.prog (T_spec_l3Bag nf) := by exact ⟨o_spec_l3Copy nf, trivial⟩
  refine eF_ok fun t x h => ?_
  obtain ⟨t, _⟩ := t
  exact runF_ok (N := 7) ih Tryz.func125 (by kernel_rfl) rfl h
def c19_spec_l3Rec : C := .sq (.rg [.ld 27 (.t 5) (kR 0), .st (.t 4) (.t 27) (kR 0)]) .rt
def c9_spec_l3Rec : C := .sq (.sq (.rg [.mv 11 (.t 6), .mv 12 (.t 1), .ln 13 false (.t 12), .bi 14 .lss (.t 11) (.t 13)]) (.cd (.t 14) .skip (.ex 0))) (.sq (.bk 1 (.dr [24] [.fa 17 (.t 5) 0 2 2, .ld 18 (.t 17) (kL (kR 0)), .mv 19 (.t 1), .mv 20 (.t 6), .ia 21 (.t 19) (.t 20) (kR 0), .ld 22 (.t 21) (kR 0), .cv (some 23) 131 [((.t 22), .v (kR 0))], .bs 24 false (kR 0) [(.t 23)]] [.ap 25 [5, 2] false (kR 0) (.t 18) (.t 24), .fa 26 (.t 5) 0 2 2, .st (.t 26) (.t 25) (kL (kR 0))])) (.rg [.mv 15 (.t 6), .bi 16 .add (.t 15) (.i 1), .mv 6 (.t 16)]))
def ir_spec_l3Rec : C := .sq (.rg [.al 4 (kR 0)]) (.sq (.rg [.bs 7 true kS [], .mv 8 (.t 0), .an 9 true kS (.t 7) (.t 8), .bd 10 0 [(0, 1, (.i 3)), (1, 1, (.t 9))], .al 5 (kR 0), .st (.t 5) (.t 10) (kR 0)]) (.sq (.sq (.rg [.mv 6 (.i 0)]) (.bk 0 (.gb 5 2 false (kR 0) (.lk [1, 4, 5, 6] [[4], [5], [5, 2], [9]] c9_spec_l3Rec)))) c19_spec_l3Rec))
noncomputable abbrev T_spec_l3Rec (nf : Nat) : XT := [e_spec_l3Copy nf]
noncomputable def m_spec_l3Rec (nf : Nat) (labels : List Str) (args : List Ty) : Option (Ty) := runF (T_spec_l3Rec nf) nf [.v (kL kS), .v (kL (kR 0))] [.c 4 (.v (kR 0))] ir_spec_l3Rec (labels, args, ())
noncomputable def X_spec_l3Rec {R : Type} (nf : Nat) : C → Env → (Xt → Env → Option R) → Option R := xc (R := R) (T_spec_l3Rec nf).S nf
noncomputable def l8_spec_l3Rec (nf : Nat) (m8 : Nat) (args : List Ty) (labels : List Str) (x6_8 : Int) (y5_2_8 : List Ty) : Option (Ty) := xit [1, 4, 5, 6] [[4], [5], [5, 2], [9]] (X_spec_l3Rec nf c9_spec_l3Rec) (qB 0 (qS (X_spec_l3Rec nf c19_spec_l3Rec) (KF [.c 4 (.v (kR 0))]))) m8 ⟨[(1, .v (kL (kR 0)) args), (4, .pt [4] 0), (5, .pt [5] 0), (6, .v kI x6_8)], [([4], .box [.v kI (0 : Int), .nl kS, .nl (kR 0)]), ([5], .box [.v kI (3 : Int), .sl [9], .sl [5, 2]]), ([5, 2], .row false false (kR 0) y5_2_8), ([9], .row true false kS labels)]⟩
theorem l8_spec_l3Rec_eq (nf : Nat) (m8 : Nat) (args : List Ty) (labels : List Str) (x6_8 : Int) (y5_2_8 : List Ty) : l8_spec_l3Rec nf (m8 + 1) args labels x6_8 y5_2_8 = (
  br (decide (x6_8 < (List.length args : Int))) (
    gg (0 ≤ x6_8 ∧ x6_8 < (List.length args : Int)) <|
      cb (m_spec_l3Copy nf nf (gt args x6_8 Ty.zero)) fun r23 =>
        gg (List.length y5_2_8 + List.length ([r23] : List Ty) ≤ 33554432) <|
          mark (l8_spec_l3Rec nf m8 args labels (w64 (x6_8 + (1 : Int))) (y5_2_8 ++ ([r23] : List Ty)))) (
    some (Ty.mk (3 : Int) labels y5_2_8))) := by kernel_rfl
theorem m_spec_l3Rec_eq (nf : Nat) (labels : List Str) (args : List Ty) : m_spec_l3Rec nf labels args = (
  gg (List.length labels ≤ 33554432) <|
    mark (l8_spec_l3Rec nf nf args labels (0 : Int) ([] : List Ty))) := by kernel_rfl
noncomputable def e_spec_l3Rec (nf : Nat) : XE := eF 128 [.v (kL kS), .v (kL (kR 0))] [.v (kR 0)] (fun t => m_spec_l3Rec nf t.1 t.2.1)
theorem o_spec_l3Rec (nf : Nat) : conOK Tryz.prog 128 (e_spec_l3Rec nf).con := by
  have ih : XT.ok Tryz.prog (T_spec_l3Rec nf) := by exact ⟨o_spec_l3Copy nf, trivial⟩
  refine eF_ok fun t x h => ?_
  obtain ⟨labels, args, _⟩ := t
  exact runF_ok (N := 28) ih Tryz.func128 (by kernel_rfl) rfl h
def c23_spec_l10Look : C := .sq (.rg [.bd 27 0 [], .st (.t 4) (.t 27) (kR 0), .mv 5 (.b false)]) .rt
def c7_spec_l10Look : C := .sq (.sq (.rg [.mv 10 (.t 6), .bi 11 .geq (.t 10) (.i 0)]) (.cd (.t 11) .skip (.ex 0))) (.sq (.bk 1 (.sq (.rg [.mv 14 (.t 0), .mv 15 (.t 6), .ia 16 (.t 14) (.t 15) (kR 8), .fa 17 (.t 16) 8 0 0, .ld 18 (.t 17) kS, .mv 19 (.t 1), .bi 20 .eql (.t 18) (.t 19)]) (.cd (.t 20) (.sq (.rg [.mv 21 (.t 0), .mv 22 (.t 6), .ia 23 (.t 21) (.t 22) (kR 8), .fa 24 (.t 23) 8 1 1, .ld 25 (.t 24) (kR 0), .cv (some 26) 131 [((.t 25), .v (kR 0))], .st (.t 4) (.t 26) (kR 0), .mv 5 (.b true)]) .rt) .skip))) (.rg [.mv 12 (.t 6), .bi 13 .sub (.t 12) (.i 1), .mv 6 (.t 13)]))
def ir_spec_l10Look : C := .sq (.rg [.al 4 (kR 0), .mv 5 (.b false)]) (.sq (.sq (.rg [.mv 7 (.t 0), .ln 8 false (.t 7), .bi 9 .sub (.t 8) (.i 1), .mv 6 (.t 9)]) (.bk 0 (.lk [0, 1, 4, 6] [[4]] c7_spec_l10Look))) c23_spec_l10Look)
noncomputable abbrev T_spec_l10Look (nf : Nat) : XT := [e_spec_l3Copy nf]
noncomputable def m_spec_l10Look (nf : Nat) (ctx : List Typing) (name : Str) : Option (Ty × Bool) := runF (T_spec_l10Look nf) nf [.v (kL (kR 8)), .v kS] [.c 4 (.v (kR 0)), .t 5 (.v .bool)] ir_spec_l10Look (ctx, name, ())
noncomputable def X_spec_l10Look {R : Type} (nf : Nat) : C → Env → (Xt → Env → Option R) → Option R := xc (R := R) (T_spec_l10Look nf).S nf
noncomputable def l6_spec_l10Look (nf : Nat) (m6 : Nat) (ctx : List Typing) (name : Str) (x6_6 : Int) : Option (Ty × Bool) := xit [0, 1, 4, 6] [[4]] (X_spec_l10Look nf c7_spec_l10Look) (qB 0 (qS (X_spec_l10Look nf c23_spec_l10Look) (KF [.c 4 (.v (kR 0)), .t 5 (.v .bool)]))) m6 ⟨[(0, .v (kL (kR 8)) ctx), (1, .v kS name), (4, .pt [4] 0), (6, .v kI x6_6)], [([4], .box [.v kI (0 : Int), .nl kS, .nl (kR 0)])]⟩
theorem l6_spec_l10Look_eq (nf : Nat) (m6 : Nat) (ctx : List Typing) (name : Str) (x6_6 : Int) : l6_spec_l10Look nf (m6 + 1) ctx name x6_6 = (
  br (decide ((0 : Int) ≤ x6_6)) (
    gg (0 ≤ x6_6 ∧ x6_6 < (List.length ctx : Int)) <|
      br (((gt ctx x6_6 Typing.zero).name) == name) (
        gg (0 ≤ x6_6 ∧ x6_6 < (List.length ctx : Int)) <|
          cb (m_spec_l3Copy nf nf ((gt ctx x6_6 Typing.zero).type)) fun r26 =>
            some ((Ty.h r26), true)) (
        mark (l6_spec_l10Look nf m6 ctx name (w64 (x6_6 - (1 : Int)))))) (
    some ((Ty.mk (0 : Int) ([] : List Str) ([] : List Ty)), false))) := by kernel_rfl
theorem m_spec_l10Look_eq (nf : Nat) (ctx : List Typing) (name : Str) : m_spec_l10Look nf ctx name = (
  mark (l6_spec_l10Look nf nf ctx name (w64 ((List.length ctx : Int) - (1 : Int))))) := by kernel_rfl
noncomputable def e_spec_l10Look (nf : Nat) : XE := eF 122 [.v (kL (kR 8)), .v kS] [.v (kR 0), .v .bool] (fun t => m_spec_l10Look nf t.1 t.2.1)
theorem o_spec_l10Look (nf : Nat) : conOK Tryz.prog 122 (e_spec_l10Look nf).con := by
  have ih : XT.ok Tryz.prog (T_spec_l10Look nf) := by exact ⟨o_spec_l3Copy nf, trivial⟩
  refine eF_ok fun t x h => ?_
  obtain ⟨ctx, name, _⟩ := t
  exact runF_ok (N := 28) ih Tryz.func122 (by kernel_rfl) rfl h
def c23_spec_RowType : C := .sq (.rg [.bd 29 0 [], .st (.t 4) (.t 29) (kR 0), .mv 5 (.b false)]) .rt
def c7_spec_RowType : C := .sq (.sq (.rg [.mv 7 (.t 6), .fa 8 (.t 2) 5 0 0, .ld 9 (.t 8) (kL (kR 4)), .ln 10 false (.t 9), .bi 11 .lss (.t 7) (.t 10)]) (.cd (.t 11) .skip (.ex 0))) (.sq (.bk 1 (.sq (.rg [.fa 14 (.t 2) 5 0 0, .ld 15 (.t 14) (kL (kR 4)), .mv 16 (.t 6), .ia 17 (.t 15) (.t 16) (kR 4), .fa 18 (.t 17) 4 0 0, .ld 19 (.t 18) kS, .mv 20 (.t 1), .bi 21 .eql (.t 19) (.t 20)]) (.cd (.t 21) (.sq (.rg [.fa 22 (.t 2) 5 0 0, .ld 23 (.t 22) (kL (kR 4)), .mv 24 (.t 6), .ia 25 (.t 23) (.t 24) (kR 4), .fa 26 (.t 25) 4 1 1, .ld 27 (.t 26) (kR 0), .cv (some 28) 131 [((.t 27), .v (kR 0))], .st (.t 4) (.t 28) (kR 0), .mv 5 (.b true)]) .rt) .skip))) (.rg [.mv 12 (.t 6), .bi 13 .add (.t 12) (.i 1), .mv 6 (.t 13)]))
def ir_spec_RowType : C := .sq (.rg [.bx 2 (.t 0) (kR 5), .al 4 (kR 0), .mv 5 (.b false)]) (.sq (.sq (.rg [.mv 6 (.i 0)]) (.bk 0 (.lk [1, 2, 4, 6] [[2], [4]] c7_spec_RowType))) c23_spec_RowType)
noncomputable abbrev T_spec_RowType (nf : Nat) : XT := [e_spec_l3Copy nf]
noncomputable def m_spec_RowType (nf : Nat) (s : Schema) (name : Str) : Option (Ty × Bool) := runF (T_spec_RowType nf) nf [.v (kR 5), .v kS] [.c 4 (.v (kR 0)), .t 5 (.v .bool)] ir_spec_RowType (s, name, ())
noncomputable def X_spec_RowType {R : Type} (nf : Nat) : C → Env → (Xt → Env → Option R) → Option R := xc (R := R) (T_spec_RowType nf).S nf
noncomputable def l6_spec_RowType (nf : Nat) (m6 : Nat) (name : Str) (s : Schema) (x6_6 : Int) : Option (Ty × Bool) := xit [1, 2, 4, 6] [[2], [4]] (X_spec_RowType nf c7_spec_RowType) (qB 0 (qS (X_spec_RowType nf c23_spec_RowType) (KF [.c 4 (.v (kR 0)), .t 5 (.v .bool)]))) m6 ⟨[(1, .v kS name), (2, .pt [2] 0), (4, .pt [4] 0), (6, .v kI x6_6)], [([2], .box [.v (kL (kR 4)) s.tables]), ([4], .box [.v kI (0 : Int), .nl kS, .nl (kR 0)])]⟩
theorem l6_spec_RowType_eq (nf : Nat) (m6 : Nat) (name : Str) (s : Schema) (x6_6 : Int) : l6_spec_RowType nf (m6 + 1) name s x6_6 = (
  br (decide (x6_6 < (List.length s.tables : Int))) (
    gg (0 ≤ x6_6 ∧ x6_6 < (List.length s.tables : Int)) <|
      br (((gt s.tables x6_6 TDecl.zero).name) == name) (
        gg (0 ≤ x6_6 ∧ x6_6 < (List.length s.tables : Int)) <|
          cb (m_spec_l3Copy nf nf ((gt s.tables x6_6 TDecl.zero).row)) fun r28 =>
            some ((Ty.h r28), true)) (
        mark (l6_spec_RowType nf m6 name s (w64 (x6_6 + (1 : Int)))))) (
    some ((Ty.mk (0 : Int) ([] : List Str) ([] : List Ty)), false))) := by kernel_rfl
theorem m_spec_RowType_eq (nf : Nat) (s : Schema) (name : Str) : m_spec_RowType nf s name = (
  mark (l6_spec_RowType nf nf name s (0 : Int))) := by kernel_rfl
noncomputable def e_spec_RowType (nf : Nat) : XE := eF 126 [.v (kR 5), .v kS] [.v (kR 0), .v .bool] (fun t => m_spec_RowType nf t.1 t.2.1)
theorem o_spec_RowType (nf : Nat) : conOK Tryz.prog 126 (e_spec_RowType nf).con := by
  have ih : XT.ok Tryz.prog (T_spec_RowType nf) := by exact ⟨o_spec_l3Copy nf, trivial⟩
  refine eF_ok fun t x h => ?_
  obtain ⟨s, name, _⟩ := t
  exact runF_ok (N := 30) ih Tryz.func126 (by kernel_rfl) rfl h
def ir_spec_l10Leaf : C := .sq (.rg [.bx 3 (.t 0) (kR 5), .bx 5 (.t 2) (kR 2), .al 6 (kR 0), .mv 7 (.b false)]) (.sq (.sq (.rg [.fa 12 (.t 5) 2 0 0, .ld 13 (.t 12) kI]) (.bk 0 (.sq (.rg [.bi 15 .eql (.t 13) (.i 1), .mv 14 (.t 15)]) (.cd (.t 14) (.sq (.rg [.mv 17 (.t 1), .fa 18 (.t 5) 2 1 1, .ld 19 (.t 18) kS, .ca (some 20) 122 [((.t 17), .v (kL (kR 8))), ((.t 19), .v kS)], .mv 16 (.t 20), .xt 21 (.t 16) 0, .xt 22 (.t 16) 1, .al 8 (kR 0), .st (.t 8) (.t 21) (kR 0), .mv 9 (.t 22)]) (.sq (.rg [.ld 23 (.t 8) (kR 0), .mv 24 (.t 9), .st (.t 6) (.t 23) (kR 0), .mv 7 (.t 24)]) .rt)) (.sq (.rg [.bi 26 .eql (.t 13) (.i 2), .mv 25 (.t 26)]) (.cd (.t 25) (.sq (.rg [.cv (some 27) 123 [], .st (.t 6) (.t 27) (kR 0), .mv 7 (.b true)]) .rt) (.sq (.rg [.bi 29 .eql (.t 13) (.i 3), .mv 28 (.t 29)]) (.cd (.t 28) (.sq (.rg [.cv (some 30) 124 [], .st (.t 6) (.t 30) (kR 0), .mv 7 (.b true)]) .rt) (.sq (.rg [.bi 32 .eql (.t 13) (.i 7), .mv 31 (.t 32)]) (.cd (.t 31) (.sq (.rg [.fa 33 (.t 5) 2 3 3, .ld 34 (.t 33) (kR 0), .cv (some 35) 125 [((.t 34), .v (kR 0))], .st (.t 6) (.t 35) (kR 0), .mv 7 (.b true)]) .rt) .skip)))))))))) (.sq (.rg [.ld 37 (.t 3) (kR 5), .fa 38 (.t 5) 2 1 1, .ld 39 (.t 38) kS, .ca (some 40) 126 [((.t 37), .v (kR 5)), ((.t 39), .v kS)], .mv 36 (.t 40), .xt 41 (.t 36) 0, .xt 42 (.t 36) 1, .al 10 (kR 0), .st (.t 10) (.t 41) (kR 0), .mv 11 (.t 42)]) (.sq (.rg [.ld 43 (.t 10) (kR 0), .cv (some 44) 125 [((.t 43), .v (kR 0))], .mv 45 (.t 11), .st (.t 6) (.t 44) (kR 0), .mv 7 (.t 45)]) .rt)))
noncomputable abbrev T_spec_l10Leaf (nf : Nat) : XT := [e_spec_l10Look nf, e_spec_l3Int nf, e_spec_l3Bool nf, e_spec_l3Bag nf, e_spec_RowType nf]
noncomputable def m_spec_l10Leaf (nf : Nat) (s : Schema) (ctx : List Typing) (e : Tm) : Option (Ty × Bool) := runF (T_spec_l10Leaf nf) nf [.v (kR 5), .v (kL (kR 8)), .v (kR 2)] [.c 6 (.v (kR 0)), .t 7 (.v .bool)] ir_spec_l10Leaf (s, ctx, e, ())
theorem m_spec_l10Leaf_eq (nf : Nat) (s : Schema) (ctx : List Typing) (e : Tm) : m_spec_l10Leaf nf s ctx e = (
  br (e.kind == (1 : Int)) (
    cb (m_spec_l10Look nf ctx e.name) fun r20 =>
      some ((Ty.h r20.1), r20.2)) (
    br (e.kind == (2 : Int)) (
      cb (m_spec_l3Int nf) fun r27 =>
        some ((Ty.h r27), true)) (
      br (e.kind == (3 : Int)) (
        cb (m_spec_l3Bool nf) fun r30 =>
          some ((Ty.h r30), true)) (
        br (e.kind == (7 : Int)) (
          cb (m_spec_l3Bag nf (Ty.h e.type)) fun r35 =>
            some ((Ty.h r35), true)) (
          cb (m_spec_RowType nf s e.name) fun r40 =>
            cb (m_spec_l3Bag nf (Ty.h r40.1)) fun r44 =>
              some ((Ty.h r44), r40.2)))))) := by kernel_rfl
noncomputable def e_spec_l10Leaf (nf : Nat) : XE := eF 98 [.v (kR 5), .v (kL (kR 8)), .v (kR 2)] [.v (kR 0), .v .bool] (fun t => m_spec_l10Leaf nf t.1 t.2.1 t.2.2.1)
theorem o_spec_l10Leaf (nf : Nat) : conOK Tryz.prog 98 (e_spec_l10Leaf nf).con := by
  have ih : XT.ok Tryz.prog (T_spec_l10Leaf nf) := by exact ⟨o_spec_l10Look nf, o_spec_l3Int nf, o_spec_l3Bool nf, o_spec_l3Bag nf, o_spec_RowType nf, trivial⟩
  refine eF_ok fun t x h => ?_
  obtain ⟨s, ctx, e, _⟩ := t
  exact runF_ok (N := 46) ih Tryz.func98 (by kernel_rfl) rfl h
def c39_spec_l10Op : C := .sq (.rg [.cv (some 39) 124 [], .st (.t 4) (.t 39) (kR 0), .mv 5 (.b true)]) .rt
def c34_spec_l10Op : C := .cd (.t 37) (.sq (.rg [.cv (some 38) 123 [], .st (.t 4) (.t 38) (kR 0), .mv 5 (.b true)]) .rt) .skip
def w34_spec_l10Op : C := .kp [4, 37] [[4]] c34_spec_l10Op
def c31_spec_l10Op : C := .sq (.sq (.rg [.mv 32 (.t 0), .bi 33 .eql (.t 32) (.s [43]), .mv 34 (.t 33), .g 34 false (.mv 35 (.t 0)), .g 34 false (.bi 36 .eql (.t 35) (.s [45])), .pk 37 (.t 34) (.b true) (.t 36)]) w34_spec_l10Op) c39_spec_l10Op
def w31_spec_l10Op : C := .kp [0, 4] [[4]] c31_spec_l10Op
def c15_spec_l10Op : C := .sq (.sq (.rg [.mv 18 (.t 7), .mv 19 (.t 1), .ln 20 false (.t 19), .bi 21 .lss (.t 18) (.t 20)]) (.cd (.t 21) .skip (.ex 0))) (.sq (.bk 1 (.sq (.rg [.mv 24 (.t 1), .mv 25 (.t 7), .ia 26 (.t 24) (.t 25) (kR 0), .fa 27 (.t 26) 0 0 0, .ld 28 (.t 27) kI, .mv 29 (.t 6), .bi 30 .neq (.t 28) (.t 29)]) (.cd (.t 30) (.sq (.rg [.bd 31 0 [], .st (.t 4) (.t 31) (kR 0), .mv 5 (.b false)]) .rt) .skip))) (.rg [.mv 22 (.t 7), .bi 23 .add (.t 22) (.i 1), .mv 7 (.t 23)]))
def c10_spec_l10Op : C := .sq (.sq (.rg [.mv 7 (.i 0)]) (.bk 0 (.lk [0, 1, 4, 6, 7] [[4]] c15_spec_l10Op))) w31_spec_l10Op
def w10_spec_l10Op : C := .kp [0, 1, 4, 6] [[4]] c10_spec_l10Op
def c7_spec_l10Op : C := .cd (.t 17) (.rg [.mv 6 (.i 2)]) .skip
def w7_spec_l10Op : C := .kp [0, 1, 4, 6, 17] [[4]] c7_spec_l10Op
def ir_spec_l10Op : C := .sq (.rg [.al 4 (kR 0), .mv 5 (.b false)]) (.sq (.rg [.mv 6 (.i 1)]) (.sq (.sq (.rg [.mv 8 (.t 0), .bi 9 .eql (.t 8) (.s [38]), .mv 10 (.t 9), .g 10 false (.mv 11 (.t 0)), .g 10 false (.bi 12 .eql (.t 11) (.s [124])), .pk 13 (.t 10) (.b true) (.t 12), .mv 14 (.t 13), .g 14 false (.mv 15 (.t 0)), .g 14 false (.bi 16 .eql (.t 15) (.s [33])), .pk 17 (.t 14) (.b true) (.t 16)]) w7_spec_l10Op) w10_spec_l10Op))
noncomputable abbrev T_spec_l10Op (nf : Nat) : XT := [e_spec_l3Int nf, e_spec_l3Bool nf]
noncomputable def m_spec_l10Op (nf : Nat) (op : Str) (args : List Ty) : Option (Ty × Bool) := runF (T_spec_l10Op nf) nf [.v kS, .v (kL (kR 0))] [.c 4 (.v (kR 0)), .t 5 (.v .bool)] ir_spec_l10Op (op, args, ())
noncomputable def X_spec_l10Op {R : Type} (nf : Nat) : C → Env → (Xt → Env → Option R) → Option R := xc (R := R) (T_spec_l10Op nf).S nf
noncomputable def j7_spec_l10Op (nf : Nat) (op : Str) (args : List Ty) (x17_7 : Bool) : Option (Ty × Bool) := X_spec_l10Op nf c7_spec_l10Op ⟨[(0, .v kS op), (1, .v (kL (kR 0)) args), (4, .pt [4] 0), (6, .v kI (1 : Int)), (17, .v .bool x17_7)], [([4], .box [.v kI (0 : Int), .nl kS, .nl (kR 0)])]⟩ (qS (X_spec_l10Op nf w10_spec_l10Op) (KF [.c 4 (.v (kR 0)), .t 5 (.v .bool)]))
noncomputable def l14_spec_l10Op (nf : Nat) (m14 : Nat) (op : Str) (args : List Ty) (x6_10 : Int) (x7_14 : Int) : Option (Ty × Bool) := xit [0, 1, 4, 6, 7] [[4]] (X_spec_l10Op nf c15_spec_l10Op) (qB 0 (qS (X_spec_l10Op nf w31_spec_l10Op) (KF [.c 4 (.v (kR 0)), .t 5 (.v .bool)]))) m14 ⟨[(0, .v kS op), (1, .v (kL (kR 0)) args), (4, .pt [4] 0), (6, .v kI x6_10), (7, .v kI x7_14)], [([4], .box [.v kI (0 : Int), .nl kS, .nl (kR 0)])]⟩
noncomputable def j34_spec_l10Op (nf : Nat) (x37_34 : Bool) : Option (Ty × Bool) := X_spec_l10Op nf c34_spec_l10Op ⟨[(4, .pt [4] 0), (37, .v .bool x37_34)], [([4], .box [.v kI (0 : Int), .nl kS, .nl (kR 0)])]⟩ (qS (X_spec_l10Op nf c39_spec_l10Op) (KF [.c 4 (.v (kR 0)), .t 5 (.v .bool)]))
noncomputable def j31_spec_l10Op (nf : Nat) (op : Str) : Option (Ty × Bool) := X_spec_l10Op nf c31_spec_l10Op ⟨[(0, .v kS op), (4, .pt [4] 0)], [([4], .box [.v kI (0 : Int), .nl kS, .nl (kR 0)])]⟩ (KF [.c 4 (.v (kR 0)), .t 5 (.v .bool)])
noncomputable def j10_spec_l10Op (nf : Nat) (op : Str) (args : List Ty) (x6_10 : Int) : Option (Ty × Bool) := X_spec_l10Op nf c10_spec_l10Op ⟨[(0, .v kS op), (1, .v (kL (kR 0)) args), (4, .pt [4] 0), (6, .v kI x6_10)], [([4], .box [.v kI (0 : Int), .nl kS, .nl (kR 0)])]⟩ (KF [.c 4 (.v (kR 0)), .t 5 (.v .bool)])
theorem j7_spec_l10Op_eq (nf : Nat) (op : Str) (args : List Ty) (x17_7 : Bool) : j7_spec_l10Op nf op args x17_7 = (
  br x17_7 (
    mark (j10_spec_l10Op nf op args (2 : Int))) (
    mark (j10_spec_l10Op nf op args (1 : Int)))) := by
  unfold j7_spec_l10Op j10_spec_l10Op c7_spec_l10Op w10_spec_l10Op
  generalize c10_spec_l10Op = x0
  revert x0
  refine id ?_
  intro x0
  kernel_rfl
theorem l14_spec_l10Op_eq (nf : Nat) (m14 : Nat) (op : Str) (args : List Ty) (x6_10 : Int) (x7_14 : Int) : l14_spec_l10Op nf (m14 + 1) op args x6_10 x7_14 = (
  br (decide (x7_14 < (List.length args : Int))) (
    gg (0 ≤ x7_14 ∧ x7_14 < (List.length args : Int)) <|
      br (!(((gt args x7_14 Ty.zero).kind) == x6_10)) (
        some ((Ty.mk (0 : Int) ([] : List Str) ([] : List Ty)), false)) (
        mark (l14_spec_l10Op nf m14 op args x6_10 (w64 (x7_14 + (1 : Int)))))) (
    mark (j31_spec_l10Op nf op))) := by
  unfold l14_spec_l10Op j31_spec_l10Op c15_spec_l10Op w31_spec_l10Op
  generalize c31_spec_l10Op = x0
  revert x0
  refine id ?_
  intro x0
  kernel_rfl
theorem j34_spec_l10Op_eq (nf : Nat) (x37_34 : Bool) : j34_spec_l10Op nf x37_34 = (
  br x37_34 (
    cb (m_spec_l3Int nf) fun r38 =>
      some ((Ty.h r38), true)) (
    cb (m_spec_l3Bool nf) fun r39 =>
      some ((Ty.h r39), true))) := by kernel_rfl
theorem j31_spec_l10Op_eq (nf : Nat) (op : Str) : j31_spec_l10Op nf op = (
  br ((op == ([43] : Str)) == false) (
    mark (j34_spec_l10Op nf (op == ([45] : Str)))) (
    mark (j34_spec_l10Op nf true))) := by
  unfold j31_spec_l10Op j34_spec_l10Op c31_spec_l10Op w34_spec_l10Op c39_spec_l10Op
  generalize c34_spec_l10Op = x0
  revert x0
  refine id ?_
  intro x0
  kernel_rfl
theorem j10_spec_l10Op_eq (nf : Nat) (op : Str) (args : List Ty) (x6_10 : Int) : j10_spec_l10Op nf op args x6_10 = (
  mark (l14_spec_l10Op nf nf op args x6_10 (0 : Int))) := by
  unfold j10_spec_l10Op l14_spec_l10Op c10_spec_l10Op w31_spec_l10Op
  generalize c31_spec_l10Op = x0
  revert x0
  refine id ?_
  intro x0
  kernel_rfl
theorem m_spec_l10Op_eq (nf : Nat) (op : Str) (args : List Ty) : m_spec_l10Op nf op args = (
  br ((op == ([38] : Str)) == false) (
    br ((op == ([124] : Str)) == false) (
      mark (j7_spec_l10Op nf op args (op == ([33] : Str)))) (
      mark (j7_spec_l10Op nf op args true))) (
    mark (j7_spec_l10Op nf op args true))) := by
  unfold m_spec_l10Op j7_spec_l10Op ir_spec_l10Op w7_spec_l10Op w10_spec_l10Op
  generalize c7_spec_l10Op = x0
  generalize c10_spec_l10Op = x1
  revert x0 x1
  refine id ?_
  intro x0 x1
  kernel_rfl
noncomputable def e_spec_l10Op (nf : Nat) : XE := eF 127 [.v kS, .v (kL (kR 0))] [.v (kR 0), .v .bool] (fun t => m_spec_l10Op nf t.1 t.2.1)
theorem o_spec_l10Op (nf : Nat) : conOK Tryz.prog 127 (e_spec_l10Op nf).con := by
  have ih : XT.ok Tryz.prog (T_spec_l10Op nf) := by exact ⟨o_spec_l3Int nf, o_spec_l3Bool nf, trivial⟩
  refine eF_ok fun t x h => ?_
  obtain ⟨op, args, _⟩ := t
  exact runF_ok (N := 40) ih Tryz.func127 (by kernel_rfl) rfl h
def c12_spec_FieldType : C := .sq (.rg [.fa 24 (.t 2) 0 2 2, .ld 25 (.t 24) (kL (kR 0)), .mv 26 (.t 6), .ia 27 (.t 25) (.t 26) (kR 0), .ld 28 (.t 27) (kR 0), .cv (some 29) 131 [((.t 28), .v (kR 0))], .st (.t 4) (.t 29) (kR 0), .mv 5 (.b true)]) .rt
def c7_spec_FieldType : C := .cd (.t 22) (.sq (.rg [.bd 23 0 [], .st (.t 4) (.t 23) (kR 0), .mv 5 (.b false)]) .rt) .skip
def w7_spec_FieldType : C := .kp [2, 4, 6, 22] [[2], [4]] c7_spec_FieldType
def ir_spec_FieldType : C := .sq (.rg [.bx 2 (.t 0) (kR 0), .al 4 (kR 0), .mv 5 (.b false)]) (.sq (.rg [.fa 7 (.t 2) 0 1 1, .ld 8 (.t 7) (kL kS), .mv 9 (.t 1), .cv (some 10) 144 [((.t 8), .v (kL kS)), ((.t 9), .v kS)], .mv 6 (.t 10)]) (.sq (.sq (.rg [.ld 11 (.t 2) (kR 0), .cv (some 12) 64 [((.t 11), .v (kR 0))], .un 13 .not (.t 12), .mv 14 (.t 13), .g 14 false (.fa 15 (.t 2) 0 0 0), .g 14 false (.ld 16 (.t 15) kI), .g 14 false (.bi 17 .neq (.t 16) (.i 3)), .pk 18 (.t 14) (.b true) (.t 17), .mv 19 (.t 18), .g 19 false (.mv 20 (.t 6)), .g 19 false (.bi 21 .lss (.t 20) (.i 0)), .pk 22 (.t 19) (.b true) (.t 21)]) w7_spec_FieldType) c12_spec_FieldType))
noncomputable abbrev T_spec_FieldType (nf : Nat) : XT := [e_spec_IndexOf nf, e_spec_IsValidType nf, e_spec_l3Copy nf]
noncomputable def m_spec_FieldType (nf : Nat) (t : Ty) (label : Str) : Option (Ty × Bool) := runF (T_spec_FieldType nf) nf [.v (kR 0), .v kS] [.c 4 (.v (kR 0)), .t 5 (.v .bool)] ir_spec_FieldType (t, label, ())
noncomputable def X_spec_FieldType {R : Type} (nf : Nat) : C → Env → (Xt → Env → Option R) → Option R := xc (R := R) (T_spec_FieldType nf).S nf
noncomputable def j7_spec_FieldType (nf : Nat) (r10 : Int) (t : Ty) (x22_7 : Bool) : Option (Ty × Bool) := X_spec_FieldType nf c7_spec_FieldType ⟨[(2, .pt [2] 0), (4, .pt [4] 0), (6, .v kI r10), (22, .v .bool x22_7)], [([2], .box [.v kI t.kind, .v (kL kS) t.labels, .v (kL (kR 0)) t.args]), ([4], .box [.v kI (0 : Int), .nl kS, .nl (kR 0)])]⟩ (qS (X_spec_FieldType nf c12_spec_FieldType) (KF [.c 4 (.v (kR 0)), .t 5 (.v .bool)]))
theorem j7_spec_FieldType_eq (nf : Nat) (r10 : Int) (t : Ty) (x22_7 : Bool) : j7_spec_FieldType nf r10 t x22_7 = (
  br x22_7 (
    some ((Ty.mk (0 : Int) ([] : List Str) ([] : List Ty)), false)) (
    gg (0 ≤ r10 ∧ r10 < (List.length t.args : Int)) <|
      cb (m_spec_l3Copy nf nf (gt t.args r10 Ty.zero)) fun r29 =>
        some ((Ty.h r29), true))) := by kernel_rfl
theorem m_spec_FieldType_eq (nf : Nat) (t : Ty) (label : Str) : m_spec_FieldType nf t label = (
  cb (m_spec_IndexOf nf t.labels label) fun r10 =>
    cb (m_spec_IsValidType nf (Ty.h t)) fun r12 =>
      br ((!r12) == false) (
        br ((!(t.kind == (3 : Int))) == false) (
          mark (j7_spec_FieldType nf r10 t (decide (r10 < (0 : Int))))) (
          mark (j7_spec_FieldType nf r10 t true))) (
        mark (j7_spec_FieldType nf r10 t true))) := by
  unfold m_spec_FieldType j7_spec_FieldType ir_spec_FieldType w7_spec_FieldType c12_spec_FieldType
  generalize c7_spec_FieldType = x0
  revert x0
  refine id ?_
  intro x0
  kernel_rfl
noncomputable def e_spec_FieldType (nf : Nat) : XE := eF 129 [.v (kR 0), .v kS] [.v (kR 0), .v .bool] (fun t => m_spec_FieldType nf t.1 t.2.1)
theorem o_spec_FieldType (nf : Nat) : conOK Tryz.prog 129 (e_spec_FieldType nf).con := by
  have ih : XT.ok Tryz.prog (T_spec_FieldType nf) := by exact ⟨o_spec_IndexOf nf, o_spec_IsValidType nf, o_spec_l3Copy nf, trivial⟩
  refine eF_ok fun t x h => ?_
  obtain ⟨t, label, _⟩ := t
  exact runF_ok (N := 30) ih Tryz.func129 (by kernel_rfl) rfl h
def c31_spec_l3Texts : C := .sq (.rg [.mv 4 (.b true)]) .rt
def c15_spec_l3Texts : C := .sq (.sq (.rg [.mv 11 (.t 5), .mv 12 (.t 0), .ln 13 false (.t 12), .bi 14 .lss (.t 11) (.t 13)]) (.cd (.t 14) .skip (.ex 0))) (.sq (.bk 1 (.sq (.dr [] [.mv 17 (.t 0), .mv 18 (.t 5), .ia 19 (.t 17) (.t 18) kS, .ld 20 (.t 19) kS, .mv 21 (.t 1), .mv 22 (.t 5), .ia 23 (.t 21) (.t 22) kS, .ld 24 (.t 23) kS] [.bi 25 .neq (.t 20) (.t 24)]) (.cd (.t 25) (.sq (.rg [.mv 4 (.b false)]) .rt) .skip))) (.rg [.mv 15 (.t 5), .bi 16 .add (.t 15) (.i 1), .mv 5 (.t 16)]))
def ir_spec_l3Texts : C := .sq (.rg [.mv 4 (.b false)]) (.sq (.sq (.rg [.mv 6 (.t 0), .ln 7 false (.t 6), .mv 8 (.t 1), .ln 9 false (.t 8), .bi 10 .neq (.t 7) (.t 9)]) (.cd (.t 10) (.sq (.rg [.mv 4 (.b false)]) .rt) .skip)) (.sq (.sq (.rg [.mv 5 (.i 0)]) (.bk 0 (.lk [0, 1, 5] [] c15_spec_l3Texts))) c31_spec_l3Texts))
noncomputable abbrev T_spec_l3Texts (nf : Nat) : XT := []
noncomputable def m_spec_l3Texts (nf : Nat) (a : List Str) (b : List Str) : Option (Bool) := runF (T_spec_l3Texts nf) nf [.v (kL kS), .v (kL kS)] [.t 4 (.v .bool)] ir_spec_l3Texts (a, b, ())
noncomputable def X_spec_l3Texts {R : Type} (nf : Nat) : C → Env → (Xt → Env → Option R) → Option R := xc (R := R) (T_spec_l3Texts nf).S nf
noncomputable def l14_spec_l3Texts (nf : Nat) (m14 : Nat) (a : List Str) (b : List Str) (x5_14 : Int) : Option (Bool) := xit [0, 1, 5] [] (X_spec_l3Texts nf c15_spec_l3Texts) (qB 0 (qS (X_spec_l3Texts nf c31_spec_l3Texts) (KF [.t 4 (.v .bool)]))) m14 ⟨[(0, .v (kL kS) a), (1, .v (kL kS) b), (5, .v kI x5_14)], []⟩
theorem l14_spec_l3Texts_eq (nf : Nat) (m14 : Nat) (a : List Str) (b : List Str) (x5_14 : Int) : l14_spec_l3Texts nf (m14 + 1) a b x5_14 = (
  br (decide (x5_14 < (List.length a : Int))) (
    gg (0 ≤ x5_14 ∧ x5_14 < (List.length a : Int)) <|
      gg (0 ≤ x5_14 ∧ x5_14 < (List.length b : Int)) <|
        br (!((gt a x5_14 ([] : Str)) == (gt b x5_14 ([] : Str)))) (
          some false) (
          mark (l14_spec_l3Texts nf m14 a b (w64 (x5_14 + (1 : Int)))))) (
    some true)) := by kernel_rfl
theorem m_spec_l3Texts_eq (nf : Nat) (a : List Str) (b : List Str) : m_spec_l3Texts nf a b = (
  br (!((List.length a : Int) == (List.length b : Int))) (
    some false) (
    mark (l14_spec_l3Texts nf nf a b (0 : Int)))) := by kernel_rfl
noncomputable def e_spec_l3Texts (nf : Nat) : XE := eF 145 [.v (kL kS), .v (kL kS)] [.v .bool] (fun t => m_spec_l3Texts nf t.1 t.2.1)
theorem o_spec_l3Texts (nf : Nat) : conOK Tryz.prog 145 (e_spec_l3Texts nf).con := by
  have ih : XT.ok Tryz.prog (T_spec_l3Texts nf) := by exact trivial
  refine eF_ok fun t x h => ?_
  obtain ⟨a, b, _⟩ := t
  exact runF_ok (N := 26) ih Tryz.func145 (by kernel_rfl) rfl h
def c31_spec_EqualType : C := .sq (.rg [.mv 4 (.b true)]) .rt
def c15_spec_EqualType : C := .sq (.sq (.rg [.mv 28 (.t 5), .fa 29 (.t 2) 0 2 2, .ld 30 (.t 29) (kL (kR 0)), .ln 31 false (.t 30), .bi 32 .lss (.t 28) (.t 31)]) (.cd (.t 32) .skip (.ex 0))) (.sq (.bk 1 (.sq (.dr [] [.fa 35 (.t 2) 0 2 2, .ld 36 (.t 35) (kL (kR 0)), .mv 37 (.t 5), .ia 38 (.t 36) (.t 37) (kR 0), .ld 39 (.t 38) (kR 0), .fa 40 (.t 3) 0 2 2, .ld 41 (.t 40) (kL (kR 0)), .mv 42 (.t 5), .ia 43 (.t 41) (.t 42) (kR 0), .ld 44 (.t 43) (kR 0)] [.cv (some 45) 130 [((.t 39), .v (kR 0)), ((.t 44), .v (kR 0))], .un 46 .not (.t 45)]) (.cd (.t 46) (.sq (.rg [.mv 4 (.b false)]) .rt) .skip))) (.rg [.mv 33 (.t 5), .bi 34 .add (.t 33) (.i 1), .mv 5 (.t 34)]))
def c10_spec_EqualType : C := .sq (.sq (.rg [.mv 5 (.i 0)]) (.bk 0 (.lk [2, 3, 5] [[2], [3]] c15_spec_EqualType))) c31_spec_EqualType
def c5_spec_EqualType : C := .cd (.t 27) (.sq (.rg [.mv 4 (.b false)]) .rt) .skip
def w5_spec_EqualType : C := .kp [2, 3, 27] [[2], [3]] c5_spec_EqualType
def ir_spec_EqualType : C := .sq (.rg [.bx 2 (.t 0) (kR 0), .bx 3 (.t 1) (kR 0), .mv 4 (.b false)]) (.sq (.sq (.rg [.fa 6 (.t 2) 0 0 0, .ld 7 (.t 6) kI, .fa 8 (.t 3) 0 0 0, .ld 9 (.t 8) kI, .bi 10 .neq (.t 7) (.t 9), .mv 11 (.t 10), .g 11 false (.fa 12 (.t 2) 0 1 1), .g 11 false (.ld 13 (.t 12) (kL kS)), .g 11 false (.fa 14 (.t 3) 0 1 1), .g 11 false (.ld 15 (.t 14) (kL kS)), .g 11 false (.cv (some 16) 145 [((.t 13), .v (kL kS)), ((.t 15), .v (kL kS))]), .g 11 false (.un 17 .not (.t 16)), .pk 18 (.t 11) (.b true) (.t 17), .mv 19 (.t 18), .g 19 false (.fa 20 (.t 2) 0 2 2), .g 19 false (.ld 21 (.t 20) (kL (kR 0))), .g 19 false (.ln 22 false (.t 21)), .g 19 false (.fa 23 (.t 3) 0 2 2), .g 19 false (.ld 24 (.t 23) (kL (kR 0))), .g 19 false (.ln 25 false (.t 24)), .g 19 false (.bi 26 .neq (.t 22) (.t 25)), .pk 27 (.t 19) (.b true) (.t 26)]) w5_spec_EqualType) c10_spec_EqualType)
noncomputable def B_spec_EqualType (nf : Nat) : XT := [e_spec_l3Texts nf]
noncomputable def G_spec_EqualType (nf : Nat) : Nat → XT
  | 0 => []
  | kf + 1 => [eF 130 [.v (kR 0), .v (kR 0)] [.v .bool] (fun t => (fun (a : Ty) (b : Ty) => runF (G_spec_EqualType nf kf ++ B_spec_EqualType nf) nf [.v (kR 0), .v (kR 0)] [.t 4 (.v .bool)] ir_spec_EqualType (a, b, ())) t.1 t.2.1)]
noncomputable abbrev T_spec_EqualType (nf kf : Nat) : XT := G_spec_EqualType nf kf ++ B_spec_EqualType nf
noncomputable def m_spec_EqualType (nf kf : Nat) (a : Ty) (b : Ty) : Option (Bool) := runF (T_spec_EqualType nf kf) nf [.v (kR 0), .v (kR 0)] [.t 4 (.v .bool)] ir_spec_EqualType (a, b, ())
noncomputable def X_spec_EqualType {R : Type} (nf kf : Nat) : C → Env → (Xt → Env → Option R) → Option R := xc (R := R) (T_spec_EqualType nf kf).S nf
noncomputable def j5_spec_EqualType (nf kf : Nat) (a : Ty) (b : Ty) (x27_5 : Bool) : Option (Bool) := X_spec_EqualType nf kf c5_spec_EqualType ⟨[(2, .pt [2] 0), (3, .pt [3] 0), (27, .v .bool x27_5)], [([2], .box [.v kI a.kind, .v (kL kS) a.labels, .v (kL (kR 0)) a.args]), ([3], .box [.v kI b.kind, .v (kL kS) b.labels, .v (kL (kR 0)) b.args])]⟩ (qS (X_spec_EqualType nf kf c10_spec_EqualType) (KF [.t 4 (.v .bool)]))
noncomputable def l14_spec_EqualType (nf kf : Nat) (m14 : Nat) (a : Ty) (b : Ty) (x5_14 : Int) : Option (Bool) := xit [2, 3, 5] [[2], [3]] (X_spec_EqualType nf kf c15_spec_EqualType) (qB 0 (qS (X_spec_EqualType nf kf c31_spec_EqualType) (KF [.t 4 (.v .bool)]))) m14 ⟨[(2, .pt [2] 0), (3, .pt [3] 0), (5, .v kI x5_14)], [([2], .box [.v kI a.kind, .v (kL kS) a.labels, .v (kL (kR 0)) a.args]), ([3], .box [.v kI b.kind, .v (kL kS) b.labels, .v (kL (kR 0)) b.args])]⟩
theorem j5_spec_EqualType_eq (nf kf : Nat) (a : Ty) (b : Ty) (x27_5 : Bool) : j5_spec_EqualType nf (kf + 1) a b x27_5 = (
  br x27_5 (
    some false) (
    mark (l14_spec_EqualType nf (kf + 1) nf a b (0 : Int)))) := by kernel_rfl
theorem l14_spec_EqualType_eq (nf kf : Nat) (m14 : Nat) (a : Ty) (b : Ty) (x5_14 : Int) : l14_spec_EqualType nf (kf + 1) (m14 + 1) a b x5_14 = (
  br (decide (x5_14 < (List.length a.args : Int))) (
    gg (0 ≤ x5_14 ∧ x5_14 < (List.length a.args : Int)) <|
      gg (0 ≤ x5_14 ∧ x5_14 < (List.length b.args : Int)) <|
        cb (m_spec_EqualType nf kf (gt a.args x5_14 Ty.zero) (gt b.args x5_14 Ty.zero)) fun r45 =>
          br (!r45) (
            some false) (
            mark (l14_spec_EqualType nf (kf + 1) m14 a b (w64 (x5_14 + (1 : Int)))))) (
    some true)) := by kernel_rfl
theorem m_spec_EqualType_eq (nf kf : Nat) (a : Ty) (b : Ty) : m_spec_EqualType nf (kf + 1) a b = (
  br ((!(a.kind == b.kind)) == false) (
    cb (m_spec_l3Texts nf a.labels b.labels) fun r16 =>
      br ((!r16) == false) (
        mark (j5_spec_EqualType nf (kf + 1) a b (!((List.length a.args : Int) == (List.length b.args : Int))))) (
        mark (j5_spec_EqualType nf (kf + 1) a b true))) (
    mark (j5_spec_EqualType nf (kf + 1) a b true))) := by
  unfold m_spec_EqualType j5_spec_EqualType ir_spec_EqualType w5_spec_EqualType c10_spec_EqualType c31_spec_EqualType
  generalize c5_spec_EqualType = x0
  revert x0
  refine id ?_
  intro x0
  kernel_rfl
noncomputable def e_spec_EqualType (nf : Nat) : XE := eF 130 [.v (kR 0), .v (kR 0)] [.v .bool] (fun t => m_spec_EqualType nf nf t.1 t.2.1)
theorem gok_spec_EqualType (nf : Nat) : ∀ kf : Nat, XT.ok Tryz.prog (G_spec_EqualType nf kf ++ B_spec_EqualType nf)
  | 0 => by exact ⟨o_spec_l3Texts nf, trivial⟩
  | kf + 1 => by
    have ih := gok_spec_EqualType nf kf
    refine ⟨?_, (by exact ⟨o_spec_l3Texts nf, trivial⟩)⟩
    · refine eF_ok fun t x h => ?_
      obtain ⟨a, b, _⟩ := t
      exact runF_ok (N := 47) ih Tryz.func130 (by kernel_rfl) rfl h
theorem o_spec_EqualType (nf : Nat) : conOK Tryz.prog 130 (e_spec_EqualType nf).con := by
  have ih := gok_spec_EqualType nf nf
  refine eF_ok fun t x h => ?_
  obtain ⟨a, b, _⟩ := t
  exact runF_ok (N := 47) ih Tryz.func130 (by kernel_rfl) rfl h
def c69_spec_l10Form : C := .sq (.rg [.bd 128 0 [], .st (.t 4) (.t 128) (kR 0), .mv 5 (.b false)]) .rt
def c51_spec_l10Form : C := .cd (.t 104) (.sq (.rg [.mv 105 (.t 1), .ia 106 (.t 105) (.i 0) (kR 0), .fa 107 (.t 106) 0 2 2, .ld 108 (.t 107) (kL (kR 0)), .ia 109 (.t 108) (.i 1) (kR 0), .ld 110 (.t 109) (kR 0), .cv (some 111) 131 [((.t 110), .v (kR 0))], .st (.t 4) (.t 111) (kR 0), .mv 5 (.b true)]) .rt) .skip
def w51_spec_l10Form : C := .kp [1, 4, 104] [[4]] c51_spec_l10Form
def ir_spec_l10Form : C := .sq (.rg [.bx 2 (.t 0) (kR 2), .al 4 (kR 0), .mv 5 (.b false)]) (.sq (.sq (.rg [.fa 10 (.t 2) 2 0 0, .ld 11 (.t 10) kI]) (.bk 0 (.sq (.rg [.bi 13 .eql (.t 11) (.i 4), .mv 12 (.t 13)]) (.cd (.t 12) (.sq (.rg [.fa 15 (.t 2) 2 1 1, .ld 16 (.t 15) kS, .mv 17 (.t 1), .ca (some 18) 127 [((.t 16), .v kS), ((.t 17), .v (kL (kR 0)))], .mv 14 (.t 18), .xt 19 (.t 14) 0, .xt 20 (.t 14) 1, .al 6 (kR 0), .st (.t 6) (.t 19) (kR 0), .mv 7 (.t 20)]) (.sq (.rg [.ld 21 (.t 6) (kR 0), .mv 22 (.t 7), .st (.t 4) (.t 21) (kR 0), .mv 5 (.t 22)]) .rt)) (.sq (.rg [.bi 24 .eql (.t 11) (.i 5), .mv 23 (.t 24)]) (.cd (.t 23) (.sq (.rg [.fa 25 (.t 2) 2 4 6, .ld 26 (.t 25) (kL kS), .mv 27 (.t 1), .cv (some 28) 128 [((.t 26), .v (kL kS)), ((.t 27), .v (kL (kR 0)))], .st (.t 4) (.t 28) (kR 0), .mv 5 (.b true)]) .rt) (.sq (.rg [.bi 30 .eql (.t 11) (.i 6), .mv 29 (.t 30)]) (.cd (.t 29) (.sq (.dw [37, 8] [31] [.mv 32 (.t 1), .ia 33 (.t 32) (.i 0) (kR 0), .ld 34 (.t 33) (kR 0), .fa 35 (.t 2) 2 1 1, .ld 36 (.t 35) kS, .ca (some 37) 129 [((.t 34), .v (kR 0)), ((.t 36), .v kS)], .mv 31 (.t 37), .xt 38 (.t 31) 0, .xt 39 (.t 31) 1, .al 8 (kR 0)] 8 (.t 38) (kR 0) [.mv 9 (.t 39)]) (.sq (.rg [.ld 40 (.t 8) (kR 0), .mv 41 (.t 9), .st (.t 4) (.t 40) (kR 0), .mv 5 (.t 41)]) .rt)) (.sq (.rg [.bi 43 .eql (.t 11) (.i 8), .mv 42 (.t 43)]) (.cd (.t 42) (.sq (.rg [.mv 44 (.t 1), .ia 45 (.t 44) (.i 0) (kR 0), .ld 46 (.t 45) (kR 0), .cv (some 47) 125 [((.t 46), .v (kR 0))], .st (.t 4) (.t 47) (kR 0), .mv 5 (.b true)]) .rt) (.sq (.rg [.bi 49 .eql (.t 11) (.i 9), .mv 48 (.t 49)]) (.cd (.t 48) (.sq (.dw [] [58, 65] [.mv 50 (.t 1), .ia 51 (.t 50) (.i 0) (kR 0), .ld 52 (.t 51) (kR 0), .mv 53 (.t 1), .ia 54 (.t 53) (.i 0) (kR 0), .fa 55 (.t 54) 0 0 0, .ld 56 (.t 55) kI, .bi 57 .eql (.t 56) (.i 4), .mv 58 (.t 57), .g 58 true (.mv 59 (.t 1)), .g 58 true (.ia 60 (.t 59) (.i 0) (kR 0)), .g 58 true (.ld 61 (.t 60) (kR 0)), .g 58 true (.mv 62 (.t 1)), .g 58 true (.ia 63 (.t 62) (.i 1) (kR 0)), .g 58 true (.ld 64 (.t 63) (kR 0)), .g 58 true (.cv (some 65) 130 [((.t 61), .v (kR 0)), ((.t 64), .v (kR 0))]), .pk 66 (.t 58) (.t 65) (.b false)] 4 (.t 52) (kR 0) [.mv 5 (.t 66)]) .rt) (.sq (.rg [.bi 68 .eql (.t 11) (.i 11), .mv 67 (.t 68)]) (.cd (.t 67) (.sq (.dw [] [77, 84] [.mv 69 (.t 1), .ia 70 (.t 69) (.i 1) (kR 0), .ld 71 (.t 70) (kR 0), .mv 72 (.t 1), .ia 73 (.t 72) (.i 0) (kR 0), .fa 74 (.t 73) 0 0 0, .ld 75 (.t 74) kI, .bi 76 .eql (.t 75) (.i 2), .mv 77 (.t 76), .g 77 true (.mv 78 (.t 1)), .g 77 true (.ia 79 (.t 78) (.i 1) (kR 0)), .g 77 true (.ld 80 (.t 79) (kR 0)), .g 77 true (.mv 81 (.t 1)), .g 77 true (.ia 82 (.t 81) (.i 2) (kR 0)), .g 77 true (.ld 83 (.t 82) (kR 0)), .g 77 true (.cv (some 84) 130 [((.t 80), .v (kR 0)), ((.t 83), .v (kR 0))]), .pk 85 (.t 77) (.t 84) (.b false)] 4 (.t 71) (kR 0) [.mv 5 (.t 85)]) .rt) (.sq (.rg [.bi 87 .eql (.t 11) (.i 14), .mv 86 (.t 87)]) (.cd (.t 86) (.sq (.dr [] [.mv 88 (.t 1), .ia 89 (.t 88) (.i 0) (kR 0), .fa 90 (.t 89) 0 0 0, .ld 91 (.t 90) kI, .bi 92 .eql (.t 91) (.i 5), .mv 93 (.t 92), .g 93 true (.mv 94 (.t 1)), .g 93 true (.ia 95 (.t 94) (.i 0) (kR 0)), .g 93 true (.fa 96 (.t 95) 0 2 2), .g 93 true (.ld 97 (.t 96) (kL (kR 0))), .g 93 true (.ia 98 (.t 97) (.i 0) (kR 0)), .g 93 true (.ld 99 (.t 98) (kR 0)), .g 93 true (.mv 100 (.t 1)), .g 93 true (.ia 101 (.t 100) (.i 1) (kR 0)), .g 93 true (.ld 102 (.t 101) (kR 0))] [.g 93 true (.cv (some 103) 130 [((.t 99), .v (kR 0)), ((.t 102), .v (kR 0))]), .pk 104 (.t 93) (.t 103) (.b false)]) w51_spec_l10Form) (.sq (.rg [.bi 113 .eql (.t 11) (.i 15), .mv 112 (.t 113)]) (.cd (.t 112) (.sq (.dw [] [1, 115, 116, 117, 118] [.cv (some 114) 124 [], .mv 115 (.t 1), .ia 116 (.t 115) (.i 0) (kR 0), .fa 117 (.t 116) 0 0 0, .ld 118 (.t 117) kI, .bi 119 .eql (.t 118) (.i 4)] 4 (.t 114) (kR 0) [.mv 5 (.t 119)]) .rt) (.sq (.rg [.bi 121 .eql (.t 11) (.i 16), .mv 120 (.t 121)]) (.cd (.t 120) (.sq (.dw [] [1, 123, 124, 125, 126] [.cv (some 122) 123 [], .mv 123 (.t 1), .ia 124 (.t 123) (.i 0) (kR 0), .fa 125 (.t 124) 0 0 0, .ld 126 (.t 125) kI, .bi 127 .eql (.t 126) (.i 4)] 4 (.t 122) (kR 0) [.mv 5 (.t 127)]) .rt) .skip)))))))))))))))))))) c69_spec_l10Form)
noncomputable abbrev T_spec_l10Form (nf : Nat) : XT := [e_spec_l10Op nf, e_spec_l3Rec nf, e_spec_FieldType nf, e_spec_l3Bag nf, e_spec_EqualType nf, e_spec_l3Copy nf, e_spec_l3Bool nf, e_spec_l3Int nf]
noncomputable def m_spec_l10Form (nf : Nat) (e : Tm) (args : List Ty) : Option (Ty × Bool) := runF (T_spec_l10Form nf) nf [.v (kR 2), .v (kL (kR 0))] [.c 4 (.v (kR 0)), .t 5 (.v .bool)] ir_spec_l10Form (e, args, ())
noncomputable def X_spec_l10Form {R : Type} (nf : Nat) : C → Env → (Xt → Env → Option R) → Option R := xc (R := R) (T_spec_l10Form nf).S nf
noncomputable def j51_spec_l10Form (nf : Nat) (args : List Ty) (x104_51 : Bool) : Option (Ty × Bool) := X_spec_l10Form nf c51_spec_l10Form ⟨[(1, .v (kL (kR 0)) args), (4, .pt [4] 0), (104, .v .bool x104_51)], [([4], .box [.v kI (0 : Int), .nl kS, .nl (kR 0)])]⟩ (qB 0 (qS (X_spec_l10Form nf c69_spec_l10Form) (KF [.c 4 (.v (kR 0)), .t 5 (.v .bool)])))
theorem j51_spec_l10Form_eq (nf : Nat) (args : List Ty) (x104_51 : Bool) : j51_spec_l10Form nf args x104_51 = (
  br x104_51 (
    gg (0 ≤ (0 : Int) ∧ (0 : Int) < (List.length args : Int)) <|
      gg (0 ≤ (1 : Int) ∧ (1 : Int) < (List.length ((gt args (0 : Int) Ty.zero).args) : Int)) <|
        cb (m_spec_l3Copy nf nf (gt ((gt args (0 : Int) Ty.zero).args) (1 : Int) Ty.zero)) fun r111 =>
          some ((Ty.h r111), true)) (
    some ((Ty.mk (0 : Int) ([] : List Str) ([] : List Ty)), false))) := by kernel_rfl
theorem m_spec_l10Form_eq (nf : Nat) (e : Tm) (args : List Ty) : m_spec_l10Form nf e args = (
  br (e.kind == (4 : Int)) (
    cb (m_spec_l10Op nf e.name args) fun r18 =>
      some ((Ty.h r18.1), r18.2)) (
    br (e.kind == (5 : Int)) (
      cb (m_spec_l3Rec nf e.labels args) fun r28 =>
        some ((Ty.h r28), true)) (
      br (e.kind == (6 : Int)) (
        gg (0 ≤ (0 : Int) ∧ (0 : Int) < (List.length args : Int)) <|
          cb (m_spec_FieldType nf (gt args (0 : Int) Ty.zero) e.name) fun r37 =>
            some ((Ty.h r37.1), r37.2)) (
        br (e.kind == (8 : Int)) (
          gg (0 ≤ (0 : Int) ∧ (0 : Int) < (List.length args : Int)) <|
            cb (m_spec_l3Bag nf (gt args (0 : Int) Ty.zero)) fun r47 =>
              some ((Ty.h r47), true)) (
          br (e.kind == (9 : Int)) (
            gg (0 ≤ (0 : Int) ∧ (0 : Int) < (List.length args : Int)) <|
              gg (0 ≤ (0 : Int) ∧ (0 : Int) < (List.length args : Int)) <|
                br ((((gt args (0 : Int) Ty.zero).kind) == (4 : Int)) == true) (
                  gg (0 ≤ (0 : Int) ∧ (0 : Int) < (List.length args : Int)) <|
                    gg (0 ≤ (1 : Int) ∧ (1 : Int) < (List.length args : Int)) <|
                      cb (m_spec_EqualType nf nf (gt args (0 : Int) Ty.zero) (gt args (1 : Int) Ty.zero)) fun r65 =>
                        some ((Ty.h (gt args (0 : Int) Ty.zero)), r65)) (
                  some ((Ty.h (gt args (0 : Int) Ty.zero)), false))) (
            br (e.kind == (11 : Int)) (
              gg (0 ≤ (1 : Int) ∧ (1 : Int) < (List.length args : Int)) <|
                gg (0 ≤ (0 : Int) ∧ (0 : Int) < (List.length args : Int)) <|
                  br ((((gt args (0 : Int) Ty.zero).kind) == (2 : Int)) == true) (
                    gg (0 ≤ (1 : Int) ∧ (1 : Int) < (List.length args : Int)) <|
                      gg (0 ≤ (2 : Int) ∧ (2 : Int) < (List.length args : Int)) <|
                        cb (m_spec_EqualType nf nf (gt args (1 : Int) Ty.zero) (gt args (2 : Int) Ty.zero)) fun r84 =>
                          some ((Ty.h (gt args (1 : Int) Ty.zero)), r84)) (
                    some ((Ty.h (gt args (1 : Int) Ty.zero)), false))) (
              br (e.kind == (14 : Int)) (
                gg (0 ≤ (0 : Int) ∧ (0 : Int) < (List.length args : Int)) <|
                  br ((((gt args (0 : Int) Ty.zero).kind) == (5 : Int)) == true) (
                    gg (0 ≤ (0 : Int) ∧ (0 : Int) < (List.length args : Int)) <|
                      gg (0 ≤ (0 : Int) ∧ (0 : Int) < (List.length ((gt args (0 : Int) Ty.zero).args) : Int)) <|
                        gg (0 ≤ (1 : Int) ∧ (1 : Int) < (List.length args : Int)) <|
                          cb (m_spec_EqualType nf nf (gt ((gt args (0 : Int) Ty.zero).args) (0 : Int) Ty.zero) (gt args (1 : Int) Ty.zero)) fun r103 =>
                            mark (j51_spec_l10Form nf args r103)) (
                    mark (j51_spec_l10Form nf args false))) (
                br (e.kind == (15 : Int)) (
                  cb (m_spec_l3Bool nf) fun r114 =>
                    gg (0 ≤ (0 : Int) ∧ (0 : Int) < (List.length args : Int)) <|
                      some ((Ty.h r114), (((gt args (0 : Int) Ty.zero).kind) == (4 : Int)))) (
                  br (e.kind == (16 : Int)) (
                    cb (m_spec_l3Int nf) fun r122 =>
                      gg (0 ≤ (0 : Int) ∧ (0 : Int) < (List.length args : Int)) <|
                        some ((Ty.h r122), (((gt args (0 : Int) Ty.zero).kind) == (4 : Int)))) (
                    some ((Ty.mk (0 : Int) ([] : List Str) ([] : List Ty)), false))))))))))) := by
  unfold m_spec_l10Form j51_spec_l10Form ir_spec_l10Form w51_spec_l10Form c69_spec_l10Form
  generalize c51_spec_l10Form = x0
  revert x0
  refine id ?_
  intro x0
  kernel_rfl
noncomputable def e_spec_l10Form (nf : Nat) : XE := eF 99 [.v (kR 2), .v (kL (kR 0))] [.v (kR 0), .v .bool] (fun t => m_spec_l10Form nf t.1 t.2.1)
theorem o_spec_l10Form (nf : Nat) : conOK Tryz.prog 99 (e_spec_l10Form nf).con := by
  have ih : XT.ok Tryz.prog (T_spec_l10Form nf) := by exact ⟨o_spec_l10Op nf, o_spec_l3Rec nf, o_spec_FieldType nf, o_spec_l3Bag nf, o_spec_EqualType nf, o_spec_l3Copy nf, o_spec_l3Bool nf, o_spec_l3Int nf, trivial⟩
  refine eF_ok fun t x h => ?_
  obtain ⟨e, args, _⟩ := t
  exact runF_ok (N := 129) ih Tryz.func99 (by kernel_rfl) rfl h
def c22_spec_l10Bind : C := .sq (.dw [69, 12] [55] [.ld 56 (.t 3) (kR 5), .mv 57 (.t 1), .fa 58 (.t 5) 2 1 1, .ld 59 (.t 58) kS, .fa 60 (.t 10) 0 2 2, .ld 61 (.t 60) (kL (kR 0)), .ia 62 (.t 61) (.i 0) (kR 0), .ld 63 (.t 62) (kR 0), .cv (some 64) 120 [((.t 57), .v (kL (kR 8))), ((.t 59), .v kS), ((.t 63), .v (kR 0))], .fa 65 (.t 5) 2 5 7, .ld 66 (.t 65) (kL (kR 2)), .ia 67 (.t 66) (.i 1) (kR 2), .ld 68 (.t 67) (kR 2), .ca (some 69) 46 [((.t 56), .v (kR 5)), ((.t 64), .v (kL (kR 8))), ((.t 68), .v (kR 2))], .mv 55 (.t 69), .xt 70 (.t 55) 0, .xt 71 (.t 55) 1, .al 12 (kR 0)] 12 (.t 70) (kR 0) [.mv 13 (.t 71)]) (.sq (.dw [] [12, 74, 75, 76, 77] [.ld 72 (.t 12) (kR 0), .mv 73 (.t 13), .mv 74 (.t 73), .g 74 true (.fa 75 (.t 12) 0 0 0), .g 74 true (.ld 76 (.t 75) kI), .g 74 true (.bi 77 .eql (.t 76) (.i 4)), .pk 78 (.t 74) (.t 77) (.b false)] 6 (.t 72) (kR 0) [.mv 7 (.t 78)]) .rt)
def c17_spec_l10Bind : C := .cd (.t 53) (.sq (.rg [.bd 54 0 [], .st (.t 6) (.t 54) (kR 0), .mv 7 (.b false)]) .rt) .skip
def w17_spec_l10Bind : C := .kp [1, 3, 5, 6, 10, 53] [[3], [5], [6], [10]] c17_spec_l10Bind
def ir_spec_l10Bind : C := .sq (.rg [.bx 3 (.t 0) (kR 5), .bx 5 (.t 2) (kR 2), .al 6 (kR 0), .mv 7 (.b false)]) (.sq (.sq (.rg [.fa 14 (.t 5) 2 0 0, .ld 15 (.t 14) kI, .bi 16 .eql (.t 15) (.i 13)]) (.cd (.t 16) (.sq (.dw [29, 8] [17] [.ld 18 (.t 3) (kR 5), .mv 19 (.t 1), .fa 20 (.t 5) 2 1 1, .ld 21 (.t 20) kS, .fa 22 (.t 5) 2 3 3, .ld 23 (.t 22) (kR 0), .cv (some 24) 120 [((.t 19), .v (kL (kR 8))), ((.t 21), .v kS), ((.t 23), .v (kR 0))], .fa 25 (.t 5) 2 5 7, .ld 26 (.t 25) (kL (kR 2)), .ia 27 (.t 26) (.i 0) (kR 2), .ld 28 (.t 27) (kR 2), .ca (some 29) 46 [((.t 18), .v (kR 5)), ((.t 24), .v (kL (kR 8))), ((.t 28), .v (kR 2))], .mv 17 (.t 29), .xt 30 (.t 17) 0, .xt 31 (.t 17) 1, .al 8 (kR 0)] 8 (.t 30) (kR 0) [.mv 9 (.t 31)]) (.sq (.rg [.fa 32 (.t 5) 2 3 3, .ld 33 (.t 32) (kR 0), .ld 34 (.t 8) (kR 0), .cv (some 35) 121 [((.t 33), .v (kR 0)), ((.t 34), .v (kR 0))], .mv 36 (.t 9), .st (.t 6) (.t 35) (kR 0), .mv 7 (.t 36)]) .rt)) .skip)) (.sq (.dw [44, 10] [37] [.ld 38 (.t 3) (kR 5), .mv 39 (.t 1), .fa 40 (.t 5) 2 5 7, .ld 41 (.t 40) (kL (kR 2)), .ia 42 (.t 41) (.i 0) (kR 2), .ld 43 (.t 42) (kR 2), .ca (some 44) 46 [((.t 38), .v (kR 5)), ((.t 39), .v (kL (kR 8))), ((.t 43), .v (kR 2))], .mv 37 (.t 44), .xt 45 (.t 37) 0, .xt 46 (.t 37) 1, .al 10 (kR 0)] 10 (.t 45) (kR 0) [.mv 11 (.t 46)]) (.sq (.sq (.rg [.mv 47 (.t 11), .un 48 .not (.t 47), .mv 49 (.t 48), .g 49 false (.fa 50 (.t 10) 0 0 0), .g 49 false (.ld 51 (.t 50) kI), .g 49 false (.bi 52 .neq (.t 51) (.i 4)), .pk 53 (.t 49) (.b true) (.t 52)]) w17_spec_l10Bind) c22_spec_l10Bind)))
def c49_spec_l10Some : C := .sq (.gz 12 (kL (kR 0)) (.rg [.ld 75 (.t 5) (kR 2), .mv 76 (.t 12), .ca (some 77) 99 [((.t 75), .v (kR 2)), ((.t 76), .v (kL (kR 0)))], .mv 74 (.t 77), .xt 78 (.t 74) 0, .xt 79 (.t 74) 1, .al 16 (kR 0), .st (.t 16) (.t 78) (kR 0), .mv 17 (.t 79)])) (.sq (.rg [.ld 80 (.t 16) (kR 0), .mv 81 (.t 17), .st (.t 6) (.t 80) (kR 0), .mv 7 (.t 81)]) .rt)
def w49_spec_l10Some : C := .kp [5, 6, 12] [[5], [6], [12]] c49_spec_l10Some
def c29_spec_l10Some : C := .sq (.sq (.rg [.mv 49 (.t 13), .fa 50 (.t 5) 2 5 7, .ld 51 (.t 50) (kL (kR 2)), .ln 52 false (.t 51), .bi 53 .lss (.t 49) (.t 52)]) (.cd (.t 53) .skip (.ex 0))) (.sq (.bk 1 (.sq (.dw [64, 14] [56] [.ld 57 (.t 3) (kR 5), .mv 58 (.t 1), .fa 59 (.t 5) 2 5 7, .ld 60 (.t 59) (kL (kR 2)), .mv 61 (.t 13), .ia 62 (.t 60) (.t 61) (kR 2), .ld 63 (.t 62) (kR 2), .ca (some 64) 46 [((.t 57), .v (kR 5)), ((.t 58), .v (kL (kR 8))), ((.t 63), .v (kR 2))], .mv 56 (.t 64), .xt 65 (.t 56) 0, .xt 66 (.t 56) 1, .al 14 (kR 0)] 14 (.t 65) (kR 0) [.mv 15 (.t 66)]) (.sq (.sq (.rg [.mv 67 (.t 15), .un 68 .not (.t 67)]) (.cd (.t 68) (.sq (.rg [.bd 69 0 [], .st (.t 6) (.t 69) (kR 0), .mv 7 (.b false)]) .rt) .skip)) (.gt 12 false (kR 0) (.rg [.mv 70 (.t 12), .ld 71 (.t 14) (kR 0), .bs 72 false (kR 0) [(.t 71)], .ap 73 [12] false (kR 0) (.t 70) (.t 72), .mv 12 (.t 73)]))))) (.rg [.mv 54 (.t 13), .bi 55 .add (.t 54) (.i 1), .mv 13 (.t 55)]))
def c12_spec_l10Some : C := .sq (.sq (.rg [.fa 35 (.t 5) 2 5 7, .ld 36 (.t 35) (kL (kR 2)), .ln 37 false (.t 36), .bi 38 .eql (.t 37) (.i 0)]) (.cd (.t 38) (.sq (.rg [.ld 40 (.t 3) (kR 5), .mv 41 (.t 1), .ld 42 (.t 5) (kR 2), .ca (some 43) 98 [((.t 40), .v (kR 5)), ((.t 41), .v (kL (kR 8))), ((.t 42), .v (kR 2))], .mv 39 (.t 43), .xt 44 (.t 39) 0, .xt 45 (.t 39) 1, .al 10 (kR 0), .st (.t 10) (.t 44) (kR 0), .mv 11 (.t 45)]) (.sq (.rg [.ld 46 (.t 10) (kR 0), .mv 47 (.t 11), .st (.t 6) (.t 46) (kR 0), .mv 7 (.t 47)]) .rt)) .skip)) (.sq (.rg [.bs 48 false (kR 0) [], .mv 12 (.t 48)]) (.sq (.sq (.rg [.mv 13 (.i 0)]) (.bk 0 (.gt 12 false (kR 0) (.lk [1, 3, 5, 6, 12, 13] [[3], [5], [6], [12]] c29_spec_l10Some)))) w49_spec_l10Some))
def c5_spec_l10Some : C := .cd (.t 25) (.sq (.rg [.ld 27 (.t 3) (kR 5), .mv 28 (.t 1), .ld 29 (.t 5) (kR 2), .ca (some 30) 97 [((.t 27), .v (kR 5)), ((.t 28), .v (kL (kR 8))), ((.t 29), .v (kR 2))], .mv 26 (.t 30), .xt 31 (.t 26) 0, .xt 32 (.t 26) 1, .al 8 (kR 0), .st (.t 8) (.t 31) (kR 0), .mv 9 (.t 32)]) (.sq (.rg [.ld 33 (.t 8) (kR 0), .mv 34 (.t 9), .st (.t 6) (.t 33) (kR 0), .mv 7 (.t 34)]) .rt)) .skip
def w5_spec_l10Some : C := .kp [1, 3, 5, 6, 25] [[3], [5], [6]] c5_spec_l10Some
def ir_spec_l10Some : C := .sq (.rg [.bx 3 (.t 0) (kR 5), .bx 5 (.t 2) (kR 2), .al 6 (kR 0), .mv 7 (.b false)]) (.sq (.sq (.rg [.fa 18 (.t 5) 2 0 0, .ld 19 (.t 18) kI, .bi 20 .eql (.t 19) (.i 13), .mv 21 (.t 20), .g 21 false (.fa 22 (.t 5) 2 0 0), .g 21 false (.ld 23 (.t 22) kI), .g 21 false (.bi 24 .eql (.t 23) (.i 10)), .pk 25 (.t 21) (.b true) (.t 24)]) w5_spec_l10Some) c12_spec_l10Some)
def c12_spec_l10Type : C := .sq (.rg [.ld 25 (.t 8) (kR 0), .st (.t 6) (.t 25) (kR 0), .mv 7 (.b true)]) .rt
def c7_spec_l10Type : C := .cd (.t 23) (.sq (.rg [.bd 24 0 [], .st (.t 6) (.t 24) (kR 0), .mv 7 (.b false)]) .rt) .skip
def w7_spec_l10Type : C := .kp [6, 8, 23] [[6], [8]] c7_spec_l10Type
def ir_spec_l10Type : C := .sq (.rg [.bx 3 (.t 0) (kR 5), .bx 5 (.t 2) (kR 2), .al 6 (kR 0), .mv 7 (.b false)]) (.sq (.rg [.ld 11 (.t 3) (kR 5), .mv 12 (.t 1), .ld 13 (.t 5) (kR 2), .ca (some 14) 77 [((.t 11), .v (kR 5)), ((.t 12), .v (kL (kR 8))), ((.t 13), .v (kR 2))], .mv 10 (.t 14), .xt 15 (.t 10) 0, .xt 16 (.t 10) 1, .al 8 (kR 0), .st (.t 8) (.t 15) (kR 0), .mv 9 (.t 16)]) (.sq (.sq (.rg [.mv 17 (.t 9), .un 18 .not (.t 17), .mv 19 (.t 18), .g 19 false (.ld 20 (.t 8) (kR 0)), .g 19 false (.cv (some 21) 64 [((.t 20), .v (kR 0))]), .g 19 false (.un 22 .not (.t 21)), .pk 23 (.t 19) (.b true) (.t 22)]) w7_spec_l10Type) c12_spec_l10Type))
noncomputable def B_spec_l10Bind (nf : Nat) : XT := [e_spec_l10With nf, e_spec_l3Fun nf, e_spec_l10Leaf nf, e_spec_l10Form nf, e_spec_IsValidType nf]
noncomputable def G_spec_l10Bind (nf : Nat) : Nat → XT
  | 0 => []
  | kf + 1 => [eF 97 [.v (kR 5), .v (kL (kR 8)), .v (kR 2)] [.v (kR 0), .v .bool] (fun t => (fun (s : Schema) (ctx : List Typing) (e : Tm) => runF (G_spec_l10Bind nf kf ++ B_spec_l10Bind nf) nf [.v (kR 5), .v (kL (kR 8)), .v (kR 2)] [.c 6 (.v (kR 0)), .t 7 (.v .bool)] ir_spec_l10Bind (s, ctx, e, ())) t.1 t.2.1 t.2.2.1),
    eF 77 [.v (kR 5), .v (kL (kR 8)), .v (kR 2)] [.v (kR 0), .v .bool] (fun t => (fun (s : Schema) (ctx : List Typing) (e : Tm) => runF (G_spec_l10Bind nf kf ++ B_spec_l10Bind nf) nf [.v (kR 5), .v (kL (kR 8)), .v (kR 2)] [.c 6 (.v (kR 0)), .t 7 (.v .bool)] ir_spec_l10Some (s, ctx, e, ())) t.1 t.2.1 t.2.2.1),
    eF 46 [.v (kR 5), .v (kL (kR 8)), .v (kR 2)] [.v (kR 0), .v .bool] (fun t => (fun (s : Schema) (ctx : List Typing) (e : Tm) => runF (G_spec_l10Bind nf kf ++ B_spec_l10Bind nf) nf [.v (kR 5), .v (kL (kR 8)), .v (kR 2)] [.c 6 (.v (kR 0)), .t 7 (.v .bool)] ir_spec_l10Type (s, ctx, e, ())) t.1 t.2.1 t.2.2.1)]
noncomputable abbrev T_spec_l10Bind (nf kf : Nat) : XT := G_spec_l10Bind nf kf ++ B_spec_l10Bind nf
noncomputable abbrev T_spec_l10Some (nf kf : Nat) : XT := G_spec_l10Bind nf kf ++ B_spec_l10Bind nf
noncomputable abbrev T_spec_l10Type (nf kf : Nat) : XT := G_spec_l10Bind nf kf ++ B_spec_l10Bind nf
noncomputable def m_spec_l10Bind (nf kf : Nat) (s : Schema) (ctx : List Typing) (e : Tm) : Option (Ty × Bool) := runF (T_spec_l10Bind nf kf) nf [.v (kR 5), .v (kL (kR 8)), .v (kR 2)] [.c 6 (.v (kR 0)), .t 7 (.v .bool)] ir_spec_l10Bind (s, ctx, e, ())
noncomputable def X_spec_l10Bind {R : Type} (nf kf : Nat) : C → Env → (Xt → Env → Option R) → Option R := xc (R := R) (T_spec_l10Bind nf kf).S nf
noncomputable def m_spec_l10Some (nf kf : Nat) (s : Schema) (ctx : List Typing) (e : Tm) : Option (Ty × Bool) := runF (T_spec_l10Some nf kf) nf [.v (kR 5), .v (kL (kR 8)), .v (kR 2)] [.c 6 (.v (kR 0)), .t 7 (.v .bool)] ir_spec_l10Some (s, ctx, e, ())
noncomputable def X_spec_l10Some {R : Type} (nf kf : Nat) : C → Env → (Xt → Env → Option R) → Option R := xc (R := R) (T_spec_l10Some nf kf).S nf
noncomputable def m_spec_l10Type (nf kf : Nat) (s : Schema) (ctx : List Typing) (e : Tm) : Option (Ty × Bool) := runF (T_spec_l10Type nf kf) nf [.v (kR 5), .v (kL (kR 8)), .v (kR 2)] [.c 6 (.v (kR 0)), .t 7 (.v .bool)] ir_spec_l10Type (s, ctx, e, ())
noncomputable def X_spec_l10Type {R : Type} (nf kf : Nat) : C → Env → (Xt → Env → Option R) → Option R := xc (R := R) (T_spec_l10Type nf kf).S nf
noncomputable def j17_spec_l10Bind (nf kf : Nat) (ctx : List Typing) (s : Schema) (e : Tm) (r44 : Ty × Bool) (x53_17 : Bool) : Option (Ty × Bool) := X_spec_l10Bind nf kf c17_spec_l10Bind ⟨[(1, .v (kL (kR 8)) ctx), (3, .pt [3] 0), (5, .pt [5] 0), (6, .pt [6] 0), (10, .pt [10] 0), (53, .v .bool x53_17)], [([3], .box [.v (kL (kR 4)) s.tables]), ([5], .box [.v kI e.kind, .v kS e.name, .v kI e.n, .v kI e.type.kind, .v (kL kS) e.type.labels, .v (kL (kR 0)) e.type.args, .v (kL kS) e.labels, .v (kL (kR 2)) e.args]), ([6], .box [.v kI (0 : Int), .nl kS, .nl (kR 0)]), ([10], .box [.v kI r44.1.kind, .v (kL kS) r44.1.labels, .v (kL (kR 0)) r44.1.args])]⟩ (qS (X_spec_l10Bind nf kf c22_spec_l10Bind) (KF [.c 6 (.v (kR 0)), .t 7 (.v .bool)]))
theorem j17_spec_l10Bind_eq (nf kf : Nat) (ctx : List Typing) (s : Schema) (e : Tm) (r44 : Ty × Bool) (x53_17 : Bool) : j17_spec_l10Bind nf (kf + 1) ctx s e r44 x53_17 = (
  br x53_17 (
    some ((Ty.mk (0 : Int) ([] : List Str) ([] : List Ty)), false)) (
    gg (0 ≤ (0 : Int) ∧ (0 : Int) < (List.length r44.1.args : Int)) <|
      cb (m_spec_l10With nf ctx e.name (gt r44.1.args (0 : Int) Ty.zero)) fun r64 =>
        gg (0 ≤ (1 : Int) ∧ (1 : Int) < (List.length e.args : Int)) <|
          cb (m_spec_l10Type nf kf s r64 (gt e.args (1 : Int) Tm.zero)) fun r69 =>
            br (r69.2 == true) (
              some ((Ty.h r69.1), (r69.1.kind == (4 : Int)))) (
              some ((Ty.h r69.1), false)))) := by kernel_rfl
theorem m_spec_l10Bind_eq (nf kf : Nat) (s : Schema) (ctx : List Typing) (e : Tm) : m_spec_l10Bind nf (kf + 1) s ctx e = (
  br (e.kind == (13 : Int)) (
    cb (m_spec_l10With nf ctx e.name (Ty.h e.type)) fun r24 =>
      gg (0 ≤ (0 : Int) ∧ (0 : Int) < (List.length e.args : Int)) <|
        cb (m_spec_l10Type nf kf s r24 (gt e.args (0 : Int) Tm.zero)) fun r29 =>
          cb (m_spec_l3Fun nf (Ty.h e.type) (Ty.h r29.1)) fun r35 =>
            some ((Ty.h r35), r29.2)) (
    gg (0 ≤ (0 : Int) ∧ (0 : Int) < (List.length e.args : Int)) <|
      cb (m_spec_l10Type nf kf s ctx (gt e.args (0 : Int) Tm.zero)) fun r44 =>
        br ((!r44.2) == false) (
          mark (j17_spec_l10Bind nf (kf + 1) ctx s e r44 (!(r44.1.kind == (4 : Int))))) (
          mark (j17_spec_l10Bind nf (kf + 1) ctx s e r44 true)))) := by
  unfold m_spec_l10Bind j17_spec_l10Bind ir_spec_l10Bind w17_spec_l10Bind c22_spec_l10Bind
  generalize c17_spec_l10Bind = x0
  revert x0
  refine id ?_
  intro x0
  kernel_rfl
noncomputable def j5_spec_l10Some (nf kf : Nat) (ctx : List Typing) (s : Schema) (e : Tm) (x25_5 : Bool) : Option (Ty × Bool) := X_spec_l10Some nf kf c5_spec_l10Some ⟨[(1, .v (kL (kR 8)) ctx), (3, .pt [3] 0), (5, .pt [5] 0), (6, .pt [6] 0), (25, .v .bool x25_5)], [([3], .box [.v (kL (kR 4)) s.tables]), ([5], .box [.v kI e.kind, .v kS e.name, .v kI e.n, .v kI e.type.kind, .v (kL kS) e.type.labels, .v (kL (kR 0)) e.type.args, .v (kL kS) e.labels, .v (kL (kR 2)) e.args]), ([6], .box [.v kI (0 : Int), .nl kS, .nl (kR 0)])]⟩ (qS (X_spec_l10Some nf kf c12_spec_l10Some) (KF [.c 6 (.v (kR 0)), .t 7 (.v .bool)]))
noncomputable def l28_spec_l10Some (nf kf : Nat) (m28 : Nat) (ctx : List Typing) (s : Schema) (e : Tm) (x13_28 : Int) (y12_28 : List Ty) : Option (Ty × Bool) := xit [1, 3, 5, 6, 12, 13] [[3], [5], [6], [12]] (X_spec_l10Some nf kf c29_spec_l10Some) (qB 0 (qS (X_spec_l10Some nf kf w49_spec_l10Some) (KF [.c 6 (.v (kR 0)), .t 7 (.v .bool)]))) m28 ⟨[(1, .v (kL (kR 8)) ctx), (3, .pt [3] 0), (5, .pt [5] 0), (6, .pt [6] 0), (12, .sl [12]), (13, .v kI x13_28)], [([3], .box [.v (kL (kR 4)) s.tables]), ([5], .box [.v kI e.kind, .v kS e.name, .v kI e.n, .v kI e.type.kind, .v (kL kS) e.type.labels, .v (kL (kR 0)) e.type.args, .v (kL kS) e.labels, .v (kL (kR 2)) e.args]), ([6], .box [.v kI (0 : Int), .nl kS, .nl (kR 0)]), ([12], .row false false (kR 0) y12_28)]⟩
noncomputable def j49_spec_l10Some (nf kf : Nat) (e : Tm) (y12_28 : List Ty) : Option (Ty × Bool) := X_spec_l10Some nf kf c49_spec_l10Some ⟨[(5, .pt [5] 0), (6, .pt [6] 0), (12, .sl [12])], [([5], .box [.v kI e.kind, .v kS e.name, .v kI e.n, .v kI e.type.kind, .v (kL kS) e.type.labels, .v (kL (kR 0)) e.type.args, .v (kL kS) e.labels, .v (kL (kR 2)) e.args]), ([6], .box [.v kI (0 : Int), .nl kS, .nl (kR 0)]), ([12], .row false false (kR 0) y12_28)]⟩ (KF [.c 6 (.v (kR 0)), .t 7 (.v .bool)])
theorem j5_spec_l10Some_eq (nf kf : Nat) (ctx : List Typing) (s : Schema) (e : Tm) (x25_5 : Bool) : j5_spec_l10Some nf (kf + 1) ctx s e x25_5 = (
  br x25_5 (
    cb (m_spec_l10Bind nf kf s ctx (Tm.h e)) fun r30 =>
      some ((Ty.h r30.1), r30.2)) (
    br ((List.length e.args : Int) == (0 : Int)) (
      cb (m_spec_l10Leaf nf s ctx (Tm.h e)) fun r43 =>
        some ((Ty.h r43.1), r43.2)) (
      mark (l28_spec_l10Some nf (kf + 1) nf ctx s e (0 : Int) ([] : List Ty))))) := by
  unfold j5_spec_l10Some l28_spec_l10Some c5_spec_l10Some c12_spec_l10Some w49_spec_l10Some
  generalize c49_spec_l10Some = x0
  revert x0
  refine id ?_
  intro x0
  kernel_rfl
theorem l28_spec_l10Some_eq (nf kf : Nat) (m28 : Nat) (ctx : List Typing) (s : Schema) (e : Tm) (x13_28 : Int) (y12_28 : List Ty) : l28_spec_l10Some nf (kf + 1) (m28 + 1) ctx s e x13_28 y12_28 = (
  br (decide (x13_28 < (List.length e.args : Int))) (
    gg (0 ≤ x13_28 ∧ x13_28 < (List.length e.args : Int)) <|
      cb (m_spec_l10Type nf kf s ctx (gt e.args x13_28 Tm.zero)) fun r64 =>
        br (!r64.2) (
          some ((Ty.mk (0 : Int) ([] : List Str) ([] : List Ty)), false)) (
          gg (List.length y12_28 + List.length ([(Ty.h r64.1)] : List Ty) ≤ 33554432) <|
            mark (l28_spec_l10Some nf (kf + 1) m28 ctx s e (w64 (x13_28 + (1 : Int))) (y12_28 ++ ([(Ty.h r64.1)] : List Ty))))) (
    mark (j49_spec_l10Some nf (kf + 1) e y12_28))) := by
  unfold l28_spec_l10Some j49_spec_l10Some c29_spec_l10Some w49_spec_l10Some
  generalize c49_spec_l10Some = x0
  revert x0
  refine id ?_
  intro x0
  kernel_rfl
theorem j49_spec_l10Some_eq (nf kf : Nat) (e : Tm) (y12_28 : List Ty) : j49_spec_l10Some nf (kf + 1) e y12_28 = (
  cb (m_spec_l10Form nf (Tm.h e) y12_28) fun r77 =>
    some ((Ty.h r77.1), r77.2)) := by kernel_rfl
theorem m_spec_l10Some_eq (nf kf : Nat) (s : Schema) (ctx : List Typing) (e : Tm) : m_spec_l10Some nf (kf + 1) s ctx e = (
  br ((e.kind == (13 : Int)) == false) (
    mark (j5_spec_l10Some nf (kf + 1) ctx s e (e.kind == (10 : Int)))) (
    mark (j5_spec_l10Some nf (kf + 1) ctx s e true))) := by
  unfold m_spec_l10Some j5_spec_l10Some ir_spec_l10Some w5_spec_l10Some c12_spec_l10Some w49_spec_l10Some
  generalize c5_spec_l10Some = x0
  generalize c49_spec_l10Some = x1
  revert x0 x1
  refine id ?_
  intro x0 x1
  kernel_rfl
noncomputable def j7_spec_l10Type (nf kf : Nat) (r14 : Ty × Bool) (x23_7 : Bool) : Option (Ty × Bool) := X_spec_l10Type nf kf c7_spec_l10Type ⟨[(6, .pt [6] 0), (8, .pt [8] 0), (23, .v .bool x23_7)], [([6], .box [.v kI (0 : Int), .nl kS, .nl (kR 0)]), ([8], .box [.v kI r14.1.kind, .v (kL kS) r14.1.labels, .v (kL (kR 0)) r14.1.args])]⟩ (qS (X_spec_l10Type nf kf c12_spec_l10Type) (KF [.c 6 (.v (kR 0)), .t 7 (.v .bool)]))
theorem j7_spec_l10Type_eq (nf kf : Nat) (r14 : Ty × Bool) (x23_7 : Bool) : j7_spec_l10Type nf (kf + 1) r14 x23_7 = (
  br x23_7 (
    some ((Ty.mk (0 : Int) ([] : List Str) ([] : List Ty)), false)) (
    some ((Ty.h r14.1), true))) := by kernel_rfl
theorem m_spec_l10Type_eq (nf kf : Nat) (s : Schema) (ctx : List Typing) (e : Tm) : m_spec_l10Type nf (kf + 1) s ctx e = (
  cb (m_spec_l10Some nf kf s ctx (Tm.h e)) fun r14 =>
    br ((!r14.2) == false) (
      cb (m_spec_IsValidType nf (Ty.h r14.1)) fun r21 =>
        mark (j7_spec_l10Type nf (kf + 1) r14 (!r21))) (
      mark (j7_spec_l10Type nf (kf + 1) r14 true))) := by
  unfold m_spec_l10Type j7_spec_l10Type ir_spec_l10Type w7_spec_l10Type c12_spec_l10Type
  generalize c7_spec_l10Type = x0
  revert x0
  refine id ?_
  intro x0
  kernel_rfl
noncomputable def e_spec_l10Type (nf : Nat) : XE := eF 46 [.v (kR 5), .v (kL (kR 8)), .v (kR 2)] [.v (kR 0), .v .bool] (fun t => m_spec_l10Type nf nf t.1 t.2.1 t.2.2.1)
theorem gok_spec_l10Bind (nf : Nat) : ∀ kf : Nat, XT.ok Tryz.prog (G_spec_l10Bind nf kf ++ B_spec_l10Bind nf)
  | 0 => by exact ⟨o_spec_l10With nf, o_spec_l3Fun nf, o_spec_l10Leaf nf, o_spec_l10Form nf, o_spec_IsValidType nf, trivial⟩
  | kf + 1 => by
    have ih := gok_spec_l10Bind nf kf
    refine ⟨?_, ?_, ?_, (by exact ⟨o_spec_l10With nf, o_spec_l3Fun nf, o_spec_l10Leaf nf, o_spec_l10Form nf, o_spec_IsValidType nf, trivial⟩)⟩
    · refine eF_ok fun t x h => ?_
      obtain ⟨s, ctx, e, _⟩ := t
      exact runF_ok (N := 79) ih Tryz.func97 (by kernel_rfl) rfl h
    · refine eF_ok fun t x h => ?_
      obtain ⟨s, ctx, e, _⟩ := t
      exact runF_ok (N := 82) ih Tryz.func77 (by kernel_rfl) rfl h
    · refine eF_ok fun t x h => ?_
      obtain ⟨s, ctx, e, _⟩ := t
      exact runF_ok (N := 26) ih Tryz.func46 (by kernel_rfl) rfl h
theorem o_spec_l10Type (nf : Nat) : conOK Tryz.prog 46 (e_spec_l10Type nf).con := by
  have ih := gok_spec_l10Bind nf nf
  refine eF_ok fun t x h => ?_
  obtain ⟨s, ctx, e, _⟩ := t
  exact runF_ok (N := 26) ih Tryz.func46 (by kernel_rfl) rfl h
def c10_spec_TypeOf : C := .sq (.rg [.ld 25 (.t 3) (kR 5), .mv 26 (.t 1), .ld 27 (.t 5) (kR 2), .ca (some 28) 46 [((.t 25), .v (kR 5)), ((.t 26), .v (kL (kR 8))), ((.t 27), .v (kR 2))], .mv 24 (.t 28), .xt 29 (.t 24) 0, .xt 30 (.t 24) 1, .al 8 (kR 0), .st (.t 8) (.t 29) (kR 0), .mv 9 (.t 30)]) (.sq (.rg [.ld 31 (.t 8) (kR 0), .mv 32 (.t 9), .st (.t 6) (.t 31) (kR 0), .mv 7 (.t 32)]) .rt)
def c5_spec_TypeOf : C := .cd (.t 22) (.sq (.rg [.bd 23 0 [], .st (.t 6) (.t 23) (kR 0), .mv 7 (.b false)]) .rt) .skip
def w5_spec_TypeOf : C := .kp [1, 3, 5, 6, 22] [[3], [5], [6]] c5_spec_TypeOf
def ir_spec_TypeOf : C := .sq (.rg [.bx 3 (.t 0) (kR 5), .bx 5 (.t 2) (kR 2), .al 6 (kR 0), .mv 7 (.b false)]) (.sq (.sq (.rg [.ld 10 (.t 3) (kR 5), .cv (some 11) 43 [((.t 10), .v (kR 5))], .un 12 .not (.t 11), .mv 13 (.t 12), .g 13 false (.mv 14 (.t 1)), .g 13 false (.cv (some 15) 44 [((.t 14), .v (kL (kR 8)))]), .g 13 false (.un 16 .not (.t 15)), .pk 17 (.t 13) (.b true) (.t 16), .mv 18 (.t 17), .g 18 false (.ld 19 (.t 5) (kR 2)), .g 18 false (.cv (some 20) 45 [((.t 19), .v (kR 2))]), .g 18 false (.un 21 .not (.t 20)), .pk 22 (.t 18) (.b true) (.t 21)]) w5_spec_TypeOf) c10_spec_TypeOf)
noncomputable abbrev T_spec_TypeOf (nf : Nat) : XT := [e_spec_IsSchema nf, e_spec_IsCtx nf, e_spec_IsValidTerm nf, e_spec_l10Type nf]
noncomputable def m_spec_TypeOf (nf : Nat) (s : Schema) (ctx : List Typing) (e : Tm) : Option (Ty × Bool) := runF (T_spec_TypeOf nf) nf [.v (kR 5), .v (kL (kR 8)), .v (kR 2)] [.c 6 (.v (kR 0)), .t 7 (.v .bool)] ir_spec_TypeOf (s, ctx, e, ())
noncomputable def X_spec_TypeOf {R : Type} (nf : Nat) : C → Env → (Xt → Env → Option R) → Option R := xc (R := R) (T_spec_TypeOf nf).S nf
noncomputable def j5_spec_TypeOf (nf : Nat) (ctx : List Typing) (s : Schema) (e : Tm) (x22_5 : Bool) : Option (Ty × Bool) := X_spec_TypeOf nf c5_spec_TypeOf ⟨[(1, .v (kL (kR 8)) ctx), (3, .pt [3] 0), (5, .pt [5] 0), (6, .pt [6] 0), (22, .v .bool x22_5)], [([3], .box [.v (kL (kR 4)) s.tables]), ([5], .box [.v kI e.kind, .v kS e.name, .v kI e.n, .v kI e.type.kind, .v (kL kS) e.type.labels, .v (kL (kR 0)) e.type.args, .v (kL kS) e.labels, .v (kL (kR 2)) e.args]), ([6], .box [.v kI (0 : Int), .nl kS, .nl (kR 0)])]⟩ (qS (X_spec_TypeOf nf c10_spec_TypeOf) (KF [.c 6 (.v (kR 0)), .t 7 (.v .bool)]))
theorem j5_spec_TypeOf_eq (nf : Nat) (ctx : List Typing) (s : Schema) (e : Tm) (x22_5 : Bool) : j5_spec_TypeOf nf ctx s e x22_5 = (
  br x22_5 (
    some ((Ty.mk (0 : Int) ([] : List Str) ([] : List Ty)), false)) (
    cb (m_spec_l10Type nf nf s ctx (Tm.h e)) fun r28 =>
      some ((Ty.h r28.1), r28.2))) := by kernel_rfl
theorem m_spec_TypeOf_eq (nf : Nat) (s : Schema) (ctx : List Typing) (e : Tm) : m_spec_TypeOf nf s ctx e = (
  cb (m_spec_IsSchema nf s) fun r11 =>
    br ((!r11) == false) (
      cb (m_spec_IsCtx nf ctx) fun r15 =>
        br ((!r15) == false) (
          cb (m_spec_IsValidTerm nf (Tm.h e)) fun r20 =>
            mark (j5_spec_TypeOf nf ctx s e (!r20))) (
          mark (j5_spec_TypeOf nf ctx s e true))) (
      mark (j5_spec_TypeOf nf ctx s e true))) := by
  unfold m_spec_TypeOf j5_spec_TypeOf ir_spec_TypeOf w5_spec_TypeOf c10_spec_TypeOf
  generalize c5_spec_TypeOf = x0
  revert x0
  refine id ?_
  intro x0
  kernel_rfl
noncomputable def e_spec_TypeOf (nf : Nat) : XE := eF 17 [.v (kR 5), .v (kL (kR 8)), .v (kR 2)] [.v (kR 0), .v .bool] (fun t => m_spec_TypeOf nf t.1 t.2.1 t.2.2.1)
theorem o_spec_TypeOf (nf : Nat) : conOK Tryz.prog 17 (e_spec_TypeOf nf).con := by
  have ih : XT.ok Tryz.prog (T_spec_TypeOf nf) := by exact ⟨o_spec_IsSchema nf, o_spec_IsCtx nf, o_spec_IsValidTerm nf, o_spec_l10Type nf, trivial⟩
  refine eF_ok fun t x h => ?_
  obtain ⟨s, ctx, e, _⟩ := t
  exact runF_ok (N := 33) ih Tryz.func17 (by kernel_rfl) rfl h
def ir_spec_IsQuery : C := .sq (.rg [.bx 2 (.t 0) (kR 5), .bx 3 (.t 1) (kR 2), .mv 4 (.b false)]) (.sq (.rg [.ld 8 (.t 2) (kR 5), .bs 9 false (kR 8) [], .ld 10 (.t 3) (kR 2), .ca (some 11) 17 [((.t 8), .v (kR 5)), ((.t 9), .v (kL (kR 8))), ((.t 10), .v (kR 2))], .mv 7 (.t 11), .xt 12 (.t 7) 0, .xt 13 (.t 7) 1, .al 5 (kR 0), .st (.t 5) (.t 12) (kR 0), .mv 6 (.t 13)]) (.sq (.rg [.mv 14 (.t 6), .mv 15 (.t 14), .g 15 true (.fa 16 (.t 5) 0 0 0), .g 15 true (.ld 17 (.t 16) kI), .g 15 true (.bi 18 .eql (.t 17) (.i 4)), .pk 19 (.t 15) (.t 18) (.b false), .mv 20 (.t 19), .g 20 true (.ld 21 (.t 5) (kR 0)), .g 20 true (.cv (some 22) 31 [((.t 21), .v (kR 0))]), .pk 23 (.t 20) (.t 22) (.b false), .mv 4 (.t 23)]) .rt))
noncomputable abbrev T_spec_IsQuery (nf : Nat) : XT := [e_spec_TypeOf nf, e_spec_IsData nf]
noncomputable def m_spec_IsQuery (nf : Nat) (s : Schema) (e : Tm) : Option (Bool) := runF (T_spec_IsQuery nf) nf [.v (kR 5), .v (kR 2)] [.t 4 (.v .bool)] ir_spec_IsQuery (s, e, ())
theorem m_spec_IsQuery_eq (nf : Nat) (s : Schema) (e : Tm) : m_spec_IsQuery nf s e = (
  cb (m_spec_TypeOf nf s ([] : List Typing) (Tm.h e)) fun r11 =>
    br (r11.2 == true) (
      br ((r11.1.kind == (4 : Int)) == true) (
        cb (m_spec_IsData nf (Ty.h r11.1)) fun r22 =>
          some r22) (
        some false)) (
      some false)) := by kernel_rfl
noncomputable def e_spec_IsQuery (nf : Nat) : XE := eF 8 [.v (kR 5), .v (kR 2)] [.v .bool] (fun t => m_spec_IsQuery nf t.1 t.2.1)
theorem o_spec_IsQuery (nf : Nat) : conOK Tryz.prog 8 (e_spec_IsQuery nf).con := by
  have ih : XT.ok Tryz.prog (T_spec_IsQuery nf) := by exact ⟨o_spec_TypeOf nf, o_spec_IsData nf, trivial⟩
  refine eF_ok fun t x h => ?_
  obtain ⟨s, e, _⟩ := t
  exact runF_ok (N := 24) ih Tryz.func8 (by kernel_rfl) rfl h
def ir_spec_l1Bit : C := .sq (.rg [.mv 2 (.i 0)]) (.sq (.sq (.rg [.mv 3 (.t 0)]) (.cd (.t 3) (.sq (.rg [.mv 2 (.i 1)]) .rt) .skip)) (.sq (.rg [.mv 2 (.i 0)]) .rt))
noncomputable abbrev T_spec_l1Bit (nf : Nat) : XT := []
noncomputable def m_spec_l1Bit (nf : Nat) (on : Bool) : Option (Int) := runF (T_spec_l1Bit nf) nf [.v .bool] [.t 2 (.v kI)] ir_spec_l1Bit (on, ())
theorem m_spec_l1Bit_eq (nf : Nat) (on : Bool) : m_spec_l1Bit nf on = (
  br on (
    some (1 : Int)) (
    some (0 : Int))) := by kernel_rfl
noncomputable def e_spec_l1Bit (nf : Nat) : XE := eF 70 [.v .bool] [.v kI] (fun t => m_spec_l1Bit nf t.1)
theorem o_spec_l1Bit (nf : Nat) : conOK Tryz.prog 70 (e_spec_l1Bit nf).con := by
  have ih : XT.ok Tryz.prog (T_spec_l1Bit nf) := by exact trivial
  refine eF_ok fun t x h => ?_
  obtain ⟨on, _⟩ := t
  exact runF_ok (N := 4) ih Tryz.func70 (by kernel_rfl) rfl h
def c19_spec_CountBags : C := .sq (.rg [.mv 24 (.t 3), .mv 2 (.t 24)]) .rt
def c9_spec_CountBags : C := .sq (.sq (.rg [.mv 9 (.t 4), .fa 10 (.t 1) 0 2 2, .ld 11 (.t 10) (kL (kR 0)), .ln 12 false (.t 11), .bi 13 .lss (.t 9) (.t 12)]) (.cd (.t 13) .skip (.ex 0))) (.sq (.bk 1 (.rg [.mv 16 (.t 3), .fa 17 (.t 1) 0 2 2, .ld 18 (.t 17) (kL (kR 0)), .mv 19 (.t 4), .ia 20 (.t 18) (.t 19) (kR 0), .ld 21 (.t 20) (kR 0), .cv (some 22) 40 [((.t 21), .v (kR 0))], .bi 23 .add (.t 16) (.t 22), .mv 3 (.t 23)])) (.rg [.mv 14 (.t 4), .bi 15 .add (.t 14) (.i 1), .mv 4 (.t 15)]))
def ir_spec_CountBags : C := .sq (.rg [.bx 1 (.t 0) (kR 0), .mv 2 (.i 0)]) (.sq (.rg [.fa 5 (.t 1) 0 0 0, .ld 6 (.t 5) kI, .bi 7 .eql (.t 6) (.i 4), .cv (some 8) 70 [((.t 7), .v .bool)], .mv 3 (.t 8)]) (.sq (.sq (.rg [.mv 4 (.i 0)]) (.bk 0 (.lk [1, 3, 4] [[1]] c9_spec_CountBags))) c19_spec_CountBags))
noncomputable def B_spec_CountBags (nf : Nat) : XT := [e_spec_l1Bit nf]
noncomputable def G_spec_CountBags (nf : Nat) : Nat → XT
  | 0 => []
  | kf + 1 => [eF 40 [.v (kR 0)] [.v kI] (fun t => (fun (t : Ty) => runF (G_spec_CountBags nf kf ++ B_spec_CountBags nf) nf [.v (kR 0)] [.t 2 (.v kI)] ir_spec_CountBags (t, ())) t.1)]
noncomputable abbrev T_spec_CountBags (nf kf : Nat) : XT := G_spec_CountBags nf kf ++ B_spec_CountBags nf
noncomputable def m_spec_CountBags (nf kf : Nat) (t : Ty) : Option (Int) := runF (T_spec_CountBags nf kf) nf [.v (kR 0)] [.t 2 (.v kI)] ir_spec_CountBags (t, ())
noncomputable def X_spec_CountBags {R : Type} (nf kf : Nat) : C → Env → (Xt → Env → Option R) → Option R := xc (R := R) (T_spec_CountBags nf kf).S nf
noncomputable def l8_spec_CountBags (nf kf : Nat) (m8 : Nat) (t : Ty) (x3_8 : Int) (x4_8 : Int) : Option (Int) := xit [1, 3, 4] [[1]] (X_spec_CountBags nf kf c9_spec_CountBags) (qB 0 (qS (X_spec_CountBags nf kf c19_spec_CountBags) (KF [.t 2 (.v kI)]))) m8 ⟨[(1, .pt [1] 0), (3, .v kI x3_8), (4, .v kI x4_8)], [([1], .box [.v kI t.kind, .v (kL kS) t.labels, .v (kL (kR 0)) t.args])]⟩
theorem l8_spec_CountBags_eq (nf kf : Nat) (m8 : Nat) (t : Ty) (x3_8 : Int) (x4_8 : Int) : l8_spec_CountBags nf (kf + 1) (m8 + 1) t x3_8 x4_8 = (
  br (decide (x4_8 < (List.length t.args : Int))) (
    gg (0 ≤ x4_8 ∧ x4_8 < (List.length t.args : Int)) <|
      cb (m_spec_CountBags nf kf (gt t.args x4_8 Ty.zero)) fun r22 =>
        mark (l8_spec_CountBags nf (kf + 1) m8 t (w64 (x3_8 + r22)) (w64 (x4_8 + (1 : Int))))) (
    some x3_8)) := by kernel_rfl
theorem m_spec_CountBags_eq (nf kf : Nat) (t : Ty) : m_spec_CountBags nf (kf + 1) t = (
  cb (m_spec_l1Bit nf (t.kind == (4 : Int))) fun r8 =>
    mark (l8_spec_CountBags nf (kf + 1) nf t r8 (0 : Int))) := by kernel_rfl
noncomputable def e_spec_CountBags (nf : Nat) : XE := eF 40 [.v (kR 0)] [.v kI] (fun t => m_spec_CountBags nf nf t.1)
theorem gok_spec_CountBags (nf : Nat) : ∀ kf : Nat, XT.ok Tryz.prog (G_spec_CountBags nf kf ++ B_spec_CountBags nf)
  | 0 => by exact ⟨o_spec_l1Bit nf, trivial⟩
  | kf + 1 => by
    have ih := gok_spec_CountBags nf kf
    refine ⟨?_, (by exact ⟨o_spec_l1Bit nf, trivial⟩)⟩
    · refine eF_ok fun t x h => ?_
      obtain ⟨t, _⟩ := t
      exact runF_ok (N := 25) ih Tryz.func40 (by kernel_rfl) rfl h
theorem o_spec_CountBags (nf : Nat) : conOK Tryz.prog 40 (e_spec_CountBags nf).con := by
  have ih := gok_spec_CountBags nf nf
  refine eF_ok fun t x h => ?_
  obtain ⟨t, _⟩ := t
  exact runF_ok (N := 25) ih Tryz.func40 (by kernel_rfl) rfl h
def ir_spec_CountQueries : C := .sq (.rg [.bx 2 (.t 0) (kR 5), .bx 3 (.t 1) (kR 2), .mv 4 (.i 0)]) (.sq (.sq (.rg [.ld 7 (.t 2) (kR 5), .ld 8 (.t 3) (kR 2), .cv (some 9) 8 [((.t 7), .v (kR 5)), ((.t 8), .v (kR 2))], .un 10 .not (.t 9)]) (.cd (.t 10) (.sq (.rg [.mv 4 (.i (-1))]) .rt) .skip)) (.sq (.rg [.ld 12 (.t 2) (kR 5), .bs 13 false (kR 8) [], .ld 14 (.t 3) (kR 2), .ca (some 15) 17 [((.t 12), .v (kR 5)), ((.t 13), .v (kL (kR 8))), ((.t 14), .v (kR 2))], .mv 11 (.t 15), .xt 16 (.t 11) 0, .xt 17 (.t 11) 1, .al 5 (kR 0), .st (.t 5) (.t 16) (kR 0), .mv 6 (.t 17)]) (.sq (.rg [.ld 18 (.t 5) (kR 0), .cv (some 19) 40 [((.t 18), .v (kR 0))], .mv 4 (.t 19)]) .rt)))
noncomputable abbrev T_spec_CountQueries (nf : Nat) : XT := [e_spec_IsQuery nf, e_spec_TypeOf nf, e_spec_CountBags nf]
noncomputable def m_spec_CountQueries (nf : Nat) (s : Schema) (e : Tm) : Option (Int) := runF (T_spec_CountQueries nf) nf [.v (kR 5), .v (kR 2)] [.t 4 (.v kI)] ir_spec_CountQueries (s, e, ())
theorem m_spec_CountQueries_eq (nf : Nat) (s : Schema) (e : Tm) : m_spec_CountQueries nf s e = (
  cb (m_spec_IsQuery nf s (Tm.h e)) fun r9 =>
    br (!r9) (
      some (-1 : Int)) (
      cb (m_spec_TypeOf nf s ([] : List Typing) (Tm.h e)) fun r15 =>
        cb (m_spec_CountBags nf nf (Ty.h r15.1)) fun r19 =>
          some r19)) := by kernel_rfl
noncomputable def e_spec_CountQueries (nf : Nat) : XE := eF 14 [.v (kR 5), .v (kR 2)] [.v kI] (fun t => m_spec_CountQueries nf t.1 t.2.1)
theorem o_spec_CountQueries (nf : Nat) : conOK Tryz.prog 14 (e_spec_CountQueries nf).con := by
  have ih : XT.ok Tryz.prog (T_spec_CountQueries nf) := by exact ⟨o_spec_IsQuery nf, o_spec_TypeOf nf, o_spec_CountBags nf, trivial⟩
  refine eF_ok fun t x h => ?_
  obtain ⟨s, e, _⟩ := t
  exact runF_ok (N := 20) ih Tryz.func14 (by kernel_rfl) rfl h
end Go.Q
