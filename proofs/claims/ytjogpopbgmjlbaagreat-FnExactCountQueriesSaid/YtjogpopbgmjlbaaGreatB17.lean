/- Typing: the program's side. -/
import Derived.Test.YtjogpopbgmjlbaaGreatB16
import Derived.Test.YtjogpopbgmjlbaaGreatProg
import Derived.KernelRfl
set_option linter.unusedVariables false
set_option linter.unusedSimpArgs false
namespace Go.Q
open Go.Proofs
set_option linter.unusedVariables false
set_option maxRecDepth 20000
set_option maxHeartbeats 4000000
def c10_slices_Clone_string_string : C := .sq (.rg [.bs 5 true kS [], .mv 6 (.t 0), .an 7 true kS (.t 5) (.t 6), .mv 2 (.t 7)]) .rt
def c5_slices_Clone_string_string : C := .cd (.t 4) (.sq (.rg [.mv 2 (.nl kS)]) .rt) .skip
def w5_slices_Clone_string_string : C := .kp [0, 4] [] c5_slices_Clone_string_string
def ir_slices_Clone_string_string : C := .sq (.rg [.mv 2 (.nl kS)]) (.sq (.sq (.rg [.mv 3 (.t 0), .nq 4 false false (.t 3)]) w5_slices_Clone_string_string) c10_slices_Clone_string_string)
noncomputable abbrev T_slices_Clone_string_string (nf : Nat) : XT := []
noncomputable def m_slices_Clone_string_string (nf : Nat) (a : List Str) : Option (List Str) := runF (T_slices_Clone_string_string nf) nf [.v (kL kS)] [.t 2 (.o (kL kS))] ir_slices_Clone_string_string (a, ())
noncomputable def X_slices_Clone_string_string {R : Type} (nf : Nat) : C → Env → (Xt → Env → Option R) → Option R := xc (R := R) (T_slices_Clone_string_string nf).S nf
noncomputable def j5_slices_Clone_string_string (nf : Nat) (a : List Str) (x4_5 : Bool) : Option (List Str) := X_slices_Clone_string_string nf c5_slices_Clone_string_string ⟨[(0, .v (kL kS) a), (4, .v .bool x4_5)], []⟩ (qS (X_slices_Clone_string_string nf c10_slices_Clone_string_string) (KF [.t 2 (.o (kL kS))]))
theorem j5_slices_Clone_string_string_eq (nf : Nat) (a : List Str) (x4_5 : Bool) : j5_slices_Clone_string_string nf a x4_5 = (
  br x4_5 (
    some ([] : List Str)) (
    gg (List.length a ≤ 33554432) <|
      some a)) := by kernel_rfl
theorem m_slices_Clone_string_string_eq (nf : Nat) (a : List Str) : m_slices_Clone_string_string nf a = (
  br (List.isEmpty a) (
    both (
      mark (j5_slices_Clone_string_string nf a false)) (
      mark (j5_slices_Clone_string_string nf a true))) (
    mark (j5_slices_Clone_string_string nf a false))) := by
  unfold m_slices_Clone_string_string j5_slices_Clone_string_string ir_slices_Clone_string_string w5_slices_Clone_string_string c10_slices_Clone_string_string
  generalize c5_slices_Clone_string_string = x0
  revert x0
  refine id ?_
  intro x0
  kernel_rfl
noncomputable def e_slices_Clone_string_string (nf : Nat) : XE := eF 86 [.v (kL kS)] [.o (kL kS)] (fun t => m_slices_Clone_string_string nf t.1)
theorem o_slices_Clone_string_string (nf : Nat) : conOK Tryz.prog 86 (e_slices_Clone_string_string nf).con := by
  have ih : XT.ok Tryz.prog (T_slices_Clone_string_string nf) := by exact trivial
  refine eF_ok fun t x h => ?_
  obtain ⟨a, _⟩ := t
  exact runF_ok (N := 8) ih Tryz.func86 (by kernel_rfl) rfl h
def c21_impl_cloneType : C := .sq (.rg [.ld 27 (.t 3) (kR 0), .st (.t 2) (.t 27) (kR 0)]) .rt
def c9_impl_cloneType : C := .sq (.rg [.bi 16 .lss (.t 15) (.t 14)]) (.sq (.cd (.t 16) .skip (.ex 0)) (.sq (.bk 1 (.sq (.rg [.ia 17 (.t 13) (.t 15) (kR 0), .ld 18 (.t 17) (kR 0), .al 5 (kR 0), .st (.t 5) (.t 18) (kR 0)]) (.gb 3 2 true (kR 0) (.dr [22, 23] [.fa 19 (.t 3) 0 2 2, .ld 20 (.t 19) (kL (kR 0)), .ld 21 (.t 5) (kR 0), .ca (some 22) 52 [((.t 21), .v (kR 0))], .bl 23 (kR 0) [(.t 22)]] [.apl 24 [3, 2] (kR 0) (.t 20) 23, .fa 25 (.t 3) 0 2 2, .st (.t 25) (.t 24) (kL (kR 0))])))) (.rg [.bi 26 .add (.t 15) (.i 1), .mv 15 (.t 26)])))
def ir_impl_cloneType : C := .sq (.rg [.bx 1 (.t 0) (kR 0), .al 2 (kR 0)]) (.sq (.dr [10, 3] [.fa 6 (.t 1) 0 0 0, .ld 7 (.t 6) kI, .fa 8 (.t 1) 0 1 1, .ld 9 (.t 8) (kL kS), .ca (some 10) 86 [((.t 9), .v (kL kS))], .bd 11 0 [(0, 1, (.t 7)), (1, 1, (.t 10))], .al 3 (kR 0)] [.st (.t 3) (.t 11) (kR 0)]) (.sq (.sq (.rg [.fa 12 (.t 1) 0 2 2, .ld 13 (.t 12) (kL (kR 0)), .ln 14 false (.t 13), .mv 15 (.i 0)]) (.bk 0 (.gb 3 2 true (kR 0) (.lk [2, 3, 13, 14, 15] [[2], [3], [3, 2], [10]] c9_impl_cloneType)))) c21_impl_cloneType))
noncomputable def B_impl_cloneType (nf : Nat) : XT := [e_slices_Clone_string_string nf]
noncomputable def G_impl_cloneType (nf : Nat) : Nat → XT
  | 0 => []
  | kf + 1 => [eF 52 [.v (kR 0)] [.o (kR 0)] (fun t => (fun (t : Ty) => runF (G_impl_cloneType nf kf ++ B_impl_cloneType nf) nf [.v (kR 0)] [.c 2 (.o (kR 0))] ir_impl_cloneType (t, ())) t.1)]
noncomputable abbrev T_impl_cloneType (nf kf : Nat) : XT := G_impl_cloneType nf kf ++ B_impl_cloneType nf
noncomputable def m_impl_cloneType (nf kf : Nat) (t : Ty) : Option (Ty) := runF (T_impl_cloneType nf kf) nf [.v (kR 0)] [.c 2 (.o (kR 0))] ir_impl_cloneType (t, ())
noncomputable def X_impl_cloneType {R : Type} (nf kf : Nat) : C → Env → (Xt → Env → Option R) → Option R := xc (R := R) (T_impl_cloneType nf kf).S nf
noncomputable def l8_impl_cloneType (nf kf : Nat) (m8 : Nat) (t : Ty) (r10 : (List Str)) (x15_8 : Int) (y3_2_8 : List Ty) : Option (Ty) := xit [2, 3, 13, 14, 15] [[2], [3], [3, 2], [10]] (X_impl_cloneType nf kf c9_impl_cloneType) (qB 0 (qS (X_impl_cloneType nf kf c21_impl_cloneType) (KF [.c 2 (.o (kR 0))]))) m8 ⟨[(2, .pt [2] 0), (3, .pt [3] 0), (13, .v (kL (kR 0)) t.args), (14, .v kI (List.length t.args : Int)), (15, .v kI x15_8)], [([2], .box [.v kI (0 : Int), .nl kS, .nl (kR 0)]), ([3], .box [.v kI t.kind, .sl [10], .sl [3, 2]]), ([3, 2], .row true false (kR 0) y3_2_8), ([10], .row true false kS r10)]⟩
theorem l8_impl_cloneType_eq (nf kf : Nat) (m8 : Nat) (t : Ty) (r10 : (List Str)) (x15_8 : Int) (y3_2_8 : List Ty) : l8_impl_cloneType nf (kf + 1) (m8 + 1) t r10 x15_8 y3_2_8 = (
  br (decide (x15_8 < (List.length t.args : Int))) (
    gg (0 ≤ x15_8 ∧ x15_8 < (List.length t.args : Int)) <|
      cb (m_impl_cloneType nf kf (Ty.h (gt t.args x15_8 Ty.zero))) fun r22 =>
        gg (List.length y3_2_8 + List.length ([(Ty.h r22)] : List Ty) ≤ 33554432) <|
          mark (l8_impl_cloneType nf (kf + 1) m8 t r10 (w64 (x15_8 + (1 : Int))) (y3_2_8 ++ ([(Ty.h r22)] : List Ty)))) (
    some (Ty.mk t.kind r10 y3_2_8))) := by kernel_rfl
theorem m_impl_cloneType_eq (nf kf : Nat) (t : Ty) : m_impl_cloneType nf (kf + 1) t = (
  cb (m_slices_Clone_string_string nf t.labels) fun r10 =>
    mark (l8_impl_cloneType nf (kf + 1) nf t r10 (0 : Int) ([] : List Ty))) := by kernel_rfl
noncomputable def e_impl_cloneType (nf : Nat) : XE := eF 52 [.v (kR 0)] [.o (kR 0)] (fun t => m_impl_cloneType nf nf t.1)
theorem gok_impl_cloneType (nf : Nat) : ∀ kf : Nat, XT.ok Tryz.prog (G_impl_cloneType nf kf ++ B_impl_cloneType nf)
  | 0 => by exact ⟨o_slices_Clone_string_string nf, trivial⟩
  | kf + 1 => by
    have ih := gok_impl_cloneType nf kf
    refine ⟨?_, (by exact ⟨o_slices_Clone_string_string nf, trivial⟩)⟩
    · refine eF_ok fun t x h => ?_
      obtain ⟨t, _⟩ := t
      exact runF_ok (N := 28) ih Tryz.func52 (by kernel_rfl) rfl h
theorem o_impl_cloneType (nf : Nat) : conOK Tryz.prog 52 (e_impl_cloneType nf).con := by
  have ih := gok_impl_cloneType nf nf
  refine eF_ok fun t x h => ?_
  obtain ⟨t, _⟩ := t
  exact runF_ok (N := 28) ih Tryz.func52 (by kernel_rfl) rfl h
def ir_impl_isSmall : C := .sq (.rg [.mv 2 (.b false)]) (.sq (.rg [.mv 3 (.t 0), .bi 4 .geq (.t 3) (.k .u8 97), .mv 5 (.t 4), .g 5 true (.mv 6 (.t 0)), .g 5 true (.bi 7 .leq (.t 6) (.k .u8 122)), .pk 8 (.t 5) (.t 7) (.b false), .mv 2 (.t 8)]) .rt)
noncomputable abbrev T_impl_isSmall (nf : Nat) : XT := []
noncomputable def m_impl_isSmall (nf : Nat) (c : Int) : Option (Bool) := runF (T_impl_isSmall nf) nf [.v (.int .u8)] [.t 2 (.v .bool)] ir_impl_isSmall (c, ())
theorem m_impl_isSmall_eq (nf : Nat) (c : Int) : m_impl_isSmall nf c = (
  br ((decide ((97 : Int) ≤ c)) == true) (
    some (decide (c ≤ (122 : Int)))) (
    some false)) := by kernel_rfl
noncomputable def e_impl_isSmall (nf : Nat) : XE := eF 100 [.v (.int .u8)] [.v .bool] (fun t => m_impl_isSmall nf t.1)
theorem o_impl_isSmall (nf : Nat) : conOK Tryz.prog 100 (e_impl_isSmall nf).con := by
  have ih : XT.ok Tryz.prog (T_impl_isSmall nf) := by exact trivial
  refine eF_ok fun t x h => ?_
  obtain ⟨c, _⟩ := t
  exact runF_ok (N := 9) ih Tryz.func100 (by kernel_rfl) rfl h
def ir_impl_isDigit : C := .sq (.rg [.mv 2 (.b false)]) (.sq (.rg [.mv 3 (.t 0), .bi 4 .geq (.t 3) (.k .u8 48), .mv 5 (.t 4), .g 5 true (.mv 6 (.t 0)), .g 5 true (.bi 7 .leq (.t 6) (.k .u8 57)), .pk 8 (.t 5) (.t 7) (.b false), .mv 2 (.t 8)]) .rt)
noncomputable abbrev T_impl_isDigit (nf : Nat) : XT := []
noncomputable def m_impl_isDigit (nf : Nat) (c : Int) : Option (Bool) := runF (T_impl_isDigit nf) nf [.v (.int .u8)] [.t 2 (.v .bool)] ir_impl_isDigit (c, ())
theorem m_impl_isDigit_eq (nf : Nat) (c : Int) : m_impl_isDigit nf c = (
  br ((decide ((48 : Int) ≤ c)) == true) (
    some (decide (c ≤ (57 : Int)))) (
    some false)) := by kernel_rfl
noncomputable def e_impl_isDigit (nf : Nat) : XE := eF 101 [.v (.int .u8)] [.v .bool] (fun t => m_impl_isDigit nf t.1)
theorem o_impl_isDigit (nf : Nat) : conOK Tryz.prog 101 (e_impl_isDigit nf).con := by
  have ih : XT.ok Tryz.prog (T_impl_isDigit nf) := by exact trivial
  refine eF_ok fun t x h => ?_
  obtain ⟨c, _⟩ := t
  exact runF_ok (N := 9) ih Tryz.func101 (by kernel_rfl) rfl h
def c33_impl_IsName : C := .sq (.rg [.mv 2 (.b true)]) .rt
def c32_impl_IsName : C := .rg [.bi 43 .add (.t 28) (.i 1), .mv 28 (.t 43)]
def c27_impl_IsName : C := .cd (.t 42) (.sq (.rg [.mv 2 (.b false)]) .rt) .skip
def w27_impl_IsName : C := .kp [0, 27, 28, 42] [] c27_impl_IsName
def c15_impl_IsName : C := .sq (.rg [.bi 29 .lss (.t 28) (.t 27)]) (.sq (.cd (.t 29) .skip (.ex 0)) (.sq (.bk 1 (.sq (.rg [.mv 30 (.t 28), .mv 3 (.t 30)]) (.sq (.rg [.mv 31 (.t 0), .mv 32 (.t 3), .ix 33 (.t 31) (.t 32), .cv (some 34) 100 [((.t 33), .v (.int .u8))], .un 35 .not (.t 34), .mv 36 (.t 35), .g 36 true (.mv 37 (.t 0)), .g 36 true (.mv 38 (.t 3)), .g 36 true (.ix 39 (.t 37) (.t 38)), .g 36 true (.cv (some 40) 101 [((.t 39), .v (.int .u8))]), .g 36 true (.un 41 .not (.t 40)), .pk 42 (.t 36) (.t 41) (.b false)]) w27_impl_IsName))) c32_impl_IsName))
def c10_impl_IsName : C := .sq (.sq (.rg [.mv 26 (.t 0), .ln 27 true (.t 26), .mv 28 (.i 0)]) (.bk 0 (.lk [0, 27, 28] [] c15_impl_IsName))) c33_impl_IsName
def c5_impl_IsName : C := .cd (.t 25) (.sq (.rg [.mv 2 (.b false)]) .rt) .skip
def w5_impl_IsName : C := .kp [0, 25] [] c5_impl_IsName
def ir_impl_IsName : C := .sq (.rg [.mv 2 (.b false)]) (.sq (.sq (.rg [.mv 4 (.t 0), .ln 5 true (.t 4), .bi 6 .lss (.t 5) (.i 1), .mv 7 (.t 6), .g 7 false (.mv 8 (.t 0)), .g 7 false (.ln 9 true (.t 8)), .g 7 false (.bi 10 .gtr (.t 9) (.i 4)), .pk 11 (.t 7) (.b true) (.t 10), .mv 12 (.t 11), .g 12 false (.mv 13 (.t 0)), .g 12 false (.ix 14 (.t 13) (.i 0)), .g 12 false (.cv (some 15) 100 [((.t 14), .v (.int .u8))]), .g 12 false (.un 16 .not (.t 15)), .pk 17 (.t 12) (.b true) (.t 16), .mv 18 (.t 17), .g 18 false (.mv 19 (.t 0)), .g 18 false (.bi 20 .eql (.t 19) (.s [105, 102])), .pk 21 (.t 18) (.b true) (.t 20), .mv 22 (.t 21), .g 22 false (.mv 23 (.t 0)), .g 22 false (.bi 24 .eql (.t 23) (.s [102, 111, 114])), .pk 25 (.t 22) (.b true) (.t 24)]) w5_impl_IsName) c10_impl_IsName)
noncomputable abbrev T_impl_IsName (nf : Nat) : XT := [e_impl_isSmall nf, e_impl_isDigit nf]
noncomputable def m_impl_IsName (nf : Nat) (s : Str) : Option (Bool) := runF (T_impl_IsName nf) nf [.v kS] [.t 2 (.v .bool)] ir_impl_IsName (s, ())
noncomputable def X_impl_IsName {R : Type} (nf : Nat) : C → Env → (Xt → Env → Option R) → Option R := xc (R := R) (T_impl_IsName nf).S nf
noncomputable def j5_impl_IsName (nf : Nat) (s : Str) (x25_5 : Bool) : Option (Bool) := X_impl_IsName nf c5_impl_IsName ⟨[(0, .v kS s), (25, .v .bool x25_5)], []⟩ (qS (X_impl_IsName nf c10_impl_IsName) (KF [.t 2 (.v .bool)]))
noncomputable def j27_impl_IsName (nf : Nat) (m14 : Nat) (s : Str) (x28_14 : Int) (x42_27 : Bool) : Option (Bool) := X_impl_IsName nf c27_impl_IsName ⟨[(0, .v kS s), (27, .v kI (List.length s : Int)), (28, .v kI x28_14), (42, .v .bool x42_27)], []⟩ (qB 1 (qS (X_impl_IsName nf c32_impl_IsName) (qM [0, 27, 28] [] (X_impl_IsName nf c15_impl_IsName) m14 (qB 0 (qS (X_impl_IsName nf c33_impl_IsName) (KF [.t 2 (.v .bool)]))))))
noncomputable def l14_impl_IsName (nf : Nat) (m14 : Nat) (s : Str) (x28_14 : Int) : Option (Bool) := xit [0, 27, 28] [] (X_impl_IsName nf c15_impl_IsName) (qB 0 (qS (X_impl_IsName nf c33_impl_IsName) (KF [.t 2 (.v .bool)]))) m14 ⟨[(0, .v kS s), (27, .v kI (List.length s : Int)), (28, .v kI x28_14)], []⟩
theorem j5_impl_IsName_eq (nf : Nat) (s : Str) (x25_5 : Bool) : j5_impl_IsName nf s x25_5 = (
  br x25_5 (
    some false) (
    mark (l14_impl_IsName nf nf s (0 : Int)))) := by kernel_rfl
theorem j27_impl_IsName_eq (nf : Nat) (m14 : Nat) (s : Str) (x28_14 : Int) (x42_27 : Bool) : j27_impl_IsName nf m14 s x28_14 x42_27 = (
  br x42_27 (
    some false) (
    mark (l14_impl_IsName nf m14 s (w64 (x28_14 + (1 : Int)))))) := by kernel_rfl
theorem l14_impl_IsName_eq (nf : Nat) (m14 : Nat) (s : Str) (x28_14 : Int) : l14_impl_IsName nf (m14 + 1) s x28_14 = (
  br (decide (x28_14 < (List.length s : Int))) (
    gg (0 ≤ x28_14 ∧ x28_14 < (List.length s : Int)) <|
      cb (m_impl_isSmall nf ((List.getD s (Int.toNat x28_14) 0).toNat : Int)) fun r34 =>
        br ((!r34) == true) (
          gg (0 ≤ x28_14 ∧ x28_14 < (List.length s : Int)) <|
            cb (m_impl_isDigit nf ((List.getD s (Int.toNat x28_14) 0).toNat : Int)) fun r40 =>
              mark (j27_impl_IsName nf m14 s x28_14 (!r40))) (
          mark (j27_impl_IsName nf m14 s x28_14 false))) (
    some true)) := by
  unfold l14_impl_IsName j27_impl_IsName c15_impl_IsName c33_impl_IsName w27_impl_IsName c32_impl_IsName
  generalize c27_impl_IsName = x0
  revert x0
  refine id ?_
  intro x0
  kernel_rfl
theorem m_impl_IsName_eq (nf : Nat) (s : Str) : m_impl_IsName nf s = (
  br ((decide ((List.length s : Int) < (1 : Int))) == false) (
    br ((decide ((4 : Int) < (List.length s : Int))) == false) (
      gg (0 ≤ (0 : Int) ∧ (0 : Int) < (List.length s : Int)) <|
        cb (m_impl_isSmall nf ((List.getD s (Int.toNat (0 : Int)) 0).toNat : Int)) fun r15 =>
          br ((!r15) == false) (
            br ((s == ([105, 102] : Str)) == false) (
              mark (j5_impl_IsName nf s (s == ([102, 111, 114] : Str)))) (
              mark (j5_impl_IsName nf s true))) (
            mark (j5_impl_IsName nf s true))) (
      mark (j5_impl_IsName nf s true))) (
    mark (j5_impl_IsName nf s true))) := by
  unfold m_impl_IsName j5_impl_IsName ir_impl_IsName w5_impl_IsName c10_impl_IsName c33_impl_IsName
  generalize c5_impl_IsName = x0
  revert x0
  refine id ?_
  intro x0
  kernel_rfl
noncomputable def e_impl_IsName (nf : Nat) : XE := eF 78 [.v kS] [.v .bool] (fun t => m_impl_IsName nf t.1)
theorem o_impl_IsName (nf : Nat) : conOK Tryz.prog 78 (e_impl_IsName nf).con := by
  have ih : XT.ok Tryz.prog (T_impl_IsName nf) := by exact ⟨o_impl_isSmall nf, o_impl_isDigit nf, trivial⟩
  refine eF_ok fun t x h => ?_
  obtain ⟨s, _⟩ := t
  exact runF_ok (N := 44) ih Tryz.func78 (by kernel_rfl) rfl h
def c23_impl_AreAscending : C := .sq (.rg [.mv 2 (.b true)]) .rt
def c7_impl_AreAscending : C := .sq (.sq (.rg [.mv 4 (.t 3), .mv 5 (.t 0), .ln 6 false (.t 5), .bi 7 .lss (.t 4) (.t 6)]) (.cd (.t 7) .skip (.ex 0))) (.sq (.bk 1 (.sq (.dr [] [.mv 10 (.t 0), .mv 11 (.t 3), .bi 12 .sub (.t 11) (.i 1), .ia 13 (.t 10) (.t 12) kS, .ld 14 (.t 13) kS, .mv 15 (.t 0), .mv 16 (.t 3), .ia 17 (.t 15) (.t 16) kS, .ld 18 (.t 17) kS] [.bi 19 .geq (.t 14) (.t 18)]) (.cd (.t 19) (.sq (.rg [.mv 2 (.b false)]) .rt) .skip))) (.rg [.mv 8 (.t 3), .bi 9 .add (.t 8) (.i 1), .mv 3 (.t 9)]))
def ir_impl_AreAscending : C := .sq (.rg [.mv 2 (.b false)]) (.sq (.sq (.rg [.mv 3 (.i 1)]) (.bk 0 (.lk [0, 3] [] c7_impl_AreAscending))) c23_impl_AreAscending)
noncomputable abbrev T_impl_AreAscending (nf : Nat) : XT := []
noncomputable def m_impl_AreAscending (nf : Nat) (list : List Str) : Option (Bool) := runF (T_impl_AreAscending nf) nf [.v (kL kS)] [.t 2 (.v .bool)] ir_impl_AreAscending (list, ())
noncomputable def X_impl_AreAscending {R : Type} (nf : Nat) : C → Env → (Xt → Env → Option R) → Option R := xc (R := R) (T_impl_AreAscending nf).S nf
noncomputable def l6_impl_AreAscending (nf : Nat) (m6 : Nat) (list : List Str) (x3_6 : Int) : Option (Bool) := xit [0, 3] [] (X_impl_AreAscending nf c7_impl_AreAscending) (qB 0 (qS (X_impl_AreAscending nf c23_impl_AreAscending) (KF [.t 2 (.v .bool)]))) m6 ⟨[(0, .v (kL kS) list), (3, .v kI x3_6)], []⟩
theorem l6_impl_AreAscending_eq (nf : Nat) (m6 : Nat) (list : List Str) (x3_6 : Int) : l6_impl_AreAscending nf (m6 + 1) list x3_6 = (
  br (decide (x3_6 < (List.length list : Int))) (
    gg (0 ≤ (w64 (x3_6 - (1 : Int))) ∧ (w64 (x3_6 - (1 : Int))) < (List.length list : Int)) <|
      gg (0 ≤ x3_6 ∧ x3_6 < (List.length list : Int)) <|
        br (!(Op.bytesLess (gt list (w64 (x3_6 - (1 : Int))) ([] : Str)) (gt list x3_6 ([] : Str)))) (
          some false) (
          mark (l6_impl_AreAscending nf m6 list (w64 (x3_6 + (1 : Int)))))) (
    some true)) := by kernel_rfl
theorem m_impl_AreAscending_eq (nf : Nat) (list : List Str) : m_impl_AreAscending nf list = (
  mark (l6_impl_AreAscending nf nf list (1 : Int))) := by kernel_rfl
noncomputable def e_impl_AreAscending (nf : Nat) : XE := eF 141 [.v (kL kS)] [.v .bool] (fun t => m_impl_AreAscending nf t.1)
theorem o_impl_AreAscending (nf : Nat) : conOK Tryz.prog 141 (e_impl_AreAscending nf).con := by
  have ih : XT.ok Tryz.prog (T_impl_AreAscending nf) := by exact trivial
  refine eF_ok fun t x h => ?_
  obtain ⟨list, _⟩ := t
  exact runF_ok (N := 20) ih Tryz.func141 (by kernel_rfl) rfl h
def ir_impl_labelsOk_1 : C := .sq (.rg [.mv 2 (.b false)]) (.sq (.rg [.mv 3 (.t 0), .cv (some 4) 78 [((.t 3), .v kS)], .un 5 .not (.t 4), .mv 2 (.t 5)]) .rt)
noncomputable abbrev T_impl_labelsOk_1 (nf : Nat) : XT := [e_impl_IsName nf]
noncomputable def m_impl_labelsOk_1 (nf : Nat) (s : Str) : Option (Bool) := runF (T_impl_labelsOk_1 nf) nf [.v kS] [.t 2 (.v .bool)] ir_impl_labelsOk_1 (s, ())
theorem m_impl_labelsOk_1_eq (nf : Nat) (s : Str) : m_impl_labelsOk_1 nf s = (
  cb (m_impl_IsName nf s) fun r4 =>
    some (!r4)) := by kernel_rfl
noncomputable def e_impl_labelsOk_1 (nf : Nat) : XE := eF 143 [.v kS] [.v .bool] (fun t => m_impl_labelsOk_1 nf t.1)
theorem o_impl_labelsOk_1 (nf : Nat) : conOK Tryz.prog 143 (e_impl_labelsOk_1 nf).con := by
  have ih : XT.ok Tryz.prog (T_impl_labelsOk_1 nf) := by exact ⟨o_impl_IsName nf, trivial⟩
  refine eF_ok fun t x h => ?_
  obtain ⟨s, _⟩ := t
  exact runF_ok (N := 6) ih Tryz.func143 (by kernel_rfl) rfl h
def c25_IndexFunc_labelsOk : C := .sq (.rg [.mv 4 (.i (-1))]) .rt
def c7_IndexFunc_labelsOk : C := .sq (.rg [.bi 9 .lss (.t 8) (.t 7)]) (.sq (.cd (.t 9) .skip (.ex 0)) (.sq (.bk 1 (.sq (.rg [.mv 10 (.t 8), .mv 5 (.t 10)]) (.sq (.rg [.mv 11 (.t 1), .mv 12 (.t 0), .mv 13 (.t 5), .ia 14 (.t 12) (.t 13) kS, .ld 15 (.t 14) kS, .cf (some 16) (.t 11) [((.t 15), .v kS)]]) (.cd (.t 16) (.sq (.rg [.mv 17 (.t 5), .mv 4 (.t 17)]) .rt) .skip)))) (.rg [.bi 18 .add (.t 8) (.i 1), .mv 8 (.t 18)])))
def ir_IndexFunc_labelsOk : C := .sq (.rg [.mv 4 (.i 0)]) (.sq (.sq (.rg [.mv 6 (.t 0), .ln 7 false (.t 6), .mv 8 (.i 0)]) (.bk 0 (.lk [0, 1, 7, 8] [] c7_IndexFunc_labelsOk))) c25_IndexFunc_labelsOk)
noncomputable abbrev T_IndexFunc_labelsOk (nf : Nat) : XT := [e_impl_labelsOk_1 nf]
noncomputable def m_IndexFunc_labelsOk (nf : Nat) (s : List Str) : Option (Int) := runF (T_IndexFunc_labelsOk nf) nf [.v (kL kS), .fn 143 []] [.t 4 (.v kI)] ir_IndexFunc_labelsOk (s, (()), ())
noncomputable def X_IndexFunc_labelsOk {R : Type} (nf : Nat) : C → Env → (Xt → Env → Option R) → Option R := xc (R := R) (T_IndexFunc_labelsOk nf).S nf
noncomputable def l6_IndexFunc_labelsOk (nf : Nat) (m6 : Nat) (s : List Str) (x8_6 : Int) : Option (Int) := xit [0, 1, 7, 8] [] (X_IndexFunc_labelsOk nf c7_IndexFunc_labelsOk) (qB 0 (qS (X_IndexFunc_labelsOk nf c25_IndexFunc_labelsOk) (KF [.t 4 (.v kI)]))) m6 ⟨[(0, .v (kL kS) s), (1, .fn 143 []), (7, .v kI (List.length s : Int)), (8, .v kI x8_6)], []⟩
theorem l6_IndexFunc_labelsOk_eq (nf : Nat) (m6 : Nat) (s : List Str) (x8_6 : Int) : l6_IndexFunc_labelsOk nf (m6 + 1) s x8_6 = (
  br (decide (x8_6 < (List.length s : Int))) (
    gg (0 ≤ x8_6 ∧ x8_6 < (List.length s : Int)) <|
      cb (m_impl_labelsOk_1 nf (gt s x8_6 ([] : Str))) fun r16 =>
        br r16 (
          some x8_6) (
          mark (l6_IndexFunc_labelsOk nf m6 s (w64 (x8_6 + (1 : Int)))))) (
    some (-1 : Int))) := by kernel_rfl
theorem m_IndexFunc_labelsOk_eq (nf : Nat) (s : List Str) : m_IndexFunc_labelsOk nf s = (
  mark (l6_IndexFunc_labelsOk nf nf s (0 : Int))) := by kernel_rfl
noncomputable def e_IndexFunc_labelsOk (nf : Nat) : XE := eF 152 [.v (kL kS), .fn 143 []] [.v kI] (fun t => m_IndexFunc_labelsOk nf t.1)
theorem o_IndexFunc_labelsOk (nf : Nat) : conOK Tryz.prog 152 (e_IndexFunc_labelsOk nf).con := by
  have ih : XT.ok Tryz.prog (T_IndexFunc_labelsOk nf) := by exact ⟨o_impl_labelsOk_1 nf, trivial⟩
  refine eF_ok fun t x h => ?_
  obtain ⟨s, _, _⟩ := t
  exact runF_ok (N := 19) ih Tryz.func152 (by kernel_rfl) rfl h
def ir_ContainsFunc_labelsOk : C := .sq (.rg [.mv 4 (.b false)]) (.sq (.rg [.mv 5 (.t 0), .mv 6 (.t 1), .cv (some 7) 152 [((.t 5), .v (kL kS)), ((.t 6), .fn)], .bi 8 .geq (.t 7) (.i 0), .mv 4 (.t 8)]) .rt)
noncomputable abbrev T_ContainsFunc_labelsOk (nf : Nat) : XT := [e_IndexFunc_labelsOk nf]
noncomputable def m_ContainsFunc_labelsOk (nf : Nat) (s : List Str) : Option (Bool) := runF (T_ContainsFunc_labelsOk nf) nf [.v (kL kS), .fn 143 []] [.t 4 (.v .bool)] ir_ContainsFunc_labelsOk (s, (()), ())
theorem m_ContainsFunc_labelsOk_eq (nf : Nat) (s : List Str) : m_ContainsFunc_labelsOk nf s = (
  cb (m_IndexFunc_labelsOk nf s) fun r7 =>
    some (decide ((0 : Int) ≤ r7))) := by kernel_rfl
noncomputable def e_ContainsFunc_labelsOk (nf : Nat) : XE := eF 142 [.v (kL kS), .fn 143 []] [.v .bool] (fun t => m_ContainsFunc_labelsOk nf t.1)
theorem o_ContainsFunc_labelsOk (nf : Nat) : conOK Tryz.prog 142 (e_ContainsFunc_labelsOk nf).con := by
  have ih : XT.ok Tryz.prog (T_ContainsFunc_labelsOk nf) := by exact ⟨o_IndexFunc_labelsOk nf, trivial⟩
  refine eF_ok fun t x h => ?_
  obtain ⟨s, _, _⟩ := t
  exact runF_ok (N := 9) ih Tryz.func142 (by kernel_rfl) rfl h
def c10_impl_labelsOk : C := .sq (.rg [.mv 16 (.t 0), .cv (some 17) 142 [((.t 16), .v (kL kS)), ((.f 143), .fn)], .un 18 .not (.t 17), .mv 2 (.t 18)]) .rt
def c5_impl_labelsOk : C := .cd (.t 15) (.sq (.rg [.mv 2 (.b false)]) .rt) .skip
def w5_impl_labelsOk : C := .kp [0, 15] [] c5_impl_labelsOk
def ir_impl_labelsOk : C := .sq (.rg [.mv 2 (.b false)]) (.sq (.sq (.rg [.mv 3 (.t 0), .ln 4 false (.t 3), .bi 5 .lss (.t 4) (.i 1), .mv 6 (.t 5), .g 6 false (.mv 7 (.t 0)), .g 6 false (.ln 8 false (.t 7)), .g 6 false (.bi 9 .gtr (.t 8) (.i 4)), .pk 10 (.t 6) (.b true) (.t 9), .mv 11 (.t 10), .g 11 false (.mv 12 (.t 0)), .g 11 false (.cv (some 13) 141 [((.t 12), .v (kL kS))]), .g 11 false (.un 14 .not (.t 13)), .pk 15 (.t 11) (.b true) (.t 14)]) w5_impl_labelsOk) c10_impl_labelsOk)
noncomputable abbrev T_impl_labelsOk (nf : Nat) : XT := [e_impl_AreAscending nf, e_ContainsFunc_labelsOk nf]
noncomputable def m_impl_labelsOk (nf : Nat) (labels : List Str) : Option (Bool) := runF (T_impl_labelsOk nf) nf [.v (kL kS)] [.t 2 (.v .bool)] ir_impl_labelsOk (labels, ())
noncomputable def X_impl_labelsOk {R : Type} (nf : Nat) : C → Env → (Xt → Env → Option R) → Option R := xc (R := R) (T_impl_labelsOk nf).S nf
noncomputable def j5_impl_labelsOk (nf : Nat) (labels : List Str) (x15_5 : Bool) : Option (Bool) := X_impl_labelsOk nf c5_impl_labelsOk ⟨[(0, .v (kL kS) labels), (15, .v .bool x15_5)], []⟩ (qS (X_impl_labelsOk nf c10_impl_labelsOk) (KF [.t 2 (.v .bool)]))
theorem j5_impl_labelsOk_eq (nf : Nat) (labels : List Str) (x15_5 : Bool) : j5_impl_labelsOk nf labels x15_5 = (
  br x15_5 (
    some false) (
    cb (m_ContainsFunc_labelsOk nf labels) fun r17 =>
      some (!r17))) := by kernel_rfl
theorem m_impl_labelsOk_eq (nf : Nat) (labels : List Str) : m_impl_labelsOk nf labels = (
  br ((decide ((List.length labels : Int) < (1 : Int))) == false) (
    br ((decide ((4 : Int) < (List.length labels : Int))) == false) (
      cb (m_impl_AreAscending nf labels) fun r13 =>
        mark (j5_impl_labelsOk nf labels (!r13))) (
      mark (j5_impl_labelsOk nf labels true))) (
    mark (j5_impl_labelsOk nf labels true))) := by
  unfold m_impl_labelsOk j5_impl_labelsOk ir_impl_labelsOk w5_impl_labelsOk c10_impl_labelsOk
  generalize c5_impl_labelsOk = x0
  revert x0
  refine id ?_
  intro x0
  kernel_rfl
noncomputable def e_impl_labelsOk (nf : Nat) : XE := eF 117 [.v (kL kS)] [.v .bool] (fun t => m_impl_labelsOk nf t.1)
theorem o_impl_labelsOk (nf : Nat) : conOK Tryz.prog 117 (e_impl_labelsOk nf).con := by
  have ih : XT.ok Tryz.prog (T_impl_labelsOk nf) := by exact ⟨o_impl_AreAscending nf, o_ContainsFunc_labelsOk nf, trivial⟩
  refine eF_ok fun t x h => ?_
  obtain ⟨labels, _⟩ := t
  exact runF_ok (N := 19) ih Tryz.func117 (by kernel_rfl) rfl h
def c21_impl_SizeOfType : C := .sq (.rg [.mv 18 (.t 3), .mv 2 (.t 18)]) .rt
def c9_impl_SizeOfType : C := .sq (.rg [.bi 10 .lss (.t 9) (.t 8)]) (.sq (.cd (.t 10) .skip (.ex 0)) (.sq (.bk 1 (.sq (.rg [.ia 11 (.t 7) (.t 9) (kR 0), .ld 12 (.t 11) (kR 0), .al 5 (kR 0), .st (.t 5) (.t 12) (kR 0)]) (.rg [.mv 13 (.t 3), .ld 14 (.t 5) (kR 0), .cv (some 15) 91 [((.t 14), .v (kR 0))], .bi 16 .add (.t 13) (.t 15), .mv 3 (.t 16)]))) (.rg [.bi 17 .add (.t 9) (.i 1), .mv 9 (.t 17)])))
def ir_impl_SizeOfType : C := .sq (.rg [.bx 1 (.t 0) (kR 0), .mv 2 (.i 0)]) (.sq (.rg [.mv 3 (.i 1)]) (.sq (.sq (.rg [.fa 6 (.t 1) 0 2 2, .ld 7 (.t 6) (kL (kR 0)), .ln 8 false (.t 7), .mv 9 (.i 0)]) (.bk 0 (.lk [3, 7, 8, 9] [] c9_impl_SizeOfType))) c21_impl_SizeOfType))
noncomputable def B_impl_SizeOfType (nf : Nat) : XT := []
noncomputable def G_impl_SizeOfType (nf : Nat) : Nat → XT
  | 0 => []
  | kf + 1 => [eF 91 [.v (kR 0)] [.v kI] (fun t => (fun (t : Ty) => runF (G_impl_SizeOfType nf kf ++ B_impl_SizeOfType nf) nf [.v (kR 0)] [.t 2 (.v kI)] ir_impl_SizeOfType (t, ())) t.1)]
noncomputable abbrev T_impl_SizeOfType (nf kf : Nat) : XT := G_impl_SizeOfType nf kf ++ B_impl_SizeOfType nf
noncomputable def m_impl_SizeOfType (nf kf : Nat) (t : Ty) : Option (Int) := runF (T_impl_SizeOfType nf kf) nf [.v (kR 0)] [.t 2 (.v kI)] ir_impl_SizeOfType (t, ())
noncomputable def X_impl_SizeOfType {R : Type} (nf kf : Nat) : C → Env → (Xt → Env → Option R) → Option R := xc (R := R) (T_impl_SizeOfType nf kf).S nf
noncomputable def l8_impl_SizeOfType (nf kf : Nat) (m8 : Nat) (t : Ty) (x3_8 : Int) (x9_8 : Int) : Option (Int) := xit [3, 7, 8, 9] [] (X_impl_SizeOfType nf kf c9_impl_SizeOfType) (qB 0 (qS (X_impl_SizeOfType nf kf c21_impl_SizeOfType) (KF [.t 2 (.v kI)]))) m8 ⟨[(3, .v kI x3_8), (7, .v (kL (kR 0)) t.args), (8, .v kI (List.length t.args : Int)), (9, .v kI x9_8)], []⟩
theorem l8_impl_SizeOfType_eq (nf kf : Nat) (m8 : Nat) (t : Ty) (x3_8 : Int) (x9_8 : Int) : l8_impl_SizeOfType nf (kf + 1) (m8 + 1) t x3_8 x9_8 = (
  br (decide (x9_8 < (List.length t.args : Int))) (
    gg (0 ≤ x9_8 ∧ x9_8 < (List.length t.args : Int)) <|
      cb (m_impl_SizeOfType nf kf (Ty.h (gt t.args x9_8 Ty.zero))) fun r15 =>
        mark (l8_impl_SizeOfType nf (kf + 1) m8 t (w64 (x3_8 + r15)) (w64 (x9_8 + (1 : Int))))) (
    some x3_8)) := by kernel_rfl
theorem m_impl_SizeOfType_eq (nf kf : Nat) (t : Ty) : m_impl_SizeOfType nf (kf + 1) t = (
  mark (l8_impl_SizeOfType nf (kf + 1) nf t (1 : Int) (0 : Int))) := by kernel_rfl
noncomputable def e_impl_SizeOfType (nf : Nat) : XE := eF 91 [.v (kR 0)] [.v kI] (fun t => m_impl_SizeOfType nf nf t.1)
theorem gok_impl_SizeOfType (nf : Nat) : ∀ kf : Nat, XT.ok Tryz.prog (G_impl_SizeOfType nf kf ++ B_impl_SizeOfType nf)
  | 0 => by exact trivial
  | kf + 1 => by
    have ih := gok_impl_SizeOfType nf kf
    refine ⟨?_, (by exact trivial)⟩
    · refine eF_ok fun t x h => ?_
      obtain ⟨t, _⟩ := t
      exact runF_ok (N := 19) ih Tryz.func91 (by kernel_rfl) rfl h
theorem o_impl_SizeOfType (nf : Nat) : conOK Tryz.prog 91 (e_impl_SizeOfType nf).con := by
  have ih := gok_impl_SizeOfType nf nf
  refine eF_ok fun t x h => ?_
  obtain ⟨t, _⟩ := t
  exact runF_ok (N := 19) ih Tryz.func91 (by kernel_rfl) rfl h
def c25_slices_Index_string_string : C := .sq (.rg [.mv 4 (.i (-1))]) .rt
def c7_slices_Index_string_string : C := .sq (.rg [.bi 9 .lss (.t 8) (.t 7)]) (.sq (.cd (.t 9) .skip (.ex 0)) (.sq (.bk 1 (.sq (.rg [.mv 10 (.t 8), .mv 5 (.t 10)]) (.sq (.rg [.mv 11 (.t 1), .mv 12 (.t 0), .mv 13 (.t 5), .ia 14 (.t 12) (.t 13) kS, .ld 15 (.t 14) kS, .bi 16 .eql (.t 11) (.t 15)]) (.cd (.t 16) (.sq (.rg [.mv 17 (.t 5), .mv 4 (.t 17)]) .rt) .skip)))) (.rg [.bi 18 .add (.t 8) (.i 1), .mv 8 (.t 18)])))
def ir_slices_Index_string_string : C := .sq (.rg [.mv 4 (.i 0)]) (.sq (.sq (.rg [.mv 6 (.t 0), .ln 7 false (.t 6), .mv 8 (.i 0)]) (.bk 0 (.lk [0, 1, 7, 8] [] c7_slices_Index_string_string))) c25_slices_Index_string_string)
noncomputable abbrev T_slices_Index_string_string (nf : Nat) : XT := []
noncomputable def m_slices_Index_string_string (nf : Nat) (s : List Str) (v : Str) : Option (Int) := runF (T_slices_Index_string_string nf) nf [.v (kL kS), .v kS] [.t 4 (.v kI)] ir_slices_Index_string_string (s, v, ())
noncomputable def X_slices_Index_string_string {R : Type} (nf : Nat) : C → Env → (Xt → Env → Option R) → Option R := xc (R := R) (T_slices_Index_string_string nf).S nf
noncomputable def l6_slices_Index_string_string (nf : Nat) (m6 : Nat) (s : List Str) (v : Str) (x8_6 : Int) : Option (Int) := xit [0, 1, 7, 8] [] (X_slices_Index_string_string nf c7_slices_Index_string_string) (qB 0 (qS (X_slices_Index_string_string nf c25_slices_Index_string_string) (KF [.t 4 (.v kI)]))) m6 ⟨[(0, .v (kL kS) s), (1, .v kS v), (7, .v kI (List.length s : Int)), (8, .v kI x8_6)], []⟩
theorem l6_slices_Index_string_string_eq (nf : Nat) (m6 : Nat) (s : List Str) (v : Str) (x8_6 : Int) : l6_slices_Index_string_string nf (m6 + 1) s v x8_6 = (
  br (decide (x8_6 < (List.length s : Int))) (
    gg (0 ≤ x8_6 ∧ x8_6 < (List.length s : Int)) <|
      br (v == (gt s x8_6 ([] : Str))) (
        some x8_6) (
        mark (l6_slices_Index_string_string nf m6 s v (w64 (x8_6 + (1 : Int)))))) (
    some (-1 : Int))) := by kernel_rfl
theorem m_slices_Index_string_string_eq (nf : Nat) (s : List Str) (v : Str) : m_slices_Index_string_string nf s v = (
  mark (l6_slices_Index_string_string nf nf s v (0 : Int))) := by kernel_rfl
noncomputable def e_slices_Index_string_string (nf : Nat) : XE := eF 149 [.v (kL kS), .v kS] [.v kI] (fun t => m_slices_Index_string_string nf t.1 t.2.1)
theorem o_slices_Index_string_string (nf : Nat) : conOK Tryz.prog 149 (e_slices_Index_string_string nf).con := by
  have ih : XT.ok Tryz.prog (T_slices_Index_string_string nf) := by exact trivial
  refine eF_ok fun t x h => ?_
  obtain ⟨s, v, _⟩ := t
  exact runF_ok (N := 19) ih Tryz.func149 (by kernel_rfl) rfl h
def c52_impl_typeForm : C := .sq (.rg [.mv 6 (.b true)]) .rt
def c34_impl_typeForm : C := .sq (.rg [.bi 104 .lss (.t 103) (.t 102)]) (.sq (.cd (.t 104) .skip (.ex 1)) (.sq (.bk 2 (.sq (.rg [.mv 105 (.t 103), .mv 9 (.t 105)]) (.sq (.rg [.mv 106 (.t 0), .nck 107 (.t 106), .fa 108 (.t 107) 0 2 2, .ld 109 (.t 108) (kL (kR 0)), .mv 110 (.t 9), .ia 111 (.t 109) (.t 110) (kR 0), .mv 112 (.t 8), .mv 113 (.t 2), .bi 114 .add (.t 113) (.i 1), .cv (some 115) 90 [((.t 111), .v (.ptr (kR 0))), ((.t 112), .v .bool), ((.t 114), .v kI)], .un 116 .not (.t 115)]) (.cd (.t 116) (.sq (.rg [.mv 6 (.b false)]) .rt) .skip)))) (.rg [.bi 117 .add (.t 103) (.i 1), .mv 103 (.t 117)])))
def c29_impl_typeForm : C := .sq (.sq (.rg [.mv 98 (.t 0), .nck 99 (.t 98), .fa 100 (.t 99) 0 2 2, .ld 101 (.t 100) (kL (kR 0)), .ln 102 false (.t 101), .mv 103 (.i 0)]) (.bk 1 (.lk [0, 2, 8, 102, 103] [] c34_impl_typeForm))) c52_impl_typeForm
def w29_impl_typeForm : C := .kp [0, 2, 8] [] c29_impl_typeForm
def c27_impl_typeForm : C := .sq (.rg [.mv 83 (.t 1), .mv 84 (.t 83), .g 84 false (.mv 85 (.t 0)), .g 84 false (.nck 86 (.t 85)), .g 84 false (.fa 87 (.t 86) 0 0 0), .g 84 false (.ld 88 (.t 87) kI), .g 84 false (.bi 89 .eql (.t 88) (.i 3)), .pk 90 (.t 84) (.b true) (.t 89), .mv 91 (.t 90), .g 91 false (.mv 92 (.t 0)), .g 91 false (.nck 93 (.t 92)), .g 91 false (.fa 94 (.t 93) 0 0 0), .g 91 false (.ld 95 (.t 94) kI), .g 91 false (.bi 96 .eql (.t 95) (.i 4)), .pk 97 (.t 91) (.b true) (.t 96), .mv 8 (.t 97)]) w29_impl_typeForm
def c22_impl_typeForm : C := .cd (.t 48) (.sq (.rg [.mv 6 (.b false)]) .rt) .skip
def w22_impl_typeForm : C := .kp [0, 1, 2, 48] [] c22_impl_typeForm
def c19_impl_typeForm : C := .cd (.t 48) .skip (.rg [.mv 70 (.t 0), .nck 71 (.t 70), .fa 72 (.t 71) 0 0 0, .ld 73 (.t 72) kI, .bi 74 .neq (.t 73) (.i 3), .mv 75 (.t 74), .g 75 true (.mv 76 (.t 0)), .g 75 true (.nck 77 (.t 76)), .g 75 true (.fa 78 (.t 77) 0 1 1), .g 75 true (.ld 79 (.t 78) (kL kS)), .g 75 true (.ln 80 false (.t 79)), .g 75 true (.bi 81 .gtr (.t 80) (.i 0)), .pk 82 (.t 75) (.t 81) (.b false), .mv 48 (.t 82)])
def w19_impl_typeForm : C := .kp [0, 1, 2, 48] [] c19_impl_typeForm
def c15_impl_typeForm : C := .cd (.t 48) .skip (.sq (.rg [.mv 57 (.t 0), .nck 58 (.t 57), .fa 59 (.t 58) 0 0 0, .ld 60 (.t 59) kI, .bi 61 .eql (.t 60) (.i 3), .mv 62 (.t 61), .g 62 true (.mv 63 (.t 0)), .g 62 true (.nck 64 (.t 63)), .g 62 true (.fa 65 (.t 64) 0 1 1), .g 62 true (.ld 66 (.t 65) (kL kS)), .g 62 true (.cv (some 67) 117 [((.t 66), .v (kL kS))]), .g 62 true (.un 68 .not (.t 67)), .pk 69 (.t 62) (.t 68) (.b false), .mv 48 (.t 69)]) w19_impl_typeForm)
def w15_impl_typeForm : C := .kp [0, 1, 2, 48] [] c15_impl_typeForm
def c8_impl_typeForm : C := .cd (.t 22) (.sq (.rg [.mv 6 (.b false)]) .rt) (.sq (.sq (.rg [.mv 49 (.t 0), .nck 50 (.t 49), .fa 51 (.t 50) 0 0 0, .ld 52 (.t 51) kI, .bi 53 .eql (.t 52) (.i 5), .mv 54 (.t 53), .g 54 true (.mv 55 (.t 1)), .pk 56 (.t 54) (.t 55) (.b false), .mv 48 (.t 56)]) w15_impl_typeForm) w22_impl_typeForm)
def w8_impl_typeForm : C := .kp [0, 1, 2, 22] [] c8_impl_typeForm
def c4_impl_typeForm : C := .sq (.bk 0 (.sq (.rg [.mv 23 (.t 0), .nck 24 (.t 23), .fa 25 (.t 24) 0 0 0, .ld 26 (.t 25) kI, .bi 27 .lss (.t 26) (.i 1), .mv 28 (.t 27), .g 28 false (.mv 29 (.t 0)), .g 28 false (.nck 30 (.t 29)), .g 28 false (.fa 31 (.t 30) 0 0 0), .g 28 false (.ld 32 (.t 31) kI), .g 28 false (.bi 33 .gtr (.t 32) (.i 5)), .pk 34 (.t 28) (.b true) (.t 33), .mv 35 (.t 34), .g 35 false (.mv 36 (.t 2)), .g 35 false (.bi 37 .gtr (.t 36) (.i 7)), .pk 38 (.t 35) (.b true) (.t 37), .mv 39 (.t 38), .g 39 false (.mv 40 (.t 0)), .g 39 false (.nck 41 (.t 40)), .g 39 false (.fa 42 (.t 41) 0 2 2), .g 39 false (.ld 43 (.t 42) (kL (kR 0))), .g 39 false (.ln 44 false (.t 43)), .g 39 false (.mv 45 (.t 7)), .g 39 false (.bi 46 .neq (.t 44) (.t 45)), .pk 47 (.t 39) (.b true) (.t 46), .mv 22 (.t 47)]) w8_impl_typeForm)) c27_impl_typeForm
def w4_impl_typeForm : C := .kp [0, 1, 2, 7] [] c4_impl_typeForm
def ir_impl_typeForm : C := .sq (.rg [.mv 6 (.b false)]) (.sq (.dr [10] [.mm 10 kI kI, .mu (.t 10) (.i 4) (.i 1) kI kI, .mu (.t 10) (.i 5) (.i 2) kI kI, .mv 11 (.t 0), .nck 12 (.t 11), .fa 13 (.t 12) 0 1 1, .ld 14 (.t 13) (kL kS), .ln 15 false (.t 14), .mu (.t 10) (.i 3) (.t 15) kI kI, .mv 16 (.t 10), .mv 17 (.t 0), .nck 18 (.t 17), .fa 19 (.t 18) 0 0 0, .ld 20 (.t 19) kI] [.ml 21 (.t 16) (.t 20) kI kI false, .mv 7 (.t 21)]) w4_impl_typeForm)
noncomputable def B_impl_typeForm (nf : Nat) : XT := [e_impl_labelsOk nf]
noncomputable def G_impl_typeForm (nf : Nat) : Nat → XT
  | 0 => []
  | kf + 1 => [eF 90 [.p (kR 0), .v .bool, .v kI] [.v .bool] (fun t => (fun (t : Ty) (plain : Bool) (deep : Int) => runF (G_impl_typeForm nf kf ++ B_impl_typeForm nf) nf [.p (kR 0), .v .bool, .v kI] [.t 6 (.v .bool)] ir_impl_typeForm (t, plain, deep, ())) t.1 t.2.1 t.2.2.1)]
noncomputable abbrev T_impl_typeForm (nf kf : Nat) : XT := G_impl_typeForm nf kf ++ B_impl_typeForm nf
noncomputable def m_impl_typeForm (nf kf : Nat) (t : Ty) (plain : Bool) (deep : Int) : Option (Bool) := runF (T_impl_typeForm nf kf) nf [.p (kR 0), .v .bool, .v kI] [.t 6 (.v .bool)] ir_impl_typeForm (t, plain, deep, ())
noncomputable def X_impl_typeForm {R : Type} (nf kf : Nat) : C → Env → (Xt → Env → Option R) → Option R := xc (R := R) (T_impl_typeForm nf kf).S nf
noncomputable def j19_impl_typeForm (nf kf : Nat) (t : Ty) (plain : Bool) (deep : Int) (x48_19 : Bool) : Option (Bool) := X_impl_typeForm nf kf c19_impl_typeForm ⟨[(0, .v (.ptr (kR 0)) (some t)), (1, .v .bool plain), (2, .v kI deep), (48, .v .bool x48_19)], []⟩ (qS (X_impl_typeForm nf kf w22_impl_typeForm) (qB 0 (qS (X_impl_typeForm nf kf c27_impl_typeForm) (KF [.t 6 (.v .bool)]))))
noncomputable def j15_impl_typeForm (nf kf : Nat) (t : Ty) (plain : Bool) (deep : Int) (x48_15 : Bool) : Option (Bool) := X_impl_typeForm nf kf c15_impl_typeForm ⟨[(0, .v (.ptr (kR 0)) (some t)), (1, .v .bool plain), (2, .v kI deep), (48, .v .bool x48_15)], []⟩ (qS (X_impl_typeForm nf kf w22_impl_typeForm) (qB 0 (qS (X_impl_typeForm nf kf c27_impl_typeForm) (KF [.t 6 (.v .bool)]))))
noncomputable def j22_impl_typeForm (nf kf : Nat) (t : Ty) (plain : Bool) (deep : Int) (x48_22 : Bool) : Option (Bool) := X_impl_typeForm nf kf c22_impl_typeForm ⟨[(0, .v (.ptr (kR 0)) (some t)), (1, .v .bool plain), (2, .v kI deep), (48, .v .bool x48_22)], []⟩ (qB 0 (qS (X_impl_typeForm nf kf c27_impl_typeForm) (KF [.t 6 (.v .bool)])))
noncomputable def j8_impl_typeForm (nf kf : Nat) (t : Ty) (plain : Bool) (deep : Int) (x22_8 : Bool) : Option (Bool) := X_impl_typeForm nf kf c8_impl_typeForm ⟨[(0, .v (.ptr (kR 0)) (some t)), (1, .v .bool plain), (2, .v kI deep), (22, .v .bool x22_8)], []⟩ (qB 0 (qS (X_impl_typeForm nf kf c27_impl_typeForm) (KF [.t 6 (.v .bool)])))
noncomputable def l33_impl_typeForm (nf kf : Nat) (m33 : Nat) (t : Ty) (deep : Int) (x8_29 : Bool) (x103_33 : Int) : Option (Bool) := xit [0, 2, 8, 102, 103] [] (X_impl_typeForm nf kf c34_impl_typeForm) (qB 1 (qS (X_impl_typeForm nf kf c52_impl_typeForm) (KF [.t 6 (.v .bool)]))) m33 ⟨[(0, .v (.ptr (kR 0)) (some t)), (2, .v kI deep), (8, .v .bool x8_29), (102, .v kI (List.length t.args : Int)), (103, .v kI x103_33)], []⟩
noncomputable def j29_impl_typeForm (nf kf : Nat) (t : Ty) (deep : Int) (x8_29 : Bool) : Option (Bool) := X_impl_typeForm nf kf c29_impl_typeForm ⟨[(0, .v (.ptr (kR 0)) (some t)), (2, .v kI deep), (8, .v .bool x8_29)], []⟩ (KF [.t 6 (.v .bool)])
noncomputable def j4_impl_typeForm (nf kf : Nat) (t : Ty) (plain : Bool) (deep : Int) (x7_4 : Int) : Option (Bool) := X_impl_typeForm nf kf c4_impl_typeForm ⟨[(0, .v (.ptr (kR 0)) (some t)), (1, .v .bool plain), (2, .v kI deep), (7, .v kI x7_4)], []⟩ (KF [.t 6 (.v .bool)])
theorem j19_impl_typeForm_eq (nf kf : Nat) (t : Ty) (plain : Bool) (deep : Int) (x48_19 : Bool) : j19_impl_typeForm nf (kf + 1) t plain deep x48_19 = (
  br x48_19 (
    mark (j22_impl_typeForm nf (kf + 1) t plain deep x48_19)) (
    br ((!(t.kind == (3 : Int))) == true) (
      mark (j22_impl_typeForm nf (kf + 1) t plain deep (decide ((0 : Int) < (List.length t.labels : Int))))) (
      mark (j22_impl_typeForm nf (kf + 1) t plain deep false)))) := by
  unfold j19_impl_typeForm j22_impl_typeForm c19_impl_typeForm c27_impl_typeForm w22_impl_typeForm w29_impl_typeForm
  generalize c22_impl_typeForm = x0
  generalize c29_impl_typeForm = x1
  revert x0 x1
  refine id ?_
  intro x0 x1
  kernel_rfl
theorem j15_impl_typeForm_eq (nf kf : Nat) (t : Ty) (plain : Bool) (deep : Int) (x48_15 : Bool) : j15_impl_typeForm nf (kf + 1) t plain deep x48_15 = (
  br x48_15 (
    mark (j22_impl_typeForm nf (kf + 1) t plain deep x48_15)) (
    br ((t.kind == (3 : Int)) == true) (
      cb (m_impl_labelsOk nf t.labels) fun r67 =>
        mark (j19_impl_typeForm nf (kf + 1) t plain deep (!r67))) (
      mark (j19_impl_typeForm nf (kf + 1) t plain deep false)))) := by
  unfold j15_impl_typeForm j22_impl_typeForm j19_impl_typeForm c15_impl_typeForm c27_impl_typeForm w22_impl_typeForm w19_impl_typeForm w29_impl_typeForm
  generalize c22_impl_typeForm = x0
  generalize c19_impl_typeForm = x1
  generalize c29_impl_typeForm = x2
  revert x0 x1 x2
  refine id ?_
  intro x0 x1 x2
  kernel_rfl
theorem j22_impl_typeForm_eq (nf kf : Nat) (t : Ty) (plain : Bool) (deep : Int) (x48_22 : Bool) : j22_impl_typeForm nf (kf + 1) t plain deep x48_22 = (
  br x48_22 (
    some false) (
    br (plain == false) (
      br ((t.kind == (3 : Int)) == false) (
        mark (j29_impl_typeForm nf (kf + 1) t deep (t.kind == (4 : Int)))) (
        mark (j29_impl_typeForm nf (kf + 1) t deep true))) (
      mark (j29_impl_typeForm nf (kf + 1) t deep true)))) := by
  unfold j22_impl_typeForm j29_impl_typeForm c22_impl_typeForm c27_impl_typeForm w29_impl_typeForm
  generalize c29_impl_typeForm = x0
  revert x0
  refine id ?_
  intro x0
  kernel_rfl
theorem j8_impl_typeForm_eq (nf kf : Nat) (t : Ty) (plain : Bool) (deep : Int) (x22_8 : Bool) : j8_impl_typeForm nf (kf + 1) t plain deep x22_8 = (
  br x22_8 (
    some false) (
    br ((t.kind == (5 : Int)) == true) (
      mark (j15_impl_typeForm nf (kf + 1) t plain deep plain)) (
      mark (j15_impl_typeForm nf (kf + 1) t plain deep false)))) := by
  unfold j8_impl_typeForm j15_impl_typeForm c8_impl_typeForm c27_impl_typeForm w15_impl_typeForm w22_impl_typeForm w29_impl_typeForm
  generalize c15_impl_typeForm = x0
  generalize c22_impl_typeForm = x1
  generalize c29_impl_typeForm = x2
  revert x0 x1 x2
  refine id ?_
  intro x0 x1 x2
  kernel_rfl
theorem l33_impl_typeForm_eq (nf kf : Nat) (m33 : Nat) (t : Ty) (deep : Int) (x8_29 : Bool) (x103_33 : Int) : l33_impl_typeForm nf (kf + 1) (m33 + 1) t deep x8_29 x103_33 = (
  br (decide (x103_33 < (List.length t.args : Int))) (
    gg (0 ≤ x103_33 ∧ x103_33 < (List.length t.args : Int)) <|
      cb (m_impl_typeForm nf kf (gt t.args x103_33 Ty.zero) x8_29 (w64 (deep + (1 : Int)))) fun r115 =>
        br (!r115) (
          some false) (
          mark (l33_impl_typeForm nf (kf + 1) m33 t deep x8_29 (w64 (x103_33 + (1 : Int)))))) (
    some true)) := by kernel_rfl
theorem j29_impl_typeForm_eq (nf kf : Nat) (t : Ty) (deep : Int) (x8_29 : Bool) : j29_impl_typeForm nf (kf + 1) t deep x8_29 = (
  mark (l33_impl_typeForm nf (kf + 1) nf t deep x8_29 (0 : Int))) := by kernel_rfl
theorem j4_impl_typeForm_eq (nf kf : Nat) (t : Ty) (plain : Bool) (deep : Int) (x7_4 : Int) : j4_impl_typeForm nf (kf + 1) t plain deep x7_4 = (
  br ((decide (t.kind < (1 : Int))) == false) (
    br ((decide ((5 : Int) < t.kind)) == false) (
      br ((decide ((7 : Int) < deep)) == false) (
        mark (j8_impl_typeForm nf (kf + 1) t plain deep (!((List.length t.args : Int) == x7_4)))) (
        mark (j8_impl_typeForm nf (kf + 1) t plain deep true))) (
      mark (j8_impl_typeForm nf (kf + 1) t plain deep true))) (
    mark (j8_impl_typeForm nf (kf + 1) t plain deep true))) := by
  unfold j4_impl_typeForm j8_impl_typeForm c4_impl_typeForm w8_impl_typeForm c27_impl_typeForm w29_impl_typeForm
  generalize c8_impl_typeForm = x0
  generalize c29_impl_typeForm = x1
  revert x0 x1
  refine id ?_
  intro x0 x1
  kernel_rfl
theorem m_impl_typeForm_eq (nf kf : Nat) (t : Ty) (plain : Bool) (deep : Int) : m_impl_typeForm nf (kf + 1) t plain deep = (
  mark (j4_impl_typeForm nf (kf + 1) t plain deep (mgt (kk := kI) (vk := kI) (mset (kk := kI) (vk := kI) (mset (kk := kI) (vk := kI) (mset (kk := kI) (vk := kI) [] (4 : Int) (1 : Int)) (5 : Int) (2 : Int)) (3 : Int) (List.length t.labels : Int)) t.kind))) := by
  unfold m_impl_typeForm j4_impl_typeForm ir_impl_typeForm w4_impl_typeForm
  generalize c4_impl_typeForm = x0
  revert x0
  refine id ?_
  intro x0
  kernel_rfl
noncomputable def e_impl_typeForm (nf : Nat) : XE := eF 90 [.p (kR 0), .v .bool, .v kI] [.v .bool] (fun t => m_impl_typeForm nf nf t.1 t.2.1 t.2.2.1)
theorem gok_impl_typeForm (nf : Nat) : ∀ kf : Nat, XT.ok Tryz.prog (G_impl_typeForm nf kf ++ B_impl_typeForm nf)
  | 0 => by exact ⟨o_impl_labelsOk nf, trivial⟩
  | kf + 1 => by
    have ih := gok_impl_typeForm nf kf
    refine ⟨?_, (by exact ⟨o_impl_labelsOk nf, trivial⟩)⟩
    · refine eF_ok fun t x h => ?_
      obtain ⟨t, plain, deep, _⟩ := t
      exact runF_ok (N := 118) ih Tryz.func90 (by kernel_rfl) rfl h
theorem o_impl_typeForm (nf : Nat) : conOK Tryz.prog 90 (e_impl_typeForm nf).con := by
  have ih := gok_impl_typeForm nf nf
  refine eF_ok fun t x h => ?_
  obtain ⟨t, plain, deep, _⟩ := t
  exact runF_ok (N := 118) ih Tryz.func90 (by kernel_rfl) rfl h
def ir_impl_IsValidType : C := .sq (.rg [.bx 1 (.t 0) (kR 0), .mv 2 (.b false)]) (.sq (.rg [.cv (some 3) 90 [((.t 1), .v (.ptr (kR 0))), ((.b false), .v .bool), ((.i 1), .v kI)], .mv 4 (.t 3), .g 4 true (.ld 5 (.t 1) (kR 0)), .g 4 true (.cv (some 6) 91 [((.t 5), .v (kR 0))]), .g 4 true (.bi 7 .leq (.t 6) (.i 24)), .pk 8 (.t 4) (.t 7) (.b false), .mv 2 (.t 8)]) .rt)
noncomputable abbrev T_impl_IsValidType (nf : Nat) : XT := [e_impl_typeForm nf, e_impl_SizeOfType nf]
noncomputable def m_impl_IsValidType (nf : Nat) (t : Ty) : Option (Bool) := runF (T_impl_IsValidType nf) nf [.v (kR 0)] [.t 2 (.v .bool)] ir_impl_IsValidType (t, ())
theorem m_impl_IsValidType_eq (nf : Nat) (t : Ty) : m_impl_IsValidType nf t = (
  cb (m_impl_typeForm nf nf (Ty.h t) false (1 : Int)) fun r3 =>
    br (r3 == true) (
      cb (m_impl_SizeOfType nf nf (Ty.h t)) fun r6 =>
        some (decide (r6 ≤ (24 : Int)))) (
      some false)) := by kernel_rfl
noncomputable def e_impl_IsValidType (nf : Nat) : XE := eF 85 [.v (kR 0)] [.v .bool] (fun t => m_impl_IsValidType nf t.1)
theorem o_impl_IsValidType (nf : Nat) : conOK Tryz.prog 85 (e_impl_IsValidType nf).con := by
  have ih : XT.ok Tryz.prog (T_impl_IsValidType nf) := by exact ⟨o_impl_typeForm nf, o_impl_SizeOfType nf, trivial⟩
  refine eF_ok fun t x h => ?_
  obtain ⟨t, _⟩ := t
  exact runF_ok (N := 9) ih Tryz.func85 (by kernel_rfl) rfl h
def ir_impl_IsData : C := .sq (.rg [.bx 1 (.t 0) (kR 0), .mv 2 (.b false)]) (.sq (.rg [.cv (some 3) 90 [((.t 1), .v (.ptr (kR 0))), ((.b true), .v .bool), ((.i 1), .v kI)], .mv 4 (.t 3), .g 4 true (.ld 5 (.t 1) (kR 0)), .g 4 true (.cv (some 6) 91 [((.t 5), .v (kR 0))]), .g 4 true (.bi 7 .leq (.t 6) (.i 24)), .pk 8 (.t 4) (.t 7) (.b false), .mv 2 (.t 8)]) .rt)
noncomputable abbrev T_impl_IsData (nf : Nat) : XT := [e_impl_typeForm nf, e_impl_SizeOfType nf]
noncomputable def m_impl_IsData (nf : Nat) (t : Ty) : Option (Bool) := runF (T_impl_IsData nf) nf [.v (kR 0)] [.t 2 (.v .bool)] ir_impl_IsData (t, ())
theorem m_impl_IsData_eq (nf : Nat) (t : Ty) : m_impl_IsData nf t = (
  cb (m_impl_typeForm nf nf (Ty.h t) true (1 : Int)) fun r3 =>
    br (r3 == true) (
      cb (m_impl_SizeOfType nf nf (Ty.h t)) fun r6 =>
        some (decide (r6 ≤ (24 : Int)))) (
      some false)) := by kernel_rfl
noncomputable def e_impl_IsData (nf : Nat) : XE := eF 68 [.v (kR 0)] [.v .bool] (fun t => m_impl_IsData nf t.1)
theorem o_impl_IsData (nf : Nat) : conOK Tryz.prog 68 (e_impl_IsData nf).con := by
  have ih : XT.ok Tryz.prog (T_impl_IsData nf) := by exact ⟨o_impl_typeForm nf, o_impl_SizeOfType nf, trivial⟩
  refine eF_ok fun t x h => ?_
  obtain ⟨t, _⟩ := t
  exact runF_ok (N := 9) ih Tryz.func68 (by kernel_rfl) rfl h
def ir_impl_isPlain : C := .sq (.rg [.bx 1 (.t 0) (kR 0), .mv 2 (.b false)]) (.sq (.rg [.fa 3 (.t 1) 0 0 0, .ld 4 (.t 3) kI, .bi 5 .eql (.t 4) (.i 1), .mv 6 (.t 5), .g 6 false (.fa 7 (.t 1) 0 0 0), .g 6 false (.ld 8 (.t 7) kI), .g 6 false (.bi 9 .eql (.t 8) (.i 2)), .pk 10 (.t 6) (.b true) (.t 9), .mv 2 (.t 10)]) .rt)
noncomputable abbrev T_impl_isPlain (nf : Nat) : XT := []
noncomputable def m_impl_isPlain (nf : Nat) (t : Ty) : Option (Bool) := runF (T_impl_isPlain nf) nf [.v (kR 0)] [.t 2 (.v .bool)] ir_impl_isPlain (t, ())
theorem m_impl_isPlain_eq (nf : Nat) (t : Ty) : m_impl_isPlain nf t = (
  br ((t.kind == (1 : Int)) == false) (
    some (t.kind == (2 : Int))) (
    some true)) := by kernel_rfl
noncomputable def e_impl_isPlain (nf : Nat) : XE := eF 104 [.v (kR 0)] [.v .bool] (fun t => m_impl_isPlain nf t.1)
theorem o_impl_isPlain (nf : Nat) : conOK Tryz.prog 104 (e_impl_isPlain nf).con := by
  have ih : XT.ok Tryz.prog (T_impl_isPlain nf) := by exact trivial
  refine eF_ok fun t x h => ?_
  obtain ⟨t, _⟩ := t
  exact runF_ok (N := 11) ih Tryz.func104 (by kernel_rfl) rfl h
def ir_impl_IsRow_1 : C := .sq (.rg [.bx 1 (.t 0) (kR 0), .mv 2 (.b false)]) (.sq (.rg [.ld 3 (.t 1) (kR 0), .cv (some 4) 104 [((.t 3), .v (kR 0))], .un 5 .not (.t 4), .mv 2 (.t 5)]) .rt)
noncomputable abbrev T_impl_IsRow_1 (nf : Nat) : XT := [e_impl_isPlain nf]
noncomputable def m_impl_IsRow_1 (nf : Nat) (t : Ty) : Option (Bool) := runF (T_impl_IsRow_1 nf) nf [.v (kR 0)] [.t 2 (.v .bool)] ir_impl_IsRow_1 (t, ())
theorem m_impl_IsRow_1_eq (nf : Nat) (t : Ty) : m_impl_IsRow_1 nf t = (
  cb (m_impl_isPlain nf (Ty.h t)) fun r4 =>
    some (!r4)) := by kernel_rfl
noncomputable def e_impl_IsRow_1 (nf : Nat) : XE := eF 103 [.v (kR 0)] [.v .bool] (fun t => m_impl_IsRow_1 nf t.1)
theorem o_impl_IsRow_1 (nf : Nat) : conOK Tryz.prog 103 (e_impl_IsRow_1 nf).con := by
  have ih : XT.ok Tryz.prog (T_impl_IsRow_1 nf) := by exact ⟨o_impl_isPlain nf, trivial⟩
  refine eF_ok fun t x h => ?_
  obtain ⟨t, _⟩ := t
  exact runF_ok (N := 6) ih Tryz.func103 (by kernel_rfl) rfl h
def c25_IndexFunc_IsRow : C := .sq (.rg [.mv 4 (.i (-1))]) .rt
def c7_IndexFunc_IsRow : C := .sq (.rg [.bi 9 .lss (.t 8) (.t 7)]) (.sq (.cd (.t 9) .skip (.ex 0)) (.sq (.bk 1 (.sq (.rg [.mv 10 (.t 8), .mv 5 (.t 10)]) (.sq (.rg [.mv 11 (.t 1), .mv 12 (.t 0), .mv 13 (.t 5), .ia 14 (.t 12) (.t 13) (kR 0), .ld 15 (.t 14) (kR 0), .cf (some 16) (.t 11) [((.t 15), .v (kR 0))]]) (.cd (.t 16) (.sq (.rg [.mv 17 (.t 5), .mv 4 (.t 17)]) .rt) .skip)))) (.rg [.bi 18 .add (.t 8) (.i 1), .mv 8 (.t 18)])))
def ir_IndexFunc_IsRow : C := .sq (.rg [.mv 4 (.i 0)]) (.sq (.sq (.rg [.mv 6 (.t 0), .ln 7 false (.t 6), .mv 8 (.i 0)]) (.bk 0 (.lk [0, 1, 7, 8] [] c7_IndexFunc_IsRow))) c25_IndexFunc_IsRow)
noncomputable abbrev T_IndexFunc_IsRow (nf : Nat) : XT := [e_impl_IsRow_1 nf]
noncomputable def m_IndexFunc_IsRow (nf : Nat) (s : List Ty) : Option (Int) := runF (T_IndexFunc_IsRow nf) nf [.v (kL (kR 0)), .fn 103 []] [.t 4 (.v kI)] ir_IndexFunc_IsRow (s, (()), ())
noncomputable def X_IndexFunc_IsRow {R : Type} (nf : Nat) : C → Env → (Xt → Env → Option R) → Option R := xc (R := R) (T_IndexFunc_IsRow nf).S nf
noncomputable def l6_IndexFunc_IsRow (nf : Nat) (m6 : Nat) (s : List Ty) (x8_6 : Int) : Option (Int) := xit [0, 1, 7, 8] [] (X_IndexFunc_IsRow nf c7_IndexFunc_IsRow) (qB 0 (qS (X_IndexFunc_IsRow nf c25_IndexFunc_IsRow) (KF [.t 4 (.v kI)]))) m6 ⟨[(0, .v (kL (kR 0)) s), (1, .fn 103 []), (7, .v kI (List.length s : Int)), (8, .v kI x8_6)], []⟩
theorem l6_IndexFunc_IsRow_eq (nf : Nat) (m6 : Nat) (s : List Ty) (x8_6 : Int) : l6_IndexFunc_IsRow nf (m6 + 1) s x8_6 = (
  br (decide (x8_6 < (List.length s : Int))) (
    gg (0 ≤ x8_6 ∧ x8_6 < (List.length s : Int)) <|
      cb (m_impl_IsRow_1 nf (gt s x8_6 Ty.zero)) fun r16 =>
        br r16 (
          some x8_6) (
          mark (l6_IndexFunc_IsRow nf m6 s (w64 (x8_6 + (1 : Int)))))) (
    some (-1 : Int))) := by kernel_rfl
theorem m_IndexFunc_IsRow_eq (nf : Nat) (s : List Ty) : m_IndexFunc_IsRow nf s = (
  mark (l6_IndexFunc_IsRow nf nf s (0 : Int))) := by kernel_rfl
noncomputable def e_IndexFunc_IsRow (nf : Nat) : XE := eF 132 [.v (kL (kR 0)), .fn 103 []] [.v kI] (fun t => m_IndexFunc_IsRow nf t.1)
theorem o_IndexFunc_IsRow (nf : Nat) : conOK Tryz.prog 132 (e_IndexFunc_IsRow nf).con := by
  have ih : XT.ok Tryz.prog (T_IndexFunc_IsRow nf) := by exact ⟨o_impl_IsRow_1 nf, trivial⟩
  refine eF_ok fun t x h => ?_
  obtain ⟨s, _, _⟩ := t
  exact runF_ok (N := 19) ih Tryz.func132 (by kernel_rfl) rfl h
def ir_ContainsFunc_IsRow : C := .sq (.rg [.mv 4 (.b false)]) (.sq (.rg [.mv 5 (.t 0), .mv 6 (.t 1), .cv (some 7) 132 [((.t 5), .v (kL (kR 0))), ((.t 6), .fn)], .bi 8 .geq (.t 7) (.i 0), .mv 4 (.t 8)]) .rt)
noncomputable abbrev T_ContainsFunc_IsRow (nf : Nat) : XT := [e_IndexFunc_IsRow nf]
noncomputable def m_ContainsFunc_IsRow (nf : Nat) (s : List Ty) : Option (Bool) := runF (T_ContainsFunc_IsRow nf) nf [.v (kL (kR 0)), .fn 103 []] [.t 4 (.v .bool)] ir_ContainsFunc_IsRow (s, (()), ())
theorem m_ContainsFunc_IsRow_eq (nf : Nat) (s : List Ty) : m_ContainsFunc_IsRow nf s = (
  cb (m_IndexFunc_IsRow nf s) fun r7 =>
    some (decide ((0 : Int) ≤ r7))) := by kernel_rfl
noncomputable def e_ContainsFunc_IsRow (nf : Nat) : XE := eF 102 [.v (kL (kR 0)), .fn 103 []] [.v .bool] (fun t => m_ContainsFunc_IsRow nf t.1)
theorem o_ContainsFunc_IsRow (nf : Nat) : conOK Tryz.prog 102 (e_ContainsFunc_IsRow nf).con := by
  have ih : XT.ok Tryz.prog (T_ContainsFunc_IsRow nf) := by exact ⟨o_IndexFunc_IsRow nf, trivial⟩
  refine eF_ok fun t x h => ?_
  obtain ⟨s, _, _⟩ := t
  exact runF_ok (N := 9) ih Tryz.func102 (by kernel_rfl) rfl h
def ir_impl_IsRow : C := .sq (.rg [.bx 1 (.t 0) (kR 0), .mv 2 (.b false)]) (.sq (.rg [.ld 3 (.t 1) (kR 0), .cv (some 4) 85 [((.t 3), .v (kR 0))], .mv 5 (.t 4), .g 5 true (.fa 6 (.t 1) 0 0 0), .g 5 true (.ld 7 (.t 6) kI), .g 5 true (.bi 8 .eql (.t 7) (.i 3)), .pk 9 (.t 5) (.t 8) (.b false), .mv 10 (.t 9), .g 10 true (.fa 11 (.t 1) 0 2 2), .g 10 true (.ld 12 (.t 11) (kL (kR 0))), .g 10 true (.cv (some 13) 102 [((.t 12), .v (kL (kR 0))), ((.f 103), .fn)]), .g 10 true (.un 14 .not (.t 13)), .pk 15 (.t 10) (.t 14) (.b false), .mv 2 (.t 15)]) .rt)
noncomputable abbrev T_impl_IsRow (nf : Nat) : XT := [e_impl_IsValidType nf, e_ContainsFunc_IsRow nf]
noncomputable def m_impl_IsRow (nf : Nat) (t : Ty) : Option (Bool) := runF (T_impl_IsRow nf) nf [.v (kR 0)] [.t 2 (.v .bool)] ir_impl_IsRow (t, ())
theorem m_impl_IsRow_eq (nf : Nat) (t : Ty) : m_impl_IsRow nf t = (
  cb (m_impl_IsValidType nf (Ty.h t)) fun r4 =>
    br (r4 == true) (
      br ((t.kind == (3 : Int)) == true) (
        cb (m_ContainsFunc_IsRow nf t.args) fun r13 =>
          some (!r13)) (
        some false)) (
      some false)) := by kernel_rfl
noncomputable def e_impl_IsRow (nf : Nat) : XE := eF 79 [.v (kR 0)] [.v .bool] (fun t => m_impl_IsRow nf t.1)
theorem o_impl_IsRow (nf : Nat) : conOK Tryz.prog 79 (e_impl_IsRow nf).con := by
  have ih : XT.ok Tryz.prog (T_impl_IsRow nf) := by exact ⟨o_impl_IsValidType nf, o_ContainsFunc_IsRow nf, trivial⟩
  refine eF_ok fun t x h => ?_
  obtain ⟨t, _⟩ := t
  exact runF_ok (N := 16) ih Tryz.func79 (by kernel_rfl) rfl h
def c25_impl_IsSchema : C := .sq (.rg [.fa 40 (.t 1) 5 0 0, .ld 41 (.t 40) (kL (kR 4)), .ln 42 false (.t 41), .bi 43 .leq (.t 42) (.i 4), .mv 2 (.t 43)]) .rt
def c24_impl_IsSchema : C := .rg [.bi 39 .add (.t 8) (.i 1), .mv 8 (.t 39)]
def c19_impl_IsSchema : C := .cd (.t 38) (.sq (.rg [.mv 2 (.b false)]) .rt) .skip
def w19_impl_IsSchema : C := .kp [1, 6, 7, 8, 38] [[1]] c19_impl_IsSchema
def c7_impl_IsSchema : C := .sq (.rg [.bi 9 .lss (.t 8) (.t 7)]) (.sq (.cd (.t 9) .skip (.ex 0)) (.sq (.bk 1 (.sq (.rg [.mv 10 (.t 8), .ia 11 (.t 6) (.t 8) (kR 4), .ld 12 (.t 11) (kR 4), .al 4 (kR 4), .mv 3 (.t 10), .st (.t 4) (.t 12) (kR 4)]) (.sq (.dr [] [.fa 13 (.t 4) 4 0 0, .ld 14 (.t 13) kS, .cv (some 15) 78 [((.t 14), .v kS)], .un 16 .not (.t 15), .mv 17 (.t 16), .g 17 false (.fa 18 (.t 4) 4 1 1), .g 17 false (.ld 19 (.t 18) (kR 0)), .g 17 false (.cv (some 20) 79 [((.t 19), .v (kR 0))]), .g 17 false (.un 21 .not (.t 20)), .pk 22 (.t 17) (.b true) (.t 21), .mv 23 (.t 22), .g 23 false (.mv 24 (.t 3)), .g 23 false (.bi 25 .gtr (.t 24) (.i 0)), .g 23 false (.mv 26 (.t 25)), .g 26 true (.fa 27 (.t 1) 5 0 0), .g 26 true (.ld 28 (.t 27) (kL (kR 4))), .g 26 true (.mv 29 (.t 3)), .g 26 true (.bi 30 .sub (.t 29) (.i 1)), .g 26 true (.ia 31 (.t 28) (.t 30) (kR 4)), .g 26 true (.fa 32 (.t 31) 4 0 0), .g 26 true (.ld 33 (.t 32) kS), .g 26 true (.fa 34 (.t 4) 4 0 0), .g 26 true (.ld 35 (.t 34) kS)] [.g 26 true (.bi 36 .geq (.t 33) (.t 35)), .g 23 false (.pk 37 (.t 26) (.t 36) (.b false)), .pk 38 (.t 23) (.b true) (.t 37)]) w19_impl_IsSchema))) c24_impl_IsSchema))
def ir_impl_IsSchema : C := .sq (.rg [.bx 1 (.t 0) (kR 5), .mv 2 (.b false)]) (.sq (.sq (.rg [.fa 5 (.t 1) 5 0 0, .ld 6 (.t 5) (kL (kR 4)), .ln 7 false (.t 6), .mv 8 (.i 0)]) (.bk 0 (.lk [1, 6, 7, 8] [[1]] c7_impl_IsSchema))) c25_impl_IsSchema)
noncomputable abbrev T_impl_IsSchema (nf : Nat) : XT := [e_impl_IsName nf, e_impl_IsRow nf]
noncomputable def m_impl_IsSchema (nf : Nat) (s : Schema) : Option (Bool) := runF (T_impl_IsSchema nf) nf [.v (kR 5)] [.t 2 (.v .bool)] ir_impl_IsSchema (s, ())
noncomputable def X_impl_IsSchema {R : Type} (nf : Nat) : C → Env → (Xt → Env → Option R) → Option R := xc (R := R) (T_impl_IsSchema nf).S nf
noncomputable def j19_impl_IsSchema (nf : Nat) (m6 : Nat) (s : Schema) (x8_6 : Int) (x38_19 : Bool) : Option (Bool) := X_impl_IsSchema nf c19_impl_IsSchema ⟨[(1, .pt [1] 0), (6, .v (kL (kR 4)) s.tables), (7, .v kI (List.length s.tables : Int)), (8, .v kI x8_6), (38, .v .bool x38_19)], [([1], .box [.v (kL (kR 4)) s.tables])]⟩ (qB 1 (qS (X_impl_IsSchema nf c24_impl_IsSchema) (qM [1, 6, 7, 8] [[1]] (X_impl_IsSchema nf c7_impl_IsSchema) m6 (qB 0 (qS (X_impl_IsSchema nf c25_impl_IsSchema) (KF [.t 2 (.v .bool)]))))))
noncomputable def l6_impl_IsSchema (nf : Nat) (m6 : Nat) (s : Schema) (x8_6 : Int) : Option (Bool) := xit [1, 6, 7, 8] [[1]] (X_impl_IsSchema nf c7_impl_IsSchema) (qB 0 (qS (X_impl_IsSchema nf c25_impl_IsSchema) (KF [.t 2 (.v .bool)]))) m6 ⟨[(1, .pt [1] 0), (6, .v (kL (kR 4)) s.tables), (7, .v kI (List.length s.tables : Int)), (8, .v kI x8_6)], [([1], .box [.v (kL (kR 4)) s.tables])]⟩
theorem j19_impl_IsSchema_eq (nf : Nat) (m6 : Nat) (s : Schema) (x8_6 : Int) (x38_19 : Bool) : j19_impl_IsSchema nf m6 s x8_6 x38_19 = (
  br x38_19 (
    some false) (
    mark (l6_impl_IsSchema nf m6 s (w64 (x8_6 + (1 : Int)))))) := by kernel_rfl
theorem l6_impl_IsSchema_eq (nf : Nat) (m6 : Nat) (s : Schema) (x8_6 : Int) : l6_impl_IsSchema nf (m6 + 1) s x8_6 = (
  br (decide (x8_6 < (List.length s.tables : Int))) (
    gg (0 ≤ x8_6 ∧ x8_6 < (List.length s.tables : Int)) <|
      cb (m_impl_IsName nf ((gt s.tables x8_6 TDecl.zero).name)) fun r15 =>
        br ((!r15) == false) (
          cb (m_impl_IsRow nf (Ty.h ((gt s.tables x8_6 TDecl.zero).row))) fun r20 =>
            br ((!r20) == false) (
              br ((decide ((0 : Int) < x8_6)) == true) (
                gg (0 ≤ (w64 (x8_6 - (1 : Int))) ∧ (w64 (x8_6 - (1 : Int))) < (List.length s.tables : Int)) <|
                  mark (j19_impl_IsSchema nf m6 s x8_6 (!(Op.bytesLess ((gt s.tables (w64 (x8_6 - (1 : Int))) TDecl.zero).name) ((gt s.tables x8_6 TDecl.zero).name))))) (
                mark (j19_impl_IsSchema nf m6 s x8_6 false))) (
              mark (j19_impl_IsSchema nf m6 s x8_6 true))) (
          mark (j19_impl_IsSchema nf m6 s x8_6 true))) (
    some (decide ((List.length s.tables : Int) ≤ (4 : Int))))) := by
  unfold l6_impl_IsSchema j19_impl_IsSchema c7_impl_IsSchema c25_impl_IsSchema w19_impl_IsSchema c24_impl_IsSchema
  generalize c19_impl_IsSchema = x0
  revert x0
  refine id ?_
  intro x0
  kernel_rfl
theorem m_impl_IsSchema_eq (nf : Nat) (s : Schema) : m_impl_IsSchema nf s = (
  mark (l6_impl_IsSchema nf nf s (0 : Int))) := by kernel_rfl
noncomputable def e_impl_IsSchema (nf : Nat) : XE := eF 48 [.v (kR 5)] [.v .bool] (fun t => m_impl_IsSchema nf t.1)
theorem o_impl_IsSchema (nf : Nat) : conOK Tryz.prog 48 (e_impl_IsSchema nf).con := by
  have ih : XT.ok Tryz.prog (T_impl_IsSchema nf) := by exact ⟨o_impl_IsName nf, o_impl_IsRow nf, trivial⟩
  refine eF_ok fun t x h => ?_
  obtain ⟨s, _⟩ := t
  exact runF_ok (N := 44) ih Tryz.func48 (by kernel_rfl) rfl h
def ir_impl_ctxForm_1 : C := .sq (.rg [.bx 1 (.t 0) (kR 8), .mv 2 (.b false)]) (.sq (.rg [.fa 3 (.t 1) 8 0 0, .ld 4 (.t 3) kS, .cv (some 5) 78 [((.t 4), .v kS)], .un 6 .not (.t 5), .mv 7 (.t 6), .g 7 false (.fa 8 (.t 1) 8 1 1), .g 7 false (.ld 9 (.t 8) (kR 0)), .g 7 false (.cv (some 10) 85 [((.t 9), .v (kR 0))]), .g 7 false (.un 11 .not (.t 10)), .pk 12 (.t 7) (.b true) (.t 11), .mv 2 (.t 12)]) .rt)
noncomputable abbrev T_impl_ctxForm_1 (nf : Nat) : XT := [e_impl_IsName nf, e_impl_IsValidType nf]
noncomputable def m_impl_ctxForm_1 (nf : Nat) (x : Typing) : Option (Bool) := runF (T_impl_ctxForm_1 nf) nf [.v (kR 8)] [.t 2 (.v .bool)] ir_impl_ctxForm_1 (x, ())
theorem m_impl_ctxForm_1_eq (nf : Nat) (x : Typing) : m_impl_ctxForm_1 nf x = (
  cb (m_impl_IsName nf x.name) fun r5 =>
    br ((!r5) == false) (
      cb (m_impl_IsValidType nf (Ty.h x.type)) fun r10 =>
        some (!r10)) (
      some true)) := by kernel_rfl
noncomputable def e_impl_ctxForm_1 (nf : Nat) : XE := eF 106 [.v (kR 8)] [.v .bool] (fun t => m_impl_ctxForm_1 nf t.1)
theorem o_impl_ctxForm_1 (nf : Nat) : conOK Tryz.prog 106 (e_impl_ctxForm_1 nf).con := by
  have ih : XT.ok Tryz.prog (T_impl_ctxForm_1 nf) := by exact ⟨o_impl_IsName nf, o_impl_IsValidType nf, trivial⟩
  refine eF_ok fun t x h => ?_
  obtain ⟨x, _⟩ := t
  exact runF_ok (N := 13) ih Tryz.func106 (by kernel_rfl) rfl h
def c25_IndexFunc_ctxForm : C := .sq (.rg [.mv 4 (.i (-1))]) .rt
def c7_IndexFunc_ctxForm : C := .sq (.rg [.bi 9 .lss (.t 8) (.t 7)]) (.sq (.cd (.t 9) .skip (.ex 0)) (.sq (.bk 1 (.sq (.rg [.mv 10 (.t 8), .mv 5 (.t 10)]) (.sq (.rg [.mv 11 (.t 1), .mv 12 (.t 0), .mv 13 (.t 5), .ia 14 (.t 12) (.t 13) (kR 8), .ld 15 (.t 14) (kR 8), .cf (some 16) (.t 11) [((.t 15), .v (kR 8))]]) (.cd (.t 16) (.sq (.rg [.mv 17 (.t 5), .mv 4 (.t 17)]) .rt) .skip)))) (.rg [.bi 18 .add (.t 8) (.i 1), .mv 8 (.t 18)])))
def ir_IndexFunc_ctxForm : C := .sq (.rg [.mv 4 (.i 0)]) (.sq (.sq (.rg [.mv 6 (.t 0), .ln 7 false (.t 6), .mv 8 (.i 0)]) (.bk 0 (.lk [0, 1, 7, 8] [] c7_IndexFunc_ctxForm))) c25_IndexFunc_ctxForm)
noncomputable abbrev T_IndexFunc_ctxForm (nf : Nat) : XT := [e_impl_ctxForm_1 nf]
noncomputable def m_IndexFunc_ctxForm (nf : Nat) (s : List Typing) : Option (Int) := runF (T_IndexFunc_ctxForm nf) nf [.v (kL (kR 8)), .fn 106 []] [.t 4 (.v kI)] ir_IndexFunc_ctxForm (s, (()), ())
noncomputable def X_IndexFunc_ctxForm {R : Type} (nf : Nat) : C → Env → (Xt → Env → Option R) → Option R := xc (R := R) (T_IndexFunc_ctxForm nf).S nf
noncomputable def l6_IndexFunc_ctxForm (nf : Nat) (m6 : Nat) (s : List Typing) (x8_6 : Int) : Option (Int) := xit [0, 1, 7, 8] [] (X_IndexFunc_ctxForm nf c7_IndexFunc_ctxForm) (qB 0 (qS (X_IndexFunc_ctxForm nf c25_IndexFunc_ctxForm) (KF [.t 4 (.v kI)]))) m6 ⟨[(0, .v (kL (kR 8)) s), (1, .fn 106 []), (7, .v kI (List.length s : Int)), (8, .v kI x8_6)], []⟩
theorem l6_IndexFunc_ctxForm_eq (nf : Nat) (m6 : Nat) (s : List Typing) (x8_6 : Int) : l6_IndexFunc_ctxForm nf (m6 + 1) s x8_6 = (
  br (decide (x8_6 < (List.length s : Int))) (
    gg (0 ≤ x8_6 ∧ x8_6 < (List.length s : Int)) <|
      cb (m_impl_ctxForm_1 nf (gt s x8_6 Typing.zero)) fun r16 =>
        br r16 (
          some x8_6) (
          mark (l6_IndexFunc_ctxForm nf m6 s (w64 (x8_6 + (1 : Int)))))) (
    some (-1 : Int))) := by kernel_rfl
theorem m_IndexFunc_ctxForm_eq (nf : Nat) (s : List Typing) : m_IndexFunc_ctxForm nf s = (
  mark (l6_IndexFunc_ctxForm nf nf s (0 : Int))) := by kernel_rfl
noncomputable def e_IndexFunc_ctxForm (nf : Nat) : XE := eF 133 [.v (kL (kR 8)), .fn 106 []] [.v kI] (fun t => m_IndexFunc_ctxForm nf t.1)
theorem o_IndexFunc_ctxForm (nf : Nat) : conOK Tryz.prog 133 (e_IndexFunc_ctxForm nf).con := by
  have ih : XT.ok Tryz.prog (T_IndexFunc_ctxForm nf) := by exact ⟨o_impl_ctxForm_1 nf, trivial⟩
  refine eF_ok fun t x h => ?_
  obtain ⟨s, _, _⟩ := t
  exact runF_ok (N := 19) ih Tryz.func133 (by kernel_rfl) rfl h
def ir_ContainsFunc_ctxForm : C := .sq (.rg [.mv 4 (.b false)]) (.sq (.rg [.mv 5 (.t 0), .mv 6 (.t 1), .cv (some 7) 133 [((.t 5), .v (kL (kR 8))), ((.t 6), .fn)], .bi 8 .geq (.t 7) (.i 0), .mv 4 (.t 8)]) .rt)
noncomputable abbrev T_ContainsFunc_ctxForm (nf : Nat) : XT := [e_IndexFunc_ctxForm nf]
noncomputable def m_ContainsFunc_ctxForm (nf : Nat) (s : List Typing) : Option (Bool) := runF (T_ContainsFunc_ctxForm nf) nf [.v (kL (kR 8)), .fn 106 []] [.t 4 (.v .bool)] ir_ContainsFunc_ctxForm (s, (()), ())
theorem m_ContainsFunc_ctxForm_eq (nf : Nat) (s : List Typing) : m_ContainsFunc_ctxForm nf s = (
  cb (m_IndexFunc_ctxForm nf s) fun r7 =>
    some (decide ((0 : Int) ≤ r7))) := by kernel_rfl
noncomputable def e_ContainsFunc_ctxForm (nf : Nat) : XE := eF 105 [.v (kL (kR 8)), .fn 106 []] [.v .bool] (fun t => m_ContainsFunc_ctxForm nf t.1)
theorem o_ContainsFunc_ctxForm (nf : Nat) : conOK Tryz.prog 105 (e_ContainsFunc_ctxForm nf).con := by
  have ih : XT.ok Tryz.prog (T_ContainsFunc_ctxForm nf) := by exact ⟨o_IndexFunc_ctxForm nf, trivial⟩
  refine eF_ok fun t x h => ?_
  obtain ⟨s, _, _⟩ := t
  exact runF_ok (N := 9) ih Tryz.func105 (by kernel_rfl) rfl h
def ir_impl_ctxForm : C := .sq (.rg [.mv 2 (.b false)]) (.sq (.rg [.mv 3 (.t 0), .cv (some 4) 105 [((.t 3), .v (kL (kR 8))), ((.f 106), .fn)], .un 5 .not (.t 4), .mv 2 (.t 5)]) .rt)
noncomputable abbrev T_impl_ctxForm (nf : Nat) : XT := [e_ContainsFunc_ctxForm nf]
noncomputable def m_impl_ctxForm (nf : Nat) (ctx : List Typing) : Option (Bool) := runF (T_impl_ctxForm nf) nf [.v (kL (kR 8))] [.t 2 (.v .bool)] ir_impl_ctxForm (ctx, ())
theorem m_impl_ctxForm_eq (nf : Nat) (ctx : List Typing) : m_impl_ctxForm nf ctx = (
  cb (m_ContainsFunc_ctxForm nf ctx) fun r4 =>
    some (!r4)) := by kernel_rfl
noncomputable def e_impl_ctxForm (nf : Nat) : XE := eF 80 [.v (kL (kR 8))] [.v .bool] (fun t => m_impl_ctxForm nf t.1)
theorem o_impl_ctxForm (nf : Nat) : conOK Tryz.prog 80 (e_impl_ctxForm nf).con := by
  have ih : XT.ok Tryz.prog (T_impl_ctxForm nf) := by exact ⟨o_ContainsFunc_ctxForm nf, trivial⟩
  refine eF_ok fun t x h => ?_
  obtain ⟨ctx, _⟩ := t
  exact runF_ok (N := 6) ih Tryz.func80 (by kernel_rfl) rfl h
def ir_impl_IsCtx : C := .sq (.rg [.mv 2 (.b false)]) (.sq (.rg [.mv 3 (.t 0), .ln 4 false (.t 3), .bi 5 .leq (.t 4) (.i 16), .mv 6 (.t 5), .g 6 true (.mv 7 (.t 0)), .g 6 true (.cv (some 8) 80 [((.t 7), .v (kL (kR 8)))]), .pk 9 (.t 6) (.t 8) (.b false), .mv 2 (.t 9)]) .rt)
noncomputable abbrev T_impl_IsCtx (nf : Nat) : XT := [e_impl_ctxForm nf]
noncomputable def m_impl_IsCtx (nf : Nat) (ctx : List Typing) : Option (Bool) := runF (T_impl_IsCtx nf) nf [.v (kL (kR 8))] [.t 2 (.v .bool)] ir_impl_IsCtx (ctx, ())
theorem m_impl_IsCtx_eq (nf : Nat) (ctx : List Typing) : m_impl_IsCtx nf ctx = (
  br ((decide ((List.length ctx : Int) ≤ (16 : Int))) == true) (
    cb (m_impl_ctxForm nf ctx) fun r8 =>
      some r8) (
    some false)) := by kernel_rfl
noncomputable def e_impl_IsCtx (nf : Nat) : XE := eF 49 [.v (kL (kR 8))] [.v .bool] (fun t => m_impl_IsCtx nf t.1)
theorem o_impl_IsCtx (nf : Nat) : conOK Tryz.prog 49 (e_impl_IsCtx nf).con := by
  have ih : XT.ok Tryz.prog (T_impl_IsCtx nf) := by exact ⟨o_impl_ctxForm nf, trivial⟩
  refine eF_ok fun t x h => ?_
  obtain ⟨ctx, _⟩ := t
  exact runF_ok (N := 10) ih Tryz.func49 (by kernel_rfl) rfl h
def c21_impl_sizeOf : C := .sq (.rg [.mv 23 (.t 3), .mv 2 (.t 23)]) .rt
def c9_impl_sizeOf : C := .sq (.rg [.bi 11 .lss (.t 10) (.t 9)]) (.sq (.cd (.t 11) .skip (.ex 0)) (.sq (.bk 1 (.sq (.rg [.mv 12 (.t 10), .mv 4 (.t 12)]) (.rg [.mv 13 (.t 3), .mv 14 (.t 0), .nck 15 (.t 14), .fa 16 (.t 15) 2 5 7, .ld 17 (.t 16) (kL (kR 2)), .mv 18 (.t 4), .ia 19 (.t 17) (.t 18) (kR 2), .cv (some 20) 81 [((.t 19), .v (.ptr (kR 2)))], .bi 21 .add (.t 13) (.t 20), .mv 3 (.t 21)]))) (.rg [.bi 22 .add (.t 10) (.i 1), .mv 10 (.t 22)])))
def ir_impl_sizeOf : C := .sq (.rg [.mv 2 (.i 0)]) (.sq (.rg [.mv 3 (.i 1)]) (.sq (.sq (.rg [.mv 5 (.t 0), .nck 6 (.t 5), .fa 7 (.t 6) 2 5 7, .ld 8 (.t 7) (kL (kR 2)), .ln 9 false (.t 8), .mv 10 (.i 0)]) (.bk 0 (.lk [0, 3, 9, 10] [] c9_impl_sizeOf))) c21_impl_sizeOf))
noncomputable def B_impl_sizeOf (nf : Nat) : XT := []
noncomputable def G_impl_sizeOf (nf : Nat) : Nat → XT
  | 0 => []
  | kf + 1 => [eF 81 [.p (kR 2)] [.v kI] (fun t => (fun (e : Tm) => runF (G_impl_sizeOf nf kf ++ B_impl_sizeOf nf) nf [.p (kR 2)] [.t 2 (.v kI)] ir_impl_sizeOf (e, ())) t.1)]
noncomputable abbrev T_impl_sizeOf (nf kf : Nat) : XT := G_impl_sizeOf nf kf ++ B_impl_sizeOf nf
noncomputable def m_impl_sizeOf (nf kf : Nat) (e : Tm) : Option (Int) := runF (T_impl_sizeOf nf kf) nf [.p (kR 2)] [.t 2 (.v kI)] ir_impl_sizeOf (e, ())
noncomputable def X_impl_sizeOf {R : Type} (nf kf : Nat) : C → Env → (Xt → Env → Option R) → Option R := xc (R := R) (T_impl_sizeOf nf kf).S nf
noncomputable def l8_impl_sizeOf (nf kf : Nat) (m8 : Nat) (e : Tm) (x3_8 : Int) (x10_8 : Int) : Option (Int) := xit [0, 3, 9, 10] [] (X_impl_sizeOf nf kf c9_impl_sizeOf) (qB 0 (qS (X_impl_sizeOf nf kf c21_impl_sizeOf) (KF [.t 2 (.v kI)]))) m8 ⟨[(0, .v (.ptr (kR 2)) (some e)), (3, .v kI x3_8), (9, .v kI (List.length e.args : Int)), (10, .v kI x10_8)], []⟩
theorem l8_impl_sizeOf_eq (nf kf : Nat) (m8 : Nat) (e : Tm) (x3_8 : Int) (x10_8 : Int) : l8_impl_sizeOf nf (kf + 1) (m8 + 1) e x3_8 x10_8 = (
  br (decide (x10_8 < (List.length e.args : Int))) (
    gg (0 ≤ x10_8 ∧ x10_8 < (List.length e.args : Int)) <|
      cb (m_impl_sizeOf nf kf (gt e.args x10_8 Tm.zero)) fun r20 =>
        mark (l8_impl_sizeOf nf (kf + 1) m8 e (w64 (x3_8 + r20)) (w64 (x10_8 + (1 : Int))))) (
    some x3_8)) := by kernel_rfl
theorem m_impl_sizeOf_eq (nf kf : Nat) (e : Tm) : m_impl_sizeOf nf (kf + 1) e = (
  mark (l8_impl_sizeOf nf (kf + 1) nf e (1 : Int) (0 : Int))) := by kernel_rfl
noncomputable def e_impl_sizeOf (nf : Nat) : XE := eF 81 [.p (kR 2)] [.v kI] (fun t => m_impl_sizeOf nf nf t.1)
theorem gok_impl_sizeOf (nf : Nat) : ∀ kf : Nat, XT.ok Tryz.prog (G_impl_sizeOf nf kf ++ B_impl_sizeOf nf)
  | 0 => by exact trivial
  | kf + 1 => by
    have ih := gok_impl_sizeOf nf kf
    refine ⟨?_, (by exact trivial)⟩
    · refine eF_ok fun t x h => ?_
      obtain ⟨e, _⟩ := t
      exact runF_ok (N := 24) ih Tryz.func81 (by kernel_rfl) rfl h
theorem o_impl_sizeOf (nf : Nat) : conOK Tryz.prog 81 (e_impl_sizeOf nf).con := by
  have ih := gok_impl_sizeOf nf nf
  refine eF_ok fun t x h => ?_
  obtain ⟨e, _⟩ := t
  exact runF_ok (N := 24) ih Tryz.func81 (by kernel_rfl) rfl h
def c21_impl_DepthOfTerm : C := .sq (.rg [.mv 20 (.t 3), .bi 21 .add (.t 20) (.i 1), .mv 2 (.t 21)]) .rt
def c9_impl_DepthOfTerm : C := .sq (.rg [.bi 9 .lss (.t 8) (.t 7)]) (.sq (.cd (.t 9) .skip (.ex 0)) (.sq (.bk 1 (.sq (.rg [.mv 10 (.t 8), .mv 4 (.t 10)]) (.rg [.mv 11 (.t 3), .fa 12 (.t 1) 2 5 7, .ld 13 (.t 12) (kL (kR 2)), .mv 14 (.t 4), .ia 15 (.t 13) (.t 14) (kR 2), .ld 16 (.t 15) (kR 2), .cv (some 17) 82 [((.t 16), .v (kR 2))], .bmx 18 false (.t 11) (.t 17), .mv 3 (.t 18)]))) (.rg [.bi 19 .add (.t 8) (.i 1), .mv 8 (.t 19)])))
def ir_impl_DepthOfTerm : C := .sq (.rg [.bx 1 (.t 0) (kR 2), .mv 2 (.i 0)]) (.sq (.rg [.mv 3 (.i 0)]) (.sq (.sq (.rg [.fa 5 (.t 1) 2 5 7, .ld 6 (.t 5) (kL (kR 2)), .ln 7 false (.t 6), .mv 8 (.i 0)]) (.bk 0 (.lk [1, 3, 7, 8] [[1]] c9_impl_DepthOfTerm))) c21_impl_DepthOfTerm))
noncomputable def B_impl_DepthOfTerm (nf : Nat) : XT := []
noncomputable def G_impl_DepthOfTerm (nf : Nat) : Nat → XT
  | 0 => []
  | kf + 1 => [eF 82 [.v (kR 2)] [.v kI] (fun t => (fun (e : Tm) => runF (G_impl_DepthOfTerm nf kf ++ B_impl_DepthOfTerm nf) nf [.v (kR 2)] [.t 2 (.v kI)] ir_impl_DepthOfTerm (e, ())) t.1)]
noncomputable abbrev T_impl_DepthOfTerm (nf kf : Nat) : XT := G_impl_DepthOfTerm nf kf ++ B_impl_DepthOfTerm nf
noncomputable def m_impl_DepthOfTerm (nf kf : Nat) (e : Tm) : Option (Int) := runF (T_impl_DepthOfTerm nf kf) nf [.v (kR 2)] [.t 2 (.v kI)] ir_impl_DepthOfTerm (e, ())
noncomputable def X_impl_DepthOfTerm {R : Type} (nf kf : Nat) : C → Env → (Xt → Env → Option R) → Option R := xc (R := R) (T_impl_DepthOfTerm nf kf).S nf
noncomputable def l8_impl_DepthOfTerm (nf kf : Nat) (m8 : Nat) (e : Tm) (x3_8 : Int) (x8_8 : Int) : Option (Int) := xit [1, 3, 7, 8] [[1]] (X_impl_DepthOfTerm nf kf c9_impl_DepthOfTerm) (qB 0 (qS (X_impl_DepthOfTerm nf kf c21_impl_DepthOfTerm) (KF [.t 2 (.v kI)]))) m8 ⟨[(1, .pt [1] 0), (3, .v kI x3_8), (7, .v kI (List.length e.args : Int)), (8, .v kI x8_8)], [([1], .box [.v kI e.kind, .v kS e.name, .v kI e.n, .v kI e.type.kind, .v (kL kS) e.type.labels, .v (kL (kR 0)) e.type.args, .v (kL kS) e.labels, .v (kL (kR 2)) e.args])]⟩
theorem l8_impl_DepthOfTerm_eq (nf kf : Nat) (m8 : Nat) (e : Tm) (x3_8 : Int) (x8_8 : Int) : l8_impl_DepthOfTerm nf (kf + 1) (m8 + 1) e x3_8 x8_8 = (
  br (decide (x8_8 < (List.length e.args : Int))) (
    gg (0 ≤ x8_8 ∧ x8_8 < (List.length e.args : Int)) <|
      cb (m_impl_DepthOfTerm nf kf (gt e.args x8_8 Tm.zero)) fun r17 =>
        mark (l8_impl_DepthOfTerm nf (kf + 1) m8 e (mx2 false x3_8 r17) (w64 (x8_8 + (1 : Int))))) (
    some (w64 (x3_8 + (1 : Int))))) := by kernel_rfl
theorem m_impl_DepthOfTerm_eq (nf kf : Nat) (e : Tm) : m_impl_DepthOfTerm nf (kf + 1) e = (
  mark (l8_impl_DepthOfTerm nf (kf + 1) nf e (0 : Int) (0 : Int))) := by kernel_rfl
noncomputable def e_impl_DepthOfTerm (nf : Nat) : XE := eF 82 [.v (kR 2)] [.v kI] (fun t => m_impl_DepthOfTerm nf nf t.1)
theorem gok_impl_DepthOfTerm (nf : Nat) : ∀ kf : Nat, XT.ok Tryz.prog (G_impl_DepthOfTerm nf kf ++ B_impl_DepthOfTerm nf)
  | 0 => by exact trivial
  | kf + 1 => by
    have ih := gok_impl_DepthOfTerm nf kf
    refine ⟨?_, (by exact trivial)⟩
    · refine eF_ok fun t x h => ?_
      obtain ⟨e, _⟩ := t
      exact runF_ok (N := 22) ih Tryz.func82 (by kernel_rfl) rfl h
theorem o_impl_DepthOfTerm (nf : Nat) : conOK Tryz.prog 82 (e_impl_DepthOfTerm nf).con := by
  have ih := gok_impl_DepthOfTerm nf nf
  refine eF_ok fun t x h => ?_
  obtain ⟨e, _⟩ := t
  exact runF_ok (N := 22) ih Tryz.func82 (by kernel_rfl) rfl h
def c39_impl_OpArity : C := .sq (.rg [.mv 2 (.i 0)]) .rt
def c28_impl_OpArity : C := .cd (.t 4) (.sq (.rg [.mv 2 (.i 2)]) .rt) (.sq (.rg [.bi 12 .eql (.t 3) (.s [33]), .mv 11 (.t 12)]) (.cd (.t 11) (.sq (.rg [.mv 2 (.i 1)]) .rt) .skip))
def w28_impl_OpArity : C := .kp [3, 4] [] c28_impl_OpArity
def ir_impl_OpArity : C := .sq (.rg [.mv 2 (.i 0)]) (.sq (.sq (.rg [.mv 3 (.t 0)]) (.bk 0 (.sq (.sq (.rg [.bi 5 .eql (.t 3) (.s [43]), .mv 4 (.t 5)]) (.cd (.t 4) .skip (.sq (.rg [.bi 6 .eql (.t 3) (.s [45]), .mv 4 (.t 6)]) (.cd (.t 4) .skip (.sq (.rg [.bi 7 .eql (.t 3) (.s [61]), .mv 4 (.t 7)]) (.cd (.t 4) .skip (.sq (.rg [.bi 8 .eql (.t 3) (.s [60]), .mv 4 (.t 8)]) (.cd (.t 4) .skip (.sq (.rg [.bi 9 .eql (.t 3) (.s [38]), .mv 4 (.t 9)]) (.cd (.t 4) .skip (.rg [.bi 10 .eql (.t 3) (.s [124]), .mv 4 (.t 10)]))))))))))) w28_impl_OpArity))) c39_impl_OpArity)
noncomputable abbrev T_impl_OpArity (nf : Nat) : XT := []
noncomputable def m_impl_OpArity (nf : Nat) (op : Str) : Option (Int) := runF (T_impl_OpArity nf) nf [.v kS] [.t 2 (.v kI)] ir_impl_OpArity (op, ())
noncomputable def X_impl_OpArity {R : Type} (nf : Nat) : C → Env → (Xt → Env → Option R) → Option R := xc (R := R) (T_impl_OpArity nf).S nf
noncomputable def j28_impl_OpArity (nf : Nat) (op : Str) (x4_28 : Bool) : Option (Int) := X_impl_OpArity nf c28_impl_OpArity ⟨[(3, .v kS op), (4, .v .bool x4_28)], []⟩ (qB 0 (qS (X_impl_OpArity nf c39_impl_OpArity) (KF [.t 2 (.v kI)])))
theorem j28_impl_OpArity_eq (nf : Nat) (op : Str) (x4_28 : Bool) : j28_impl_OpArity nf op x4_28 = (
  br x4_28 (
    some (2 : Int)) (
    br (op == ([33] : Str)) (
      some (1 : Int)) (
      some (0 : Int)))) := by kernel_rfl
theorem m_impl_OpArity_eq (nf : Nat) (op : Str) : m_impl_OpArity nf op = (
  br (op == ([43] : Str)) (
    mark (j28_impl_OpArity nf op (op == ([43] : Str)))) (
    br (op == ([45] : Str)) (
      mark (j28_impl_OpArity nf op (op == ([45] : Str)))) (
      br (op == ([61] : Str)) (
        mark (j28_impl_OpArity nf op (op == ([61] : Str)))) (
        br (op == ([60] : Str)) (
          mark (j28_impl_OpArity nf op (op == ([60] : Str)))) (
          br (op == ([38] : Str)) (
            mark (j28_impl_OpArity nf op (op == ([38] : Str)))) (
            mark (j28_impl_OpArity nf op (op == ([124] : Str))))))))) := by
  unfold m_impl_OpArity j28_impl_OpArity ir_impl_OpArity w28_impl_OpArity c39_impl_OpArity
  generalize c28_impl_OpArity = x0
  revert x0
  refine id ?_
  intro x0
  kernel_rfl
noncomputable def e_impl_OpArity (nf : Nat) : XE := eF 146 [.v kS] [.v kI] (fun t => m_impl_OpArity nf t.1)
theorem o_impl_OpArity (nf : Nat) : conOK Tryz.prog 146 (e_impl_OpArity nf).con := by
  have ih : XT.ok Tryz.prog (T_impl_OpArity nf) := by exact trivial
  refine eF_ok fun t x h => ?_
  obtain ⟨op, _⟩ := t
  exact runF_ok (N := 13) ih Tryz.func146 (by kernel_rfl) rfl h
def c93_impl_shape : C := .sq (.rg [.mv 2 (.i 0), .mv 3 (.b false), .mv 4 (.b false), .mv 5 (.b false)]) .rt
def c70_impl_shape : C := .cd (.t 49) (.sq (.rg [.mv 2 (.i 2), .mv 3 (.b false), .mv 4 (.b false), .mv 5 (.b true)]) .rt) (.sq (.rg [.bi 53 .eql (.t 9) (.i 10), .mv 52 (.t 53)]) (.cd (.t 52) (.sq (.rg [.mv 2 (.i 2), .mv 3 (.b true), .mv 4 (.b false), .mv 5 (.b true)]) .rt) (.sq (.rg [.bi 55 .eql (.t 9) (.i 11), .mv 54 (.t 55)]) (.cd (.t 54) (.sq (.rg [.mv 2 (.i 3), .mv 3 (.b false), .mv 4 (.b false), .mv 5 (.b true)]) .rt) (.sq (.rg [.bi 57 .eql (.t 9) (.i 13), .mv 56 (.t 57)]) (.cd (.t 56) (.sq (.rg [.mv 2 (.i 1), .mv 3 (.b true), .mv 4 (.b true), .mv 5 (.b true)]) .rt) .skip))))))
def w70_impl_shape : C := .kp [9, 49] [] c70_impl_shape
def c60_impl_shape : C := .cd (.t 45) (.sq (.rg [.mv 2 (.i 1), .mv 3 (.b false), .mv 4 (.b false), .mv 5 (.b true)]) .rt) (.sq (.sq (.rg [.bi 50 .eql (.t 9) (.i 9), .mv 49 (.t 50)]) (.cd (.t 49) .skip (.rg [.bi 51 .eql (.t 9) (.i 14), .mv 49 (.t 51)]))) w70_impl_shape)
def w60_impl_shape : C := .kp [9, 45] [] c60_impl_shape
def c22_impl_shape : C := .cd (.t 13) (.sq (.rg [.mv 2 (.i 0), .mv 3 (.b false), .mv 4 (.b false), .mv 5 (.b true)]) .rt) (.sq (.rg [.bi 17 .eql (.t 9) (.i 4), .mv 16 (.t 17)]) (.cd (.t 16) (.sq (.dr [] [.mv 18 (.t 0), .nck 19 (.t 18), .fa 20 (.t 19) 2 1 1, .ld 21 (.t 20) kS, .cv (some 22) 146 [((.t 21), .v kS)], .mv 23 (.t 0), .nck 24 (.t 23), .fa 25 (.t 24) 2 1 1, .ld 26 (.t 25) kS, .cv (some 27) 146 [((.t 26), .v kS)], .bi 28 .gtr (.t 27) (.i 0), .mv 2 (.t 22), .mv 3 (.b true), .mv 4 (.b false)] [.mv 5 (.t 28)]) .rt) (.sq (.rg [.bi 30 .eql (.t 9) (.i 5), .mv 29 (.t 30)]) (.cd (.t 29) (.sq (.dr [] [.mv 31 (.t 0), .nck 32 (.t 31), .fa 33 (.t 32) 2 4 6, .ld 34 (.t 33) (kL kS), .ln 35 false (.t 34), .mv 36 (.t 0), .nck 37 (.t 36), .fa 38 (.t 37) 2 4 6, .ld 39 (.t 38) (kL kS), .cv (some 40) 117 [((.t 39), .v (kL kS))]] [.mv 2 (.t 35), .mv 3 (.b false), .mv 4 (.b false), .mv 5 (.t 40)]) .rt) (.sq (.rg [.bi 42 .eql (.t 9) (.i 6), .mv 41 (.t 42)]) (.cd (.t 41) (.sq (.rg [.mv 2 (.i 1), .mv 3 (.b true), .mv 4 (.b false), .mv 5 (.b true)]) .rt) (.sq (.rg [.bi 44 .eql (.t 9) (.i 7), .mv 43 (.t 44)]) (.cd (.t 43) (.sq (.rg [.mv 2 (.i 0), .mv 3 (.b false), .mv 4 (.b true), .mv 5 (.b true)]) .rt) (.sq (.sq (.rg [.bi 46 .eql (.t 9) (.i 8), .mv 45 (.t 46)]) (.cd (.t 45) .skip (.sq (.rg [.bi 47 .eql (.t 9) (.i 15), .mv 45 (.t 47)]) (.cd (.t 45) .skip (.rg [.bi 48 .eql (.t 9) (.i 16), .mv 45 (.t 48)]))))) w60_impl_shape)))))))))
def w22_impl_shape : C := .kp [0, 9, 13] [] c22_impl_shape
def c12_impl_shape : C := .cd (.t 10) (.sq (.rg [.mv 2 (.i 0), .mv 3 (.b true), .mv 4 (.b false), .mv 5 (.b true)]) .rt) (.sq (.sq (.rg [.bi 14 .eql (.t 9) (.i 2), .mv 13 (.t 14)]) (.cd (.t 13) .skip (.rg [.bi 15 .eql (.t 9) (.i 3), .mv 13 (.t 15)]))) w22_impl_shape)
def w12_impl_shape : C := .kp [0, 9, 10] [] c12_impl_shape
def ir_impl_shape : C := .sq (.rg [.mv 2 (.i 0), .mv 3 (.b false), .mv 4 (.b false), .mv 5 (.b false)]) (.sq (.sq (.rg [.mv 6 (.t 0), .nck 7 (.t 6), .fa 8 (.t 7) 2 0 0, .ld 9 (.t 8) kI]) (.bk 0 (.sq (.sq (.rg [.bi 11 .eql (.t 9) (.i 1), .mv 10 (.t 11)]) (.cd (.t 10) .skip (.rg [.bi 12 .eql (.t 9) (.i 12), .mv 10 (.t 12)]))) w12_impl_shape))) c93_impl_shape)
noncomputable abbrev T_impl_shape (nf : Nat) : XT := [e_impl_OpArity nf, e_impl_labelsOk nf]
noncomputable def m_impl_shape (nf : Nat) (e : Tm) : Option (Int × Bool × Bool × Bool) := runF (T_impl_shape nf) nf [.p (kR 2)] [.t 2 (.v kI), .t 3 (.v .bool), .t 4 (.v .bool), .t 5 (.v .bool)] ir_impl_shape (e, ())
noncomputable def X_impl_shape {R : Type} (nf : Nat) : C → Env → (Xt → Env → Option R) → Option R := xc (R := R) (T_impl_shape nf).S nf
noncomputable def j70_impl_shape (nf : Nat) (e : Tm) (x49_70 : Bool) : Option (Int × Bool × Bool × Bool) := X_impl_shape nf c70_impl_shape ⟨[(9, .v kI e.kind), (49, .v .bool x49_70)], []⟩ (qB 0 (qS (X_impl_shape nf c93_impl_shape) (KF [.t 2 (.v kI), .t 3 (.v .bool), .t 4 (.v .bool), .t 5 (.v .bool)])))
noncomputable def j60_impl_shape (nf : Nat) (e : Tm) (x45_60 : Bool) : Option (Int × Bool × Bool × Bool) := X_impl_shape nf c60_impl_shape ⟨[(9, .v kI e.kind), (45, .v .bool x45_60)], []⟩ (qB 0 (qS (X_impl_shape nf c93_impl_shape) (KF [.t 2 (.v kI), .t 3 (.v .bool), .t 4 (.v .bool), .t 5 (.v .bool)])))
noncomputable def j22_impl_shape (nf : Nat) (e : Tm) (x13_22 : Bool) : Option (Int × Bool × Bool × Bool) := X_impl_shape nf c22_impl_shape ⟨[(0, .v (.ptr (kR 2)) (some e)), (9, .v kI e.kind), (13, .v .bool x13_22)], []⟩ (qB 0 (qS (X_impl_shape nf c93_impl_shape) (KF [.t 2 (.v kI), .t 3 (.v .bool), .t 4 (.v .bool), .t 5 (.v .bool)])))
noncomputable def j12_impl_shape (nf : Nat) (e : Tm) (x10_12 : Bool) : Option (Int × Bool × Bool × Bool) := X_impl_shape nf c12_impl_shape ⟨[(0, .v (.ptr (kR 2)) (some e)), (9, .v kI e.kind), (10, .v .bool x10_12)], []⟩ (qB 0 (qS (X_impl_shape nf c93_impl_shape) (KF [.t 2 (.v kI), .t 3 (.v .bool), .t 4 (.v .bool), .t 5 (.v .bool)])))
theorem j70_impl_shape_eq (nf : Nat) (e : Tm) (x49_70 : Bool) : j70_impl_shape nf e x49_70 = (
  br x49_70 (
    some ((2 : Int), false, false, true)) (
    br (e.kind == (10 : Int)) (
      some ((2 : Int), true, false, true)) (
      br (e.kind == (11 : Int)) (
        some ((3 : Int), false, false, true)) (
        br (e.kind == (13 : Int)) (
          some ((1 : Int), true, true, true)) (
          some ((0 : Int), false, false, false)))))) := by kernel_rfl
theorem j60_impl_shape_eq (nf : Nat) (e : Tm) (x45_60 : Bool) : j60_impl_shape nf e x45_60 = (
  br x45_60 (
    some ((1 : Int), false, false, true)) (
    br (e.kind == (9 : Int)) (
      mark (j70_impl_shape nf e (e.kind == (9 : Int)))) (
      mark (j70_impl_shape nf e (e.kind == (14 : Int)))))) := by
  unfold j60_impl_shape j70_impl_shape c60_impl_shape c93_impl_shape w70_impl_shape
  generalize c70_impl_shape = x0
  revert x0
  refine id ?_
  intro x0
  kernel_rfl
theorem j22_impl_shape_eq (nf : Nat) (e : Tm) (x13_22 : Bool) : j22_impl_shape nf e x13_22 = (
  br x13_22 (
    some ((0 : Int), false, false, true)) (
    br (e.kind == (4 : Int)) (
      cb (m_impl_OpArity nf e.name) fun r22 =>
        cb (m_impl_OpArity nf e.name) fun r27 =>
          some (r22, true, false, (decide ((0 : Int) < r27)))) (
      br (e.kind == (5 : Int)) (
        cb (m_impl_labelsOk nf e.labels) fun r40 =>
          some ((List.length e.labels : Int), false, false, r40)) (
        br (e.kind == (6 : Int)) (
          some ((1 : Int), true, false, true)) (
          br (e.kind == (7 : Int)) (
            some ((0 : Int), false, true, true)) (
            br (e.kind == (8 : Int)) (
              mark (j60_impl_shape nf e (e.kind == (8 : Int)))) (
              br (e.kind == (15 : Int)) (
                mark (j60_impl_shape nf e (e.kind == (15 : Int)))) (
                mark (j60_impl_shape nf e (e.kind == (16 : Int))))))))))) := by
  unfold j22_impl_shape j60_impl_shape c22_impl_shape c93_impl_shape w60_impl_shape
  generalize c60_impl_shape = x0
  revert x0
  refine id ?_
  intro x0
  kernel_rfl
theorem j12_impl_shape_eq (nf : Nat) (e : Tm) (x10_12 : Bool) : j12_impl_shape nf e x10_12 = (
  br x10_12 (
    some ((0 : Int), true, false, true)) (
    br (e.kind == (2 : Int)) (
      mark (j22_impl_shape nf e (e.kind == (2 : Int)))) (
      mark (j22_impl_shape nf e (e.kind == (3 : Int)))))) := by
  unfold j12_impl_shape j22_impl_shape c12_impl_shape c93_impl_shape w22_impl_shape
  generalize c22_impl_shape = x0
  revert x0
  refine id ?_
  intro x0
  kernel_rfl
theorem m_impl_shape_eq (nf : Nat) (e : Tm) : m_impl_shape nf e = (
  br (e.kind == (1 : Int)) (
    mark (j12_impl_shape nf e (e.kind == (1 : Int)))) (
    mark (j12_impl_shape nf e (e.kind == (12 : Int))))) := by
  unfold m_impl_shape j12_impl_shape ir_impl_shape w12_impl_shape c93_impl_shape
  generalize c12_impl_shape = x0
  revert x0
  refine id ?_
  intro x0
  kernel_rfl
noncomputable def e_impl_shape (nf : Nat) : XE := eF 134 [.p (kR 2)] [.v kI, .v .bool, .v .bool, .v .bool] (fun t => m_impl_shape nf t.1)
theorem o_impl_shape (nf : Nat) : conOK Tryz.prog 134 (e_impl_shape nf).con := by
  have ih : XT.ok Tryz.prog (T_impl_shape nf) := by exact ⟨o_impl_OpArity nf, o_impl_labelsOk nf, trivial⟩
  refine eF_ok fun t x h => ?_
  obtain ⟨e, _⟩ := t
  exact runF_ok (N := 58) ih Tryz.func134 (by kernel_rfl) rfl h
def ir_impl_isZeroType : C := .sq (.rg [.bx 1 (.t 0) (kR 0), .mv 2 (.b false)]) (.sq (.rg [.fa 3 (.t 1) 0 0 0, .ld 4 (.t 3) kI, .bi 5 .eql (.t 4) (.i 0), .mv 6 (.t 5), .g 6 true (.fa 7 (.t 1) 0 1 1), .g 6 true (.ld 8 (.t 7) (kL kS)), .g 6 true (.ln 9 false (.t 8)), .g 6 true (.bi 10 .eql (.t 9) (.i 0)), .pk 11 (.t 6) (.t 10) (.b false), .mv 12 (.t 11), .g 12 true (.fa 13 (.t 1) 0 2 2), .g 12 true (.ld 14 (.t 13) (kL (kR 0))), .g 12 true (.ln 15 false (.t 14)), .g 12 true (.bi 16 .eql (.t 15) (.i 0)), .pk 17 (.t 12) (.t 16) (.b false), .mv 2 (.t 17)]) .rt)
noncomputable abbrev T_impl_isZeroType (nf : Nat) : XT := []
noncomputable def m_impl_isZeroType (nf : Nat) (t : Ty) : Option (Bool) := runF (T_impl_isZeroType nf) nf [.v (kR 0)] [.t 2 (.v .bool)] ir_impl_isZeroType (t, ())
theorem m_impl_isZeroType_eq (nf : Nat) (t : Ty) : m_impl_isZeroType nf t = (
  br ((t.kind == (0 : Int)) == true) (
    br (((List.length t.labels : Int) == (0 : Int)) == true) (
      some ((List.length t.args : Int) == (0 : Int))) (
      some false)) (
    some false)) := by kernel_rfl
noncomputable def e_impl_isZeroType (nf : Nat) : XE := eF 135 [.v (kR 0)] [.v .bool] (fun t => m_impl_isZeroType nf t.1)
theorem o_impl_isZeroType (nf : Nat) : conOK Tryz.prog 135 (e_impl_isZeroType nf).con := by
  have ih : XT.ok Tryz.prog (T_impl_isZeroType nf) := by exact trivial
  refine eF_ok fun t x h => ?_
  obtain ⟨t, _⟩ := t
  exact runF_ok (N := 18) ih Tryz.func135 (by kernel_rfl) rfl h
def c39_impl_nodeForm : C := .sq (.sq (.rg [.mv 124 (.t 5)]) (.cd (.t 124) (.sq (.rg [.mv 125 (.t 0), .nck 126 (.t 125), .fa 127 (.t 126) 2 3 3, .ld 128 (.t 127) (kR 0), .cv (some 129) 85 [((.t 128), .v (kR 0))], .mv 2 (.t 129)]) .rt) .skip)) (.sq (.rg [.mv 130 (.t 0), .nck 131 (.t 130), .fa 132 (.t 131) 2 3 3, .ld 133 (.t 132) (kR 0), .cv (some 134) 135 [((.t 133), .v (kR 0))], .mv 2 (.t 134)]) .rt)
def c34_impl_nodeForm : C := .cd (.t 98) (.sq (.rg [.mv 2 (.b false)]) .rt) .skip
def w34_impl_nodeForm : C := .kp [0, 5, 98] [] c34_impl_nodeForm
def c31_impl_nodeForm : C := .cd (.t 98) .skip (.rg [.mv 115 (.t 4), .un 116 .not (.t 115), .mv 117 (.t 116), .g 117 true (.mv 118 (.t 0)), .g 117 true (.nck 119 (.t 118)), .g 117 true (.fa 120 (.t 119) 2 1 1), .g 117 true (.ld 121 (.t 120) kS), .g 117 true (.bi 122 .neq (.t 121) (.s [])), .pk 123 (.t 117) (.t 122) (.b false), .mv 98 (.t 123)])
def w31_impl_nodeForm : C := .kp [0, 4, 5, 98] [] c31_impl_nodeForm
def c24_impl_nodeForm : C := .cd (.t 40) (.sq (.rg [.mv 2 (.b false)]) .rt) (.sq (.sq (.rg [.mv 99 (.t 4), .mv 100 (.t 99), .g 100 true (.mv 101 (.t 0)), .g 100 true (.nck 102 (.t 101)), .g 100 true (.fa 103 (.t 102) 2 0 0), .g 100 true (.ld 104 (.t 103) kI), .g 100 true (.bi 105 .neq (.t 104) (.i 4)), .pk 106 (.t 100) (.t 105) (.b false), .mv 107 (.t 106), .g 107 true (.mv 108 (.t 0)), .g 107 true (.nck 109 (.t 108)), .g 107 true (.fa 110 (.t 109) 2 1 1), .g 107 true (.ld 111 (.t 110) kS), .g 107 true (.cv (some 112) 78 [((.t 111), .v kS)]), .g 107 true (.un 113 .not (.t 112)), .pk 114 (.t 107) (.t 113) (.b false), .mv 98 (.t 114)]) w31_impl_nodeForm) w34_impl_nodeForm)
def w24_impl_nodeForm : C := .kp [0, 4, 5, 40] [] c24_impl_nodeForm
def c21_impl_nodeForm : C := .cd (.t 40) .skip (.rg [.mv 79 (.t 0), .nck 80 (.t 79), .fa 81 (.t 80) 2 0 0, .ld 82 (.t 81) kI, .bi 83 .neq (.t 82) (.i 2), .mv 84 (.t 83), .g 84 true (.mv 85 (.t 0)), .g 84 true (.nck 86 (.t 85)), .g 84 true (.fa 87 (.t 86) 2 0 0), .g 84 true (.ld 88 (.t 87) kI), .g 84 true (.bi 89 .neq (.t 88) (.i 3)), .pk 90 (.t 84) (.t 89) (.b false), .mv 91 (.t 90), .g 91 true (.mv 92 (.t 0)), .g 91 true (.nck 93 (.t 92)), .g 91 true (.fa 94 (.t 93) 2 2 2), .g 91 true (.ld 95 (.t 94) kI), .g 91 true (.bi 96 .neq (.t 95) (.i 0)), .pk 97 (.t 91) (.t 96) (.b false), .mv 40 (.t 97)])
def w21_impl_nodeForm : C := .kp [0, 4, 5, 40] [] c21_impl_nodeForm
def c17_impl_nodeForm : C := .cd (.t 40) .skip (.sq (.rg [.mv 60 (.t 0), .nck 61 (.t 60), .fa 62 (.t 61) 2 0 0, .ld 63 (.t 62) kI, .bi 64 .eql (.t 63) (.i 3), .mv 65 (.t 64), .g 65 true (.mv 66 (.t 0)), .g 65 true (.nck 67 (.t 66)), .g 65 true (.fa 68 (.t 67) 2 2 2), .g 65 true (.ld 69 (.t 68) kI), .g 65 true (.bi 70 .neq (.t 69) (.i 0)), .pk 71 (.t 65) (.t 70) (.b false), .mv 72 (.t 71), .g 72 true (.mv 73 (.t 0)), .g 72 true (.nck 74 (.t 73)), .g 72 true (.fa 75 (.t 74) 2 2 2), .g 72 true (.ld 76 (.t 75) kI), .g 72 true (.bi 77 .neq (.t 76) (.i 1)), .pk 78 (.t 72) (.t 77) (.b false), .mv 40 (.t 78)]) w21_impl_nodeForm)
def w17_impl_nodeForm : C := .kp [0, 4, 5, 40] [] c17_impl_nodeForm
def c12_impl_nodeForm : C := .sq (.bk 0 (.sq (.sq (.rg [.mv 41 (.t 0), .nck 42 (.t 41), .fa 43 (.t 42) 2 0 0, .ld 44 (.t 43) kI, .bi 45 .eql (.t 44) (.i 2), .mv 46 (.t 45), .g 46 true (.mv 47 (.t 0)), .g 46 true (.nck 48 (.t 47)), .g 46 true (.fa 49 (.t 48) 2 2 2), .g 46 true (.ld 50 (.t 49) kI), .g 46 true (.bi 51 .lss (.t 50) (.i 0)), .g 46 true (.mv 52 (.t 51)), .g 52 false (.mv 53 (.t 0)), .g 52 false (.nck 54 (.t 53)), .g 52 false (.fa 55 (.t 54) 2 2 2), .g 52 false (.ld 56 (.t 55) kI), .g 52 false (.bi 57 .gtr (.t 56) (.i 999)), .g 46 true (.pk 58 (.t 52) (.b true) (.t 57)), .pk 59 (.t 46) (.t 58) (.b false), .mv 40 (.t 59)]) w17_impl_nodeForm) w24_impl_nodeForm)) c39_impl_nodeForm
def c7_impl_nodeForm : C := .cd (.t 39) (.sq (.rg [.mv 2 (.b false)]) .rt) .skip
def w7_impl_nodeForm : C := .kp [0, 4, 5, 39] [] c7_impl_nodeForm
def ir_impl_nodeForm : C := .sq (.rg [.mv 2 (.b false)]) (.sq (.rg [.mv 8 (.t 0), .ca (some 9) 134 [((.t 8), .v (.ptr (kR 2)))], .mv 7 (.t 9), .xt 10 (.t 7) 0, .xt 11 (.t 7) 1, .xt 12 (.t 7) 2, .xt 13 (.t 7) 3, .mv 3 (.t 10), .mv 4 (.t 11), .mv 5 (.t 12), .mv 6 (.t 13)]) (.sq (.sq (.rg [.mv 14 (.t 6), .un 15 .not (.t 14), .mv 16 (.t 15), .g 16 false (.mv 17 (.t 0)), .g 16 false (.nck 18 (.t 17)), .g 16 false (.fa 19 (.t 18) 2 5 7), .g 16 false (.ld 20 (.t 19) (kL (kR 2))), .g 16 false (.ln 21 false (.t 20)), .g 16 false (.mv 22 (.t 3)), .g 16 false (.bi 23 .neq (.t 21) (.t 22)), .pk 24 (.t 16) (.b true) (.t 23), .mv 25 (.t 24), .g 25 false (.mv 26 (.t 0)), .g 25 false (.nck 27 (.t 26)), .g 25 false (.fa 28 (.t 27) 2 0 0), .g 25 false (.ld 29 (.t 28) kI), .g 25 false (.bi 30 .neq (.t 29) (.i 5)), .g 25 false (.mv 31 (.t 30)), .g 31 true (.mv 32 (.t 0)), .g 31 true (.nck 33 (.t 32)), .g 31 true (.fa 34 (.t 33) 2 4 6), .g 31 true (.ld 35 (.t 34) (kL kS)), .g 31 true (.ln 36 false (.t 35)), .g 31 true (.bi 37 .gtr (.t 36) (.i 0)), .g 25 false (.pk 38 (.t 31) (.t 37) (.b false)), .pk 39 (.t 25) (.b true) (.t 38)]) w7_impl_nodeForm) c12_impl_nodeForm))
noncomputable abbrev T_impl_nodeForm (nf : Nat) : XT := [e_impl_shape nf, e_impl_IsName nf, e_impl_IsValidType nf, e_impl_isZeroType nf]
noncomputable def m_impl_nodeForm (nf : Nat) (e : Tm) : Option (Bool) := runF (T_impl_nodeForm nf) nf [.p (kR 2)] [.t 2 (.v .bool)] ir_impl_nodeForm (e, ())
noncomputable def X_impl_nodeForm {R : Type} (nf : Nat) : C → Env → (Xt → Env → Option R) → Option R := xc (R := R) (T_impl_nodeForm nf).S nf
noncomputable def j7_impl_nodeForm (nf : Nat) (e : Tm) (r9 : Int × Bool × Bool × Bool) (x39_7 : Bool) : Option (Bool) := X_impl_nodeForm nf c7_impl_nodeForm ⟨[(0, .v (.ptr (kR 2)) (some e)), (4, .v .bool r9.2.1), (5, .v .bool r9.2.2.1), (39, .v .bool x39_7)], []⟩ (qS (X_impl_nodeForm nf c12_impl_nodeForm) (KF [.t 2 (.v .bool)]))
noncomputable def j21_impl_nodeForm (nf : Nat) (e : Tm) (r9 : Int × Bool × Bool × Bool) (x40_21 : Bool) : Option (Bool) := X_impl_nodeForm nf c21_impl_nodeForm ⟨[(0, .v (.ptr (kR 2)) (some e)), (4, .v .bool r9.2.1), (5, .v .bool r9.2.2.1), (40, .v .bool x40_21)], []⟩ (qS (X_impl_nodeForm nf w24_impl_nodeForm) (qB 0 (qS (X_impl_nodeForm nf c39_impl_nodeForm) (KF [.t 2 (.v .bool)]))))
noncomputable def j17_impl_nodeForm (nf : Nat) (e : Tm) (r9 : Int × Bool × Bool × Bool) (x40_17 : Bool) : Option (Bool) := X_impl_nodeForm nf c17_impl_nodeForm ⟨[(0, .v (.ptr (kR 2)) (some e)), (4, .v .bool r9.2.1), (5, .v .bool r9.2.2.1), (40, .v .bool x40_17)], []⟩ (qS (X_impl_nodeForm nf w24_impl_nodeForm) (qB 0 (qS (X_impl_nodeForm nf c39_impl_nodeForm) (KF [.t 2 (.v .bool)]))))
noncomputable def j31_impl_nodeForm (nf : Nat) (e : Tm) (r9 : Int × Bool × Bool × Bool) (x98_31 : Bool) : Option (Bool) := X_impl_nodeForm nf c31_impl_nodeForm ⟨[(0, .v (.ptr (kR 2)) (some e)), (4, .v .bool r9.2.1), (5, .v .bool r9.2.2.1), (98, .v .bool x98_31)], []⟩ (qS (X_impl_nodeForm nf w34_impl_nodeForm) (qB 0 (qS (X_impl_nodeForm nf c39_impl_nodeForm) (KF [.t 2 (.v .bool)]))))
noncomputable def j34_impl_nodeForm (nf : Nat) (e : Tm) (r9 : Int × Bool × Bool × Bool) (x98_34 : Bool) : Option (Bool) := X_impl_nodeForm nf c34_impl_nodeForm ⟨[(0, .v (.ptr (kR 2)) (some e)), (5, .v .bool r9.2.2.1), (98, .v .bool x98_34)], []⟩ (qB 0 (qS (X_impl_nodeForm nf c39_impl_nodeForm) (KF [.t 2 (.v .bool)])))
noncomputable def j24_impl_nodeForm (nf : Nat) (e : Tm) (r9 : Int × Bool × Bool × Bool) (x40_24 : Bool) : Option (Bool) := X_impl_nodeForm nf c24_impl_nodeForm ⟨[(0, .v (.ptr (kR 2)) (some e)), (4, .v .bool r9.2.1), (5, .v .bool r9.2.2.1), (40, .v .bool x40_24)], []⟩ (qB 0 (qS (X_impl_nodeForm nf c39_impl_nodeForm) (KF [.t 2 (.v .bool)])))
theorem j7_impl_nodeForm_eq (nf : Nat) (e : Tm) (r9 : Int × Bool × Bool × Bool) (x39_7 : Bool) : j7_impl_nodeForm nf e r9 x39_7 = (
  br x39_7 (
    some false) (
    br ((e.kind == (2 : Int)) == true) (
      br ((decide (e.n < (0 : Int))) == false) (
        mark (j17_impl_nodeForm nf e r9 (decide ((999 : Int) < e.n)))) (
        mark (j17_impl_nodeForm nf e r9 true))) (
      mark (j17_impl_nodeForm nf e r9 false)))) := by
  unfold j7_impl_nodeForm j17_impl_nodeForm c7_impl_nodeForm c12_impl_nodeForm w17_impl_nodeForm w24_impl_nodeForm c39_impl_nodeForm
  generalize c17_impl_nodeForm = x0
  generalize c24_impl_nodeForm = x1
  revert x0 x1
  refine id ?_
  intro x0 x1
  kernel_rfl
theorem j21_impl_nodeForm_eq (nf : Nat) (e : Tm) (r9 : Int × Bool × Bool × Bool) (x40_21 : Bool) : j21_impl_nodeForm nf e r9 x40_21 = (
  br x40_21 (
    mark (j24_impl_nodeForm nf e r9 x40_21)) (
    br ((!(e.kind == (2 : Int))) == true) (
      br ((!(e.kind == (3 : Int))) == true) (
        mark (j24_impl_nodeForm nf e r9 (!(e.n == (0 : Int))))) (
        mark (j24_impl_nodeForm nf e r9 false))) (
      mark (j24_impl_nodeForm nf e r9 false)))) := by
  unfold j21_impl_nodeForm j24_impl_nodeForm c21_impl_nodeForm c39_impl_nodeForm w24_impl_nodeForm
  generalize c24_impl_nodeForm = x0
  revert x0
  refine id ?_
  intro x0
  kernel_rfl
theorem j17_impl_nodeForm_eq (nf : Nat) (e : Tm) (r9 : Int × Bool × Bool × Bool) (x40_17 : Bool) : j17_impl_nodeForm nf e r9 x40_17 = (
  br x40_17 (
    mark (j24_impl_nodeForm nf e r9 x40_17)) (
    br ((e.kind == (3 : Int)) == true) (
      br ((!(e.n == (0 : Int))) == true) (
        mark (j21_impl_nodeForm nf e r9 (!(e.n == (1 : Int))))) (
        mark (j21_impl_nodeForm nf e r9 false))) (
      mark (j21_impl_nodeForm nf e r9 false)))) := by
  unfold j17_impl_nodeForm j24_impl_nodeForm j21_impl_nodeForm c17_impl_nodeForm c39_impl_nodeForm w24_impl_nodeForm w21_impl_nodeForm
  generalize c24_impl_nodeForm = x0
  generalize c21_impl_nodeForm = x1
  revert x0 x1
  refine id ?_
  intro x0 x1
  kernel_rfl
theorem j31_impl_nodeForm_eq (nf : Nat) (e : Tm) (r9 : Int × Bool × Bool × Bool) (x98_31 : Bool) : j31_impl_nodeForm nf e r9 x98_31 = (
  br x98_31 (
    mark (j34_impl_nodeForm nf e r9 x98_31)) (
    br ((!r9.2.1) == true) (
      mark (j34_impl_nodeForm nf e r9 (!(e.name == ([] : Str))))) (
      mark (j34_impl_nodeForm nf e r9 false)))) := by
  unfold j31_impl_nodeForm j34_impl_nodeForm c31_impl_nodeForm c39_impl_nodeForm w34_impl_nodeForm
  generalize c34_impl_nodeForm = x0
  revert x0
  refine id ?_
  intro x0
  kernel_rfl
theorem j34_impl_nodeForm_eq (nf : Nat) (e : Tm) (r9 : Int × Bool × Bool × Bool) (x98_34 : Bool) : j34_impl_nodeForm nf e r9 x98_34 = (
  br x98_34 (
    some false) (
    br r9.2.2.1 (
      cb (m_impl_IsValidType nf e.type) fun r129 =>
        some r129) (
      cb (m_impl_isZeroType nf e.type) fun r134 =>
        some r134))) := by kernel_rfl
theorem j24_impl_nodeForm_eq (nf : Nat) (e : Tm) (r9 : Int × Bool × Bool × Bool) (x40_24 : Bool) : j24_impl_nodeForm nf e r9 x40_24 = (
  br x40_24 (
    some false) (
    br (r9.2.1 == true) (
      br ((!(e.kind == (4 : Int))) == true) (
        cb (m_impl_IsName nf e.name) fun r112 =>
          mark (j31_impl_nodeForm nf e r9 (!r112))) (
        mark (j31_impl_nodeForm nf e r9 false))) (
      mark (j31_impl_nodeForm nf e r9 false)))) := by
  unfold j24_impl_nodeForm j31_impl_nodeForm c24_impl_nodeForm c39_impl_nodeForm w31_impl_nodeForm w34_impl_nodeForm
  generalize c31_impl_nodeForm = x0
  generalize c34_impl_nodeForm = x1
  revert x0 x1
  refine id ?_
  intro x0 x1
  kernel_rfl
theorem m_impl_nodeForm_eq (nf : Nat) (e : Tm) : m_impl_nodeForm nf e = (
  cb (m_impl_shape nf e) fun r9 =>
    br ((!r9.2.2.2) == false) (
      br ((!((List.length e.args : Int) == r9.1)) == false) (
        br ((!(e.kind == (5 : Int))) == true) (
          mark (j7_impl_nodeForm nf e r9 (decide ((0 : Int) < (List.length e.labels : Int))))) (
          mark (j7_impl_nodeForm nf e r9 false))) (
        mark (j7_impl_nodeForm nf e r9 true))) (
      mark (j7_impl_nodeForm nf e r9 true))) := by
  unfold m_impl_nodeForm j7_impl_nodeForm ir_impl_nodeForm w7_impl_nodeForm c12_impl_nodeForm w17_impl_nodeForm w24_impl_nodeForm c39_impl_nodeForm
  generalize c7_impl_nodeForm = x0
  generalize c17_impl_nodeForm = x1
  generalize c24_impl_nodeForm = x2
  revert x0 x1 x2
  refine id ?_
  intro x0 x1 x2
  kernel_rfl
noncomputable def e_impl_nodeForm (nf : Nat) : XE := eF 107 [.p (kR 2)] [.v .bool] (fun t => m_impl_nodeForm nf t.1)
theorem o_impl_nodeForm (nf : Nat) : conOK Tryz.prog 107 (e_impl_nodeForm nf).con := by
  have ih : XT.ok Tryz.prog (T_impl_nodeForm nf) := by exact ⟨o_impl_shape nf, o_impl_IsName nf, o_impl_IsValidType nf, o_impl_isZeroType nf, trivial⟩
  refine eF_ok fun t x h => ?_
  obtain ⟨e, _⟩ := t
  exact runF_ok (N := 135) ih Tryz.func107 (by kernel_rfl) rfl h
def c33_impl_termForm : C := .sq (.rg [.mv 2 (.b true)]) .rt
def c15_impl_termForm : C := .sq (.rg [.bi 13 .lss (.t 12) (.t 11)]) (.sq (.cd (.t 13) .skip (.ex 0)) (.sq (.bk 1 (.sq (.rg [.mv 14 (.t 12), .mv 3 (.t 14)]) (.sq (.rg [.mv 15 (.t 0), .nck 16 (.t 15), .fa 17 (.t 16) 2 5 7, .ld 18 (.t 17) (kL (kR 2)), .mv 19 (.t 3), .ia 20 (.t 18) (.t 19) (kR 2), .cv (some 21) 83 [((.t 20), .v (.ptr (kR 2)))], .un 22 .not (.t 21)]) (.cd (.t 22) (.sq (.rg [.mv 2 (.b false)]) .rt) .skip)))) (.rg [.bi 23 .add (.t 12) (.i 1), .mv 12 (.t 23)])))
def ir_impl_termForm : C := .sq (.rg [.mv 2 (.b false)]) (.sq (.sq (.rg [.mv 4 (.t 0), .cv (some 5) 107 [((.t 4), .v (.ptr (kR 2)))], .un 6 .not (.t 5)]) (.cd (.t 6) (.sq (.rg [.mv 2 (.b false)]) .rt) .skip)) (.sq (.sq (.rg [.mv 7 (.t 0), .nck 8 (.t 7), .fa 9 (.t 8) 2 5 7, .ld 10 (.t 9) (kL (kR 2)), .ln 11 false (.t 10), .mv 12 (.i 0)]) (.bk 0 (.lk [0, 11, 12] [] c15_impl_termForm))) c33_impl_termForm))
noncomputable def B_impl_termForm (nf : Nat) : XT := [e_impl_nodeForm nf]
noncomputable def G_impl_termForm (nf : Nat) : Nat → XT
  | 0 => []
  | kf + 1 => [eF 83 [.p (kR 2)] [.v .bool] (fun t => (fun (e : Tm) => runF (G_impl_termForm nf kf ++ B_impl_termForm nf) nf [.p (kR 2)] [.t 2 (.v .bool)] ir_impl_termForm (e, ())) t.1)]
noncomputable abbrev T_impl_termForm (nf kf : Nat) : XT := G_impl_termForm nf kf ++ B_impl_termForm nf
noncomputable def m_impl_termForm (nf kf : Nat) (e : Tm) : Option (Bool) := runF (T_impl_termForm nf kf) nf [.p (kR 2)] [.t 2 (.v .bool)] ir_impl_termForm (e, ())
noncomputable def X_impl_termForm {R : Type} (nf kf : Nat) : C → Env → (Xt → Env → Option R) → Option R := xc (R := R) (T_impl_termForm nf kf).S nf
noncomputable def l14_impl_termForm (nf kf : Nat) (m14 : Nat) (e : Tm) (x12_14 : Int) : Option (Bool) := xit [0, 11, 12] [] (X_impl_termForm nf kf c15_impl_termForm) (qB 0 (qS (X_impl_termForm nf kf c33_impl_termForm) (KF [.t 2 (.v .bool)]))) m14 ⟨[(0, .v (.ptr (kR 2)) (some e)), (11, .v kI (List.length e.args : Int)), (12, .v kI x12_14)], []⟩
theorem l14_impl_termForm_eq (nf kf : Nat) (m14 : Nat) (e : Tm) (x12_14 : Int) : l14_impl_termForm nf (kf + 1) (m14 + 1) e x12_14 = (
  br (decide (x12_14 < (List.length e.args : Int))) (
    gg (0 ≤ x12_14 ∧ x12_14 < (List.length e.args : Int)) <|
      cb (m_impl_termForm nf kf (gt e.args x12_14 Tm.zero)) fun r21 =>
        br (!r21) (
          some false) (
          mark (l14_impl_termForm nf (kf + 1) m14 e (w64 (x12_14 + (1 : Int)))))) (
    some true)) := by kernel_rfl
theorem m_impl_termForm_eq (nf kf : Nat) (e : Tm) : m_impl_termForm nf (kf + 1) e = (
  cb (m_impl_nodeForm nf e) fun r5 =>
    br (!r5) (
      some false) (
      mark (l14_impl_termForm nf (kf + 1) nf e (0 : Int)))) := by kernel_rfl
noncomputable def e_impl_termForm (nf : Nat) : XE := eF 83 [.p (kR 2)] [.v .bool] (fun t => m_impl_termForm nf nf t.1)
theorem gok_impl_termForm (nf : Nat) : ∀ kf : Nat, XT.ok Tryz.prog (G_impl_termForm nf kf ++ B_impl_termForm nf)
  | 0 => by exact ⟨o_impl_nodeForm nf, trivial⟩
  | kf + 1 => by
    have ih := gok_impl_termForm nf kf
    refine ⟨?_, (by exact ⟨o_impl_nodeForm nf, trivial⟩)⟩
    · refine eF_ok fun t x h => ?_
      obtain ⟨e, _⟩ := t
      exact runF_ok (N := 24) ih Tryz.func83 (by kernel_rfl) rfl h
theorem o_impl_termForm (nf : Nat) : conOK Tryz.prog 83 (e_impl_termForm nf).con := by
  have ih := gok_impl_termForm nf nf
  refine eF_ok fun t x h => ?_
  obtain ⟨e, _⟩ := t
  exact runF_ok (N := 24) ih Tryz.func83 (by kernel_rfl) rfl h
def ir_impl_IsValidTerm : C := .sq (.rg [.bx 1 (.t 0) (kR 2), .mv 2 (.b false)]) (.sq (.rg [.cv (some 3) 81 [((.t 1), .v (.ptr (kR 2)))], .bi 4 .leq (.t 3) (.i 60), .mv 5 (.t 4), .g 5 true (.ld 6 (.t 1) (kR 2)), .g 5 true (.cv (some 7) 82 [((.t 6), .v (kR 2))]), .g 5 true (.bi 8 .leq (.t 7) (.i 16)), .pk 9 (.t 5) (.t 8) (.b false), .mv 10 (.t 9), .g 10 true (.cv (some 11) 83 [((.t 1), .v (.ptr (kR 2)))]), .pk 12 (.t 10) (.t 11) (.b false), .mv 2 (.t 12)]) .rt)
noncomputable abbrev T_impl_IsValidTerm (nf : Nat) : XT := [e_impl_sizeOf nf, e_impl_DepthOfTerm nf, e_impl_termForm nf]
noncomputable def m_impl_IsValidTerm (nf : Nat) (e : Tm) : Option (Bool) := runF (T_impl_IsValidTerm nf) nf [.v (kR 2)] [.t 2 (.v .bool)] ir_impl_IsValidTerm (e, ())
theorem m_impl_IsValidTerm_eq (nf : Nat) (e : Tm) : m_impl_IsValidTerm nf e = (
  cb (m_impl_sizeOf nf nf (Tm.h e)) fun r3 =>
    br ((decide (r3 ≤ (60 : Int))) == true) (
      cb (m_impl_DepthOfTerm nf nf (Tm.h e)) fun r7 =>
        br ((decide (r7 ≤ (16 : Int))) == true) (
          cb (m_impl_termForm nf nf (Tm.h e)) fun r11 =>
            some r11) (
          some false)) (
      some false)) := by kernel_rfl
noncomputable def e_impl_IsValidTerm (nf : Nat) : XE := eF 50 [.v (kR 2)] [.v .bool] (fun t => m_impl_IsValidTerm nf t.1)
theorem o_impl_IsValidTerm (nf : Nat) : conOK Tryz.prog 50 (e_impl_IsValidTerm nf).con := by
  have ih : XT.ok Tryz.prog (T_impl_IsValidTerm nf) := by exact ⟨o_impl_sizeOf nf, o_impl_DepthOfTerm nf, o_impl_termForm nf, trivial⟩
  refine eF_ok fun t x h => ?_
  obtain ⟨e, _⟩ := t
  exact runF_ok (N := 13) ih Tryz.func50 (by kernel_rfl) rfl h
def ir_impl_intType : C := .sq (.rg [.al 0 (kR 0)]) (.sq (.rg [.bd 1 0 [(0, 1, (.i 1))], .st (.t 0) (.t 1) (kR 0)]) .rt)
noncomputable abbrev T_impl_intType (nf : Nat) : XT := []
noncomputable def m_impl_intType (nf : Nat) : Option (Ty) := runF (T_impl_intType nf) nf [] [.c 0 (.v (kR 0))] ir_impl_intType (())
theorem m_impl_intType_eq (nf : Nat) : m_impl_intType nf = (
  some (Ty.mk (1 : Int) ([] : List Str) ([] : List Ty))) := by kernel_rfl
noncomputable def e_impl_intType (nf : Nat) : XE := eF 109 [] [.v (kR 0)] (fun t => m_impl_intType nf )
theorem o_impl_intType (nf : Nat) : conOK Tryz.prog 109 (e_impl_intType nf).con := by
  have ih : XT.ok Tryz.prog (T_impl_intType nf) := by exact trivial
  refine eF_ok fun t x h => ?_
  exact runF_ok (N := 2) ih Tryz.func109 (by kernel_rfl) rfl h
def ir_impl_boolType : C := .sq (.rg [.al 0 (kR 0)]) (.sq (.rg [.bd 1 0 [(0, 1, (.i 2))], .st (.t 0) (.t 1) (kR 0)]) .rt)
noncomputable abbrev T_impl_boolType (nf : Nat) : XT := []
noncomputable def m_impl_boolType (nf : Nat) : Option (Ty) := runF (T_impl_boolType nf) nf [] [.c 0 (.v (kR 0))] ir_impl_boolType (())
theorem m_impl_boolType_eq (nf : Nat) : m_impl_boolType nf = (
  some (Ty.mk (2 : Int) ([] : List Str) ([] : List Ty))) := by kernel_rfl
noncomputable def e_impl_boolType (nf : Nat) : XE := eF 110 [] [.v (kR 0)] (fun t => m_impl_boolType nf )
theorem o_impl_boolType (nf : Nat) : conOK Tryz.prog 110 (e_impl_boolType nf).con := by
  have ih : XT.ok Tryz.prog (T_impl_boolType nf) := by exact trivial
  refine eF_ok fun t x h => ?_
  exact runF_ok (N := 2) ih Tryz.func110 (by kernel_rfl) rfl h
def ir_impl_bagType : C := .sq (.rg [.bx 1 (.t 0) (kR 0), .al 2 (kR 0)]) (.sq (.rg [.ld 3 (.t 1) (kR 0), .bs 4 false (kR 0) [(.t 3)], .bd 5 0 [(0, 1, (.i 4)), (2, 1, (.t 4))], .st (.t 2) (.t 5) (kR 0)]) .rt)
noncomputable abbrev T_impl_bagType (nf : Nat) : XT := []
noncomputable def m_impl_bagType (nf : Nat) (t : Ty) : Option (Ty) := runF (T_impl_bagType nf) nf [.v (kR 0)] [.c 2 (.v (kR 0))] ir_impl_bagType (t, ())
theorem m_impl_bagType_eq (nf : Nat) (t : Ty) : m_impl_bagType nf t = (
  some (Ty.mk (4 : Int) ([] : List Str) ([(Ty.h t)] : List Ty))) := by kernel_rfl
noncomputable def e_impl_bagType (nf : Nat) : XE := eF 112 [.v (kR 0)] [.v (kR 0)] (fun t => m_impl_bagType nf t.1)
theorem o_impl_bagType (nf : Nat) : conOK Tryz.prog 112 (e_impl_bagType nf).con := by
  have ih : XT.ok Tryz.prog (T_impl_bagType nf) := by exact trivial
  refine eF_ok fun t x h => ?_
  obtain ⟨t, _⟩ := t
  exact runF_ok (N := 6) ih Tryz.func112 (by kernel_rfl) rfl h
def c25_impl_RowType : C := .sq (.rg [.bd 23 0 [], .st (.t 4) (.t 23) (kR 0), .mv 5 (.b false)]) .rt
def c7_impl_RowType : C := .sq (.rg [.bi 12 .lss (.t 11) (.t 10)]) (.sq (.cd (.t 12) .skip (.ex 0)) (.sq (.bk 1 (.sq (.rg [.ia 13 (.t 9) (.t 11) (kR 4), .ld 14 (.t 13) (kR 4), .al 7 (kR 4), .st (.t 7) (.t 14) (kR 4)]) (.sq (.rg [.fa 15 (.t 7) 4 0 0, .ld 16 (.t 15) kS, .mv 17 (.t 1), .bi 18 .eql (.t 16) (.t 17)]) (.cd (.t 18) (.sq (.rg [.fa 19 (.t 7) 4 1 1, .ld 20 (.t 19) (kR 0), .cv (some 21) 52 [((.t 20), .v (kR 0))], .st (.t 4) (.t 21) (kR 0), .mv 5 (.b true)]) .rt) .skip)))) (.rg [.bi 22 .add (.t 11) (.i 1), .mv 11 (.t 22)])))
def ir_impl_RowType : C := .sq (.rg [.bx 2 (.t 0) (kR 5), .al 4 (kR 0), .mv 5 (.b false)]) (.sq (.sq (.rg [.fa 8 (.t 2) 5 0 0, .ld 9 (.t 8) (kL (kR 4)), .ln 10 false (.t 9), .mv 11 (.i 0)]) (.bk 0 (.lk [1, 4, 9, 10, 11] [[4]] c7_impl_RowType))) c25_impl_RowType)
noncomputable abbrev T_impl_RowType (nf : Nat) : XT := [e_impl_cloneType nf]
noncomputable def m_impl_RowType (nf : Nat) (s : Schema) (name : Str) : Option (Ty × Bool) := runF (T_impl_RowType nf) nf [.v (kR 5), .v kS] [.c 4 (.v (kR 0)), .t 5 (.v .bool)] ir_impl_RowType (s, name, ())
noncomputable def X_impl_RowType {R : Type} (nf : Nat) : C → Env → (Xt → Env → Option R) → Option R := xc (R := R) (T_impl_RowType nf).S nf
noncomputable def l6_impl_RowType (nf : Nat) (m6 : Nat) (name : Str) (s : Schema) (x11_6 : Int) : Option (Ty × Bool) := xit [1, 4, 9, 10, 11] [[4]] (X_impl_RowType nf c7_impl_RowType) (qB 0 (qS (X_impl_RowType nf c25_impl_RowType) (KF [.c 4 (.v (kR 0)), .t 5 (.v .bool)]))) m6 ⟨[(1, .v kS name), (4, .pt [4] 0), (9, .v (kL (kR 4)) s.tables), (10, .v kI (List.length s.tables : Int)), (11, .v kI x11_6)], [([4], .box [.v kI (0 : Int), .nl kS, .nl (kR 0)])]⟩
theorem l6_impl_RowType_eq (nf : Nat) (m6 : Nat) (name : Str) (s : Schema) (x11_6 : Int) : l6_impl_RowType nf (m6 + 1) name s x11_6 = (
  br (decide (x11_6 < (List.length s.tables : Int))) (
    gg (0 ≤ x11_6 ∧ x11_6 < (List.length s.tables : Int)) <|
      br (((gt s.tables x11_6 TDecl.zero).name) == name) (
        cb (m_impl_cloneType nf nf (Ty.h ((gt s.tables x11_6 TDecl.zero).row))) fun r21 =>
          some ((Ty.h r21), true)) (
        mark (l6_impl_RowType nf m6 name s (w64 (x11_6 + (1 : Int)))))) (
    some ((Ty.mk (0 : Int) ([] : List Str) ([] : List Ty)), false))) := by kernel_rfl
theorem m_impl_RowType_eq (nf : Nat) (s : Schema) (name : Str) : m_impl_RowType nf s name = (
  mark (l6_impl_RowType nf nf name s (0 : Int))) := by kernel_rfl
noncomputable def e_impl_RowType (nf : Nat) : XE := eF 111 [.v (kR 5), .v kS] [.v (kR 0), .v .bool] (fun t => m_impl_RowType nf t.1 t.2.1)
theorem o_impl_RowType (nf : Nat) : conOK Tryz.prog 111 (e_impl_RowType nf).con := by
  have ih : XT.ok Tryz.prog (T_impl_RowType nf) := by exact ⟨o_impl_cloneType nf, trivial⟩
  refine eF_ok fun t x h => ?_
  obtain ⟨s, name, _⟩ := t
  exact runF_ok (N := 24) ih Tryz.func111 (by kernel_rfl) rfl h
def ir_slices_Clip_impl_Typing_impl_Typing : C := .sq (.rg [.mv 2 (.nl (kR 8))]) (.sq (.rg [.mv 3 (.t 0), .mv 4 (.t 0), .ln 5 false (.t 4), .mv 6 (.t 0), .ln 7 false (.t 6), .sm 8 (.t 3) none (.t 5) (.t 7) (kR 8), .mv 2 (.t 8)]) .rt)
noncomputable abbrev T_slices_Clip_impl_Typing_impl_Typing (nf : Nat) : XT := []
noncomputable def m_slices_Clip_impl_Typing_impl_Typing (nf : Nat) (s : List Typing) : Option (List Typing) := runF (T_slices_Clip_impl_Typing_impl_Typing nf) nf [.v (kL (kR 8))] [.t 2 (.cl (kR 8))] ir_slices_Clip_impl_Typing_impl_Typing (s, ())
theorem m_slices_Clip_impl_Typing_impl_Typing_eq (nf : Nat) (s : List Typing) : m_slices_Clip_impl_Typing_impl_Typing nf s = (
  gg (0 ≤ (0 : Int) ∧ (0 : Int) ≤ (List.length s : Int) ∧ (List.length s : Int) ≤ (List.length s : Int) ∧ (List.length s : Int) = (List.length s : Int)) <|
    some (List.drop (Int.toNat (0 : Int)) (List.take (Int.toNat (List.length s : Int)) s))) := by kernel_rfl
noncomputable def e_slices_Clip_impl_Typing_impl_Typing (nf : Nat) : XE := eF 137 [.v (kL (kR 8))] [.cl (kR 8)] (fun t => m_slices_Clip_impl_Typing_impl_Typing nf t.1)
theorem o_slices_Clip_impl_Typing_impl_Typing (nf : Nat) : conOK Tryz.prog 137 (e_slices_Clip_impl_Typing_impl_Typing nf).con := by
  have ih : XT.ok Tryz.prog (T_slices_Clip_impl_Typing_impl_Typing nf) := by exact trivial
  refine eF_ok fun t x h => ?_
  obtain ⟨s, _⟩ := t
  exact runF_ok (N := 9) ih Tryz.func137 (by kernel_rfl) rfl h
def ir_impl_with : C := .sq (.rg [.bx 5 (.t 2) (kR 0), .mv 6 (.nl (kR 8))]) (.sq (.dr [8, 12] [.mv 7 (.t 0), .ca (some 8) 137 [((.t 7), .v (kL (kR 8)))], .mv 9 (.t 1), .ld 10 (.t 5) (kR 0), .bd 11 8 [(0, 1, (.t 9)), (1, 3, (.t 10))], .bs 12 false (kR 8) [(.t 11)]] [.af 13 (kR 8) (.t 8) (.t 12), .mv 6 (.t 13)]) .rt)
noncomputable abbrev T_impl_with (nf : Nat) : XT := [e_slices_Clip_impl_Typing_impl_Typing nf]
noncomputable def m_impl_with (nf : Nat) (ctx : List Typing) (name : Str) (t : Ty) : Option (List Typing) := runF (T_impl_with nf) nf [.v (kL (kR 8)), .v kS, .v (kR 0)] [.t 6 (.v (kL (kR 8)))] ir_impl_with (ctx, name, t, ())
theorem m_impl_with_eq (nf : Nat) (ctx : List Typing) (name : Str) (t : Ty) : m_impl_with nf ctx name t = (
  cb (m_slices_Clip_impl_Typing_impl_Typing nf ctx) fun r8 =>
    gg (List.length r8 + List.length ([(Typing.mk name (Ty.h t))] : List Typing) ≤ 33554432) <|
      some (r8 ++ ([(Typing.mk name (Ty.h t))] : List Typing))) := by kernel_rfl
noncomputable def e_impl_with (nf : Nat) : XE := eF 113 [.v (kL (kR 8)), .v kS, .v (kR 0)] [.v (kL (kR 8))] (fun t => m_impl_with nf t.1 t.2.1 t.2.2.1)
theorem o_impl_with (nf : Nat) : conOK Tryz.prog 113 (e_impl_with nf).con := by
  have ih : XT.ok Tryz.prog (T_impl_with nf) := by exact ⟨o_slices_Clip_impl_Typing_impl_Typing nf, trivial⟩
  refine eF_ok fun t x h => ?_
  obtain ⟨ctx, name, t, _⟩ := t
  exact runF_ok (N := 14) ih Tryz.func113 (by kernel_rfl) rfl h
def ir_impl_opType_1 : C := .sq (.rg [.bx 2 (.t 0) (kR 0), .mv 3 (.b false)]) (.sq (.rg [.fa 4 (.t 2) 0 0 0, .ld 5 (.t 4) kI, .ld 6 (.t 1) kI, .bi 7 .neq (.t 5) (.t 6), .mv 3 (.t 7)]) .rt)
noncomputable abbrev T_impl_opType_1 (nf : Nat) : XT := []
noncomputable def m_impl_opType_1 (nf : Nat) (t : Ty) (asked : Int) : Option (Bool) := runF (T_impl_opType_1 nf) nf [.v (kR 0), .p kI] [.t 3 (.v .bool)] ir_impl_opType_1 (t, asked, ())
theorem m_impl_opType_1_eq (nf : Nat) (t : Ty) (asked : Int) : m_impl_opType_1 nf t asked = (
  some (!(t.kind == asked))) := by kernel_rfl
noncomputable def e_impl_opType_1 (nf : Nat) : XE := eF 148 [.v (kR 0), .p kI] [.v .bool] (fun t => m_impl_opType_1 nf t.1 t.2.1)
theorem o_impl_opType_1 (nf : Nat) : conOK Tryz.prog 148 (e_impl_opType_1 nf).con := by
  have ih : XT.ok Tryz.prog (T_impl_opType_1 nf) := by exact trivial
  refine eF_ok fun t x h => ?_
  obtain ⟨t, asked, _⟩ := t
  exact runF_ok (N := 8) ih Tryz.func148 (by kernel_rfl) rfl h
def c25_IndexFunc_opType : C := .sq (.rg [.mv 4 (.i (-1))]) .rt
def c7_IndexFunc_opType : C := .sq (.rg [.bi 9 .lss (.t 8) (.t 7)]) (.sq (.cd (.t 9) .skip (.ex 0)) (.sq (.bk 1 (.sq (.rg [.mv 10 (.t 8), .mv 5 (.t 10)]) (.sq (.rg [.mv 11 (.t 1), .mv 12 (.t 0), .mv 13 (.t 5), .ia 14 (.t 12) (.t 13) (kR 0), .ld 15 (.t 14) (kR 0), .cf (some 16) (.t 11) [((.t 15), .v (kR 0))]]) (.cd (.t 16) (.sq (.rg [.mv 17 (.t 5), .mv 4 (.t 17)]) .rt) .skip)))) (.rg [.bi 18 .add (.t 8) (.i 1), .mv 8 (.t 18)])))
def ir_IndexFunc_opType : C := .sq (.rg [.mv 4 (.i 0)]) (.sq (.sq (.rg [.mv 6 (.t 0), .ln 7 false (.t 6), .mv 8 (.i 0)]) (.bk 0 (.lk [0, 1, 7, 8] [] c7_IndexFunc_opType))) c25_IndexFunc_opType)
noncomputable abbrev T_IndexFunc_opType (nf : Nat) : XT := [e_impl_opType_1 nf]
noncomputable def m_IndexFunc_opType (nf : Nat) (s : List Ty) (asked : Option Int) : Option (Int) := runF (T_IndexFunc_opType nf) nf [.v (kL (kR 0)), .fn 148 [(.ptr kI)]] [.t 4 (.v kI)] ir_IndexFunc_opType (s, (asked, ()), ())
noncomputable def X_IndexFunc_opType {R : Type} (nf : Nat) : C → Env → (Xt → Env → Option R) → Option R := xc (R := R) (T_IndexFunc_opType nf).S nf
noncomputable def l6_IndexFunc_opType (nf : Nat) (m6 : Nat) (s : List Ty) (asked : Option Int) (x8_6 : Int) : Option (Int) := xit [0, 1, 7, 8] [] (X_IndexFunc_opType nf c7_IndexFunc_opType) (qB 0 (qS (X_IndexFunc_opType nf c25_IndexFunc_opType) (KF [.t 4 (.v kI)]))) m6 ⟨[(0, .v (kL (kR 0)) s), (1, .fn 148 [.v (.ptr kI) asked]), (7, .v kI (List.length s : Int)), (8, .v kI x8_6)], []⟩
theorem l6_IndexFunc_opType_eq (nf : Nat) (m6 : Nat) (s : List Ty) (asked : Option Int) (x8_6 : Int) : l6_IndexFunc_opType nf (m6 + 1) s asked x8_6 = (
  br (decide (x8_6 < (List.length s : Int))) (
    gg (0 ≤ x8_6 ∧ x8_6 < (List.length s : Int)) <|
      Option.bind asked fun q0 =>
        cb (m_impl_opType_1 nf (gt s x8_6 Ty.zero) q0) fun r16 =>
          br r16 (
            some x8_6) (
            mark (l6_IndexFunc_opType nf m6 s asked (w64 (x8_6 + (1 : Int)))))) (
    some (-1 : Int))) := by cases asked <;> kernel_rfl
theorem m_IndexFunc_opType_eq (nf : Nat) (s : List Ty) (asked : Option Int) : m_IndexFunc_opType nf s asked = (
  mark (l6_IndexFunc_opType nf nf s asked (0 : Int))) := by kernel_rfl
noncomputable def e_IndexFunc_opType (nf : Nat) : XE := eF 132 [.v (kL (kR 0)), .fn 148 [(.ptr kI)]] [.v kI] (fun t => m_IndexFunc_opType nf t.1 t.2.1.1)
theorem o_IndexFunc_opType (nf : Nat) : conOK Tryz.prog 132 (e_IndexFunc_opType nf).con := by
  have ih : XT.ok Tryz.prog (T_IndexFunc_opType nf) := by exact ⟨o_impl_opType_1 nf, trivial⟩
  refine eF_ok fun t x h => ?_
  obtain ⟨s, ⟨asked, _⟩, _⟩ := t
  exact runF_ok (N := 19) ih Tryz.func132 (by kernel_rfl) rfl h
def ir_ContainsFunc_opType : C := .sq (.rg [.mv 4 (.b false)]) (.sq (.rg [.mv 5 (.t 0), .mv 6 (.t 1), .cv (some 7) 132 [((.t 5), .v (kL (kR 0))), ((.t 6), .fn)], .bi 8 .geq (.t 7) (.i 0), .mv 4 (.t 8)]) .rt)
noncomputable abbrev T_ContainsFunc_opType (nf : Nat) : XT := [e_IndexFunc_opType nf]
noncomputable def m_ContainsFunc_opType (nf : Nat) (s : List Ty) (asked : Option Int) : Option (Bool) := runF (T_ContainsFunc_opType nf) nf [.v (kL (kR 0)), .fn 148 [(.ptr kI)]] [.t 4 (.v .bool)] ir_ContainsFunc_opType (s, (asked, ()), ())
theorem m_ContainsFunc_opType_eq (nf : Nat) (s : List Ty) (asked : Option Int) : m_ContainsFunc_opType nf s asked = (
  cb (m_IndexFunc_opType nf s asked) fun r7 =>
    some (decide ((0 : Int) ≤ r7))) := by kernel_rfl
noncomputable def e_ContainsFunc_opType (nf : Nat) : XE := eF 102 [.v (kL (kR 0)), .fn 148 [(.ptr kI)]] [.v .bool] (fun t => m_ContainsFunc_opType nf t.1 t.2.1.1)
theorem o_ContainsFunc_opType (nf : Nat) : conOK Tryz.prog 102 (e_ContainsFunc_opType nf).con := by
  have ih : XT.ok Tryz.prog (T_ContainsFunc_opType nf) := by exact ⟨o_IndexFunc_opType nf, trivial⟩
  refine eF_ok fun t x h => ?_
  obtain ⟨s, ⟨asked, _⟩, _⟩ := t
  exact runF_ok (N := 9) ih Tryz.func102 (by kernel_rfl) rfl h
def c29_impl_opType : C := .sq (.gz 6 (.ptr kI) (.rg [.mv 16 (.t 7), .bd 17 0 [(0, 1, (.t 16))], .mv 18 (.t 1), .mf 19 148 [(.t 6)], .cv (some 20) 102 [((.t 18), .v (kL (kR 0))), ((.t 19), .fn)], .un 21 .not (.t 20), .st (.t 4) (.t 17) (kR 0), .mv 5 (.t 21)])) .rt
def w29_impl_opType : C := .kp [1, 4, 6, 7] [[4], [6]] c29_impl_opType
def c26_impl_opType : C := .cd (.t 12) (.rg [.st (.t 6) (.i 2) kI, .mv 7 (.i 2)]) .skip
def w26_impl_opType : C := .kp [1, 4, 6, 7, 12] [[4], [6]] c26_impl_opType
def c14_impl_opType : C := .cd (.t 9) (.rg [.mv 7 (.i 2)]) (.sq (.sq (.rg [.bi 13 .eql (.t 8) (.s [38]), .mv 12 (.t 13)]) (.cd (.t 12) .skip (.sq (.rg [.bi 14 .eql (.t 8) (.s [124]), .mv 12 (.t 14)]) (.cd (.t 12) .skip (.rg [.bi 15 .eql (.t 8) (.s [33]), .mv 12 (.t 15)]))))) w26_impl_opType)
def w14_impl_opType : C := .kp [1, 4, 6, 7, 8, 9] [[4], [6]] c14_impl_opType
def ir_impl_opType : C := .sq (.rg [.al 4 (kR 0), .mv 5 (.b false)]) (.sq (.rg [.al 6 kI, .st (.t 6) (.i 1) kI, .mv 7 (.i 1)]) (.sq (.sq (.rg [.mv 8 (.t 0)]) (.bk 0 (.sq (.sq (.rg [.bi 10 .eql (.t 8) (.s [61]), .mv 9 (.t 10)]) (.cd (.t 9) .skip (.rg [.bi 11 .eql (.t 8) (.s [60]), .mv 9 (.t 11)]))) w14_impl_opType))) w29_impl_opType))
noncomputable abbrev T_impl_opType (nf : Nat) : XT := [e_ContainsFunc_opType nf]
noncomputable def m_impl_opType (nf : Nat) (op : Str) (args : List Ty) : Option (Ty × Bool) := runF (T_impl_opType nf) nf [.v kS, .v (kL (kR 0))] [.c 4 (.v (kR 0)), .t 5 (.v .bool)] ir_impl_opType (op, args, ())
noncomputable def X_impl_opType {R : Type} (nf : Nat) : C → Env → (Xt → Env → Option R) → Option R := xc (R := R) (T_impl_opType nf).S nf
noncomputable def j26_impl_opType (nf : Nat) (args : List Ty) (x12_26 : Bool) : Option (Ty × Bool) := X_impl_opType nf c26_impl_opType ⟨[(1, .v (kL (kR 0)) args), (4, .pt [4] 0), (6, .pt [6] 0), (7, .v kI (1 : Int)), (12, .v .bool x12_26)], [([4], .box [.v kI (0 : Int), .nl kS, .nl (kR 0)]), ([6], .box [.v kI (1 : Int)])]⟩ (qB 0 (qS (X_impl_opType nf w29_impl_opType) (KF [.c 4 (.v (kR 0)), .t 5 (.v .bool)])))
noncomputable def j14_impl_opType (nf : Nat) (args : List Ty) (op : Str) (x9_14 : Bool) : Option (Ty × Bool) := X_impl_opType nf c14_impl_opType ⟨[(1, .v (kL (kR 0)) args), (4, .pt [4] 0), (6, .pt [6] 0), (7, .v kI (1 : Int)), (8, .v kS op), (9, .v .bool x9_14)], [([4], .box [.v kI (0 : Int), .nl kS, .nl (kR 0)]), ([6], .box [.v kI (1 : Int)])]⟩ (qB 0 (qS (X_impl_opType nf w29_impl_opType) (KF [.c 4 (.v (kR 0)), .t 5 (.v .bool)])))
noncomputable def j29_impl_opType (nf : Nat) (args : List Ty) (x7_29 : Int) (y6_29_0 : Int) : Option (Ty × Bool) := X_impl_opType nf c29_impl_opType ⟨[(1, .v (kL (kR 0)) args), (4, .pt [4] 0), (6, .pt [6] 0), (7, .v kI x7_29)], [([4], .box [.v kI (0 : Int), .nl kS, .nl (kR 0)]), ([6], .box [.v kI y6_29_0])]⟩ (KF [.c 4 (.v (kR 0)), .t 5 (.v .bool)])
theorem j26_impl_opType_eq (nf : Nat) (args : List Ty) (x12_26 : Bool) : j26_impl_opType nf args x12_26 = (
  br x12_26 (
    mark (j29_impl_opType nf args (2 : Int) (2 : Int))) (
    mark (j29_impl_opType nf args (1 : Int) (1 : Int)))) := by
  unfold j26_impl_opType j29_impl_opType c26_impl_opType w29_impl_opType
  generalize c29_impl_opType = x0
  revert x0
  refine id ?_
  intro x0
  kernel_rfl
theorem j14_impl_opType_eq (nf : Nat) (args : List Ty) (op : Str) (x9_14 : Bool) : j14_impl_opType nf args op x9_14 = (
  br x9_14 (
    mark (j29_impl_opType nf args (2 : Int) (1 : Int))) (
    br (op == ([38] : Str)) (
      mark (j26_impl_opType nf args (op == ([38] : Str)))) (
      br (op == ([124] : Str)) (
        mark (j26_impl_opType nf args (op == ([124] : Str)))) (
        mark (j26_impl_opType nf args (op == ([33] : Str))))))) := by
  unfold j14_impl_opType j29_impl_opType j26_impl_opType c14_impl_opType w29_impl_opType w26_impl_opType
  generalize c29_impl_opType = x0
  generalize c26_impl_opType = x1
  revert x0 x1
  refine id ?_
  intro x0 x1
  kernel_rfl
theorem j29_impl_opType_eq (nf : Nat) (args : List Ty) (x7_29 : Int) (y6_29_0 : Int) : j29_impl_opType nf args x7_29 y6_29_0 = (
  cb (m_ContainsFunc_opType nf args (some y6_29_0)) fun r20 =>
    some ((Ty.mk x7_29 ([] : List Str) ([] : List Ty)), (!r20))) := by kernel_rfl
theorem m_impl_opType_eq (nf : Nat) (op : Str) (args : List Ty) : m_impl_opType nf op args = (
  br (op == ([61] : Str)) (
    mark (j14_impl_opType nf args op (op == ([61] : Str)))) (
    mark (j14_impl_opType nf args op (op == ([60] : Str))))) := by
  unfold m_impl_opType j14_impl_opType ir_impl_opType w14_impl_opType w29_impl_opType
  generalize c14_impl_opType = x0
  generalize c29_impl_opType = x1
  revert x0 x1
  refine id ?_
  intro x0 x1
  kernel_rfl
noncomputable def e_impl_opType (nf : Nat) : XE := eF 138 [.v kS, .v (kL (kR 0))] [.v (kR 0), .v .bool] (fun t => m_impl_opType nf t.1 t.2.1)
theorem o_impl_opType (nf : Nat) : conOK Tryz.prog 138 (e_impl_opType nf).con := by
  have ih : XT.ok Tryz.prog (T_impl_opType nf) := by exact ⟨o_ContainsFunc_opType nf, trivial⟩
  refine eF_ok fun t x h => ?_
  obtain ⟨op, args, _⟩ := t
  exact runF_ok (N := 22) ih Tryz.func138 (by kernel_rfl) rfl h
def c12_impl_FieldType : C := .sq (.rg [.fa 24 (.t 2) 0 2 2, .ld 25 (.t 24) (kL (kR 0)), .mv 26 (.t 6), .ia 27 (.t 25) (.t 26) (kR 0), .ld 28 (.t 27) (kR 0), .cv (some 29) 52 [((.t 28), .v (kR 0))], .st (.t 4) (.t 29) (kR 0), .mv 5 (.b true)]) .rt
def c7_impl_FieldType : C := .cd (.t 22) (.sq (.rg [.bd 23 0 [], .st (.t 4) (.t 23) (kR 0), .mv 5 (.b false)]) .rt) .skip
def w7_impl_FieldType : C := .kp [2, 4, 6, 22] [[2], [4]] c7_impl_FieldType
def ir_impl_FieldType : C := .sq (.rg [.bx 2 (.t 0) (kR 0), .al 4 (kR 0), .mv 5 (.b false)]) (.sq (.rg [.fa 7 (.t 2) 0 1 1, .ld 8 (.t 7) (kL kS), .mv 9 (.t 1), .cv (some 10) 149 [((.t 8), .v (kL kS)), ((.t 9), .v kS)], .mv 6 (.t 10)]) (.sq (.sq (.rg [.ld 11 (.t 2) (kR 0), .cv (some 12) 85 [((.t 11), .v (kR 0))], .un 13 .not (.t 12), .mv 14 (.t 13), .g 14 false (.fa 15 (.t 2) 0 0 0), .g 14 false (.ld 16 (.t 15) kI), .g 14 false (.bi 17 .neq (.t 16) (.i 3)), .pk 18 (.t 14) (.b true) (.t 17), .mv 19 (.t 18), .g 19 false (.mv 20 (.t 6)), .g 19 false (.bi 21 .lss (.t 20) (.i 0)), .pk 22 (.t 19) (.b true) (.t 21)]) w7_impl_FieldType) c12_impl_FieldType))
noncomputable abbrev T_impl_FieldType (nf : Nat) : XT := [e_slices_Index_string_string nf, e_impl_IsValidType nf, e_impl_cloneType nf]
noncomputable def m_impl_FieldType (nf : Nat) (t : Ty) (label : Str) : Option (Ty × Bool) := runF (T_impl_FieldType nf) nf [.v (kR 0), .v kS] [.c 4 (.v (kR 0)), .t 5 (.v .bool)] ir_impl_FieldType (t, label, ())
noncomputable def X_impl_FieldType {R : Type} (nf : Nat) : C → Env → (Xt → Env → Option R) → Option R := xc (R := R) (T_impl_FieldType nf).S nf
noncomputable def j7_impl_FieldType (nf : Nat) (r10 : Int) (t : Ty) (x22_7 : Bool) : Option (Ty × Bool) := X_impl_FieldType nf c7_impl_FieldType ⟨[(2, .pt [2] 0), (4, .pt [4] 0), (6, .v kI r10), (22, .v .bool x22_7)], [([2], .box [.v kI t.kind, .v (kL kS) t.labels, .v (kL (kR 0)) t.args]), ([4], .box [.v kI (0 : Int), .nl kS, .nl (kR 0)])]⟩ (qS (X_impl_FieldType nf c12_impl_FieldType) (KF [.c 4 (.v (kR 0)), .t 5 (.v .bool)]))
theorem j7_impl_FieldType_eq (nf : Nat) (r10 : Int) (t : Ty) (x22_7 : Bool) : j7_impl_FieldType nf r10 t x22_7 = (
  br x22_7 (
    some ((Ty.mk (0 : Int) ([] : List Str) ([] : List Ty)), false)) (
    gg (0 ≤ r10 ∧ r10 < (List.length t.args : Int)) <|
      cb (m_impl_cloneType nf nf (gt t.args r10 Ty.zero)) fun r29 =>
        some ((Ty.h r29), true))) := by kernel_rfl
theorem m_impl_FieldType_eq (nf : Nat) (t : Ty) (label : Str) : m_impl_FieldType nf t label = (
  cb (m_slices_Index_string_string nf t.labels label) fun r10 =>
    cb (m_impl_IsValidType nf (Ty.h t)) fun r12 =>
      br ((!r12) == false) (
        br ((!(t.kind == (3 : Int))) == false) (
          mark (j7_impl_FieldType nf r10 t (decide (r10 < (0 : Int))))) (
          mark (j7_impl_FieldType nf r10 t true))) (
        mark (j7_impl_FieldType nf r10 t true))) := by
  unfold m_impl_FieldType j7_impl_FieldType ir_impl_FieldType w7_impl_FieldType c12_impl_FieldType
  generalize c7_impl_FieldType = x0
  revert x0
  refine id ?_
  intro x0
  kernel_rfl
noncomputable def e_impl_FieldType (nf : Nat) : XE := eF 139 [.v (kR 0), .v kS] [.v (kR 0), .v .bool] (fun t => m_impl_FieldType nf t.1 t.2.1)
theorem o_impl_FieldType (nf : Nat) : conOK Tryz.prog 139 (e_impl_FieldType nf).con := by
  have ih : XT.ok Tryz.prog (T_impl_FieldType nf) := by exact ⟨o_slices_Index_string_string nf, o_impl_IsValidType nf, o_impl_cloneType nf, trivial⟩
  refine eF_ok fun t x h => ?_
  obtain ⟨t, label, _⟩ := t
  exact runF_ok (N := 30) ih Tryz.func139 (by kernel_rfl) rfl h
def c33_slices_Equal_string_string : C := .sq (.rg [.mv 4 (.b true)]) .rt
def c15_slices_Equal_string_string : C := .sq (.rg [.bi 14 .lss (.t 13) (.t 12)]) (.sq (.cd (.t 14) .skip (.ex 0)) (.sq (.bk 1 (.sq (.rg [.mv 15 (.t 13), .mv 5 (.t 15)]) (.sq (.dr [] [.mv 16 (.t 0), .mv 17 (.t 5), .ia 18 (.t 16) (.t 17) kS, .ld 19 (.t 18) kS, .mv 20 (.t 1), .mv 21 (.t 5), .ia 22 (.t 20) (.t 21) kS, .ld 23 (.t 22) kS] [.bi 24 .neq (.t 19) (.t 23)]) (.cd (.t 24) (.sq (.rg [.mv 4 (.b false)]) .rt) .skip)))) (.rg [.bi 25 .add (.t 13) (.i 1), .mv 13 (.t 25)])))
def ir_slices_Equal_string_string : C := .sq (.rg [.mv 4 (.b false)]) (.sq (.sq (.rg [.mv 6 (.t 0), .ln 7 false (.t 6), .mv 8 (.t 1), .ln 9 false (.t 8), .bi 10 .neq (.t 7) (.t 9)]) (.cd (.t 10) (.sq (.rg [.mv 4 (.b false)]) .rt) .skip)) (.sq (.sq (.rg [.mv 11 (.t 0), .ln 12 false (.t 11), .mv 13 (.i 0)]) (.bk 0 (.lk [0, 1, 12, 13] [] c15_slices_Equal_string_string))) c33_slices_Equal_string_string))
noncomputable abbrev T_slices_Equal_string_string (nf : Nat) : XT := []
noncomputable def m_slices_Equal_string_string (nf : Nat) (s1 : List Str) (s2 : List Str) : Option (Bool) := runF (T_slices_Equal_string_string nf) nf [.v (kL kS), .v (kL kS)] [.t 4 (.v .bool)] ir_slices_Equal_string_string (s1, s2, ())
noncomputable def X_slices_Equal_string_string {R : Type} (nf : Nat) : C → Env → (Xt → Env → Option R) → Option R := xc (R := R) (T_slices_Equal_string_string nf).S nf
noncomputable def l14_slices_Equal_string_string (nf : Nat) (m14 : Nat) (s1 : List Str) (s2 : List Str) (x13_14 : Int) : Option (Bool) := xit [0, 1, 12, 13] [] (X_slices_Equal_string_string nf c15_slices_Equal_string_string) (qB 0 (qS (X_slices_Equal_string_string nf c33_slices_Equal_string_string) (KF [.t 4 (.v .bool)]))) m14 ⟨[(0, .v (kL kS) s1), (1, .v (kL kS) s2), (12, .v kI (List.length s1 : Int)), (13, .v kI x13_14)], []⟩
theorem l14_slices_Equal_string_string_eq (nf : Nat) (m14 : Nat) (s1 : List Str) (s2 : List Str) (x13_14 : Int) : l14_slices_Equal_string_string nf (m14 + 1) s1 s2 x13_14 = (
  br (decide (x13_14 < (List.length s1 : Int))) (
    gg (0 ≤ x13_14 ∧ x13_14 < (List.length s1 : Int)) <|
      gg (0 ≤ x13_14 ∧ x13_14 < (List.length s2 : Int)) <|
        br (!((gt s1 x13_14 ([] : Str)) == (gt s2 x13_14 ([] : Str)))) (
          some false) (
          mark (l14_slices_Equal_string_string nf m14 s1 s2 (w64 (x13_14 + (1 : Int)))))) (
    some true)) := by kernel_rfl
theorem m_slices_Equal_string_string_eq (nf : Nat) (s1 : List Str) (s2 : List Str) : m_slices_Equal_string_string nf s1 s2 = (
  br (!((List.length s1 : Int) == (List.length s2 : Int))) (
    some false) (
    mark (l14_slices_Equal_string_string nf nf s1 s2 (0 : Int)))) := by kernel_rfl
noncomputable def e_slices_Equal_string_string (nf : Nat) : XE := eF 150 [.v (kL kS), .v (kL kS)] [.v .bool] (fun t => m_slices_Equal_string_string nf t.1 t.2.1)
theorem o_slices_Equal_string_string (nf : Nat) : conOK Tryz.prog 150 (e_slices_Equal_string_string nf).con := by
  have ih : XT.ok Tryz.prog (T_slices_Equal_string_string nf) := by exact trivial
  refine eF_ok fun t x h => ?_
  obtain ⟨s1, s2, _⟩ := t
  exact runF_ok (N := 26) ih Tryz.func150 (by kernel_rfl) rfl h
def ir_impl_EqualType : C := .sq (.rg [.bx 2 (.t 0) (kR 0), .bx 3 (.t 1) (kR 0), .mv 4 (.b false)]) (.sq (.rg [.fa 5 (.t 2) 0 0 0, .ld 6 (.t 5) kI, .fa 7 (.t 3) 0 0 0, .ld 8 (.t 7) kI, .bi 9 .eql (.t 6) (.t 8), .mv 10 (.t 9), .g 10 true (.fa 11 (.t 2) 0 1 1), .g 10 true (.ld 12 (.t 11) (kL kS)), .g 10 true (.fa 13 (.t 3) 0 1 1), .g 10 true (.ld 14 (.t 13) (kL kS)), .g 10 true (.cv (some 15) 150 [((.t 12), .v (kL kS)), ((.t 14), .v (kL kS))]), .pk 16 (.t 10) (.t 15) (.b false), .mv 17 (.t 16), .g 17 true (.fa 18 (.t 2) 0 2 2), .g 17 true (.ld 19 (.t 18) (kL (kR 0))), .g 17 true (.fa 20 (.t 3) 0 2 2), .g 17 true (.ld 21 (.t 20) (kL (kR 0))), .g 17 true (.cv (some 22) 151 [((.t 19), .v (kL (kR 0))), ((.t 21), .v (kL (kR 0))), ((.f 140), .fn)]), .pk 23 (.t 17) (.t 22) (.b false), .mv 4 (.t 23)]) .rt)
def c35_slices_EqualFunc_impl_Type_impl_Type_impl_Type_impl_Type : C := .sq (.rg [.mv 6 (.b true)]) .rt
def c15_slices_EqualFunc_impl_Type_impl_Type_impl_Type_impl_Type : C := .sq (.rg [.bi 18 .lss (.t 17) (.t 16)]) (.sq (.cd (.t 18) .skip (.ex 0)) (.sq (.bk 1 (.sq (.rg [.mv 19 (.t 17), .ia 20 (.t 15) (.t 17) (kR 0), .ld 21 (.t 20) (kR 0), .al 8 (kR 0), .mv 7 (.t 19), .st (.t 8) (.t 21) (kR 0)]) (.sq (.rg [.mv 22 (.t 1), .mv 23 (.t 7), .ia 24 (.t 22) (.t 23) (kR 0), .ld 25 (.t 24) (kR 0), .al 9 (kR 0), .st (.t 9) (.t 25) (kR 0)]) (.sq (.rg [.mv 26 (.t 2), .ld 27 (.t 8) (kR 0), .ld 28 (.t 9) (kR 0), .cf (some 29) (.t 26) [((.t 27), .v (kR 0)), ((.t 28), .v (kR 0))], .un 30 .not (.t 29)]) (.cd (.t 30) (.sq (.rg [.mv 6 (.b false)]) .rt) .skip))))) (.rg [.bi 31 .add (.t 17) (.i 1), .mv 17 (.t 31)])))
def ir_slices_EqualFunc_impl_Type_impl_Type_impl_Type_impl_Type : C := .sq (.rg [.mv 6 (.b false)]) (.sq (.sq (.rg [.mv 10 (.t 0), .ln 11 false (.t 10), .mv 12 (.t 1), .ln 13 false (.t 12), .bi 14 .neq (.t 11) (.t 13)]) (.cd (.t 14) (.sq (.rg [.mv 6 (.b false)]) .rt) .skip)) (.sq (.sq (.rg [.mv 15 (.t 0), .ln 16 false (.t 15), .mv 17 (.i 0)]) (.bk 0 (.lk [1, 2, 15, 16, 17] [] c15_slices_EqualFunc_impl_Type_impl_Type_impl_Type_impl_Type))) c35_slices_EqualFunc_impl_Type_impl_Type_impl_Type_impl_Type))
noncomputable def B_impl_EqualType (nf : Nat) : XT := [e_slices_Equal_string_string nf]
noncomputable def G_impl_EqualType (nf : Nat) : Nat → XT
  | 0 => []
  | kf + 1 => [eF 140 [.v (kR 0), .v (kR 0)] [.v .bool] (fun t => (fun (a : Ty) (b : Ty) => runF (G_impl_EqualType nf kf ++ B_impl_EqualType nf) nf [.v (kR 0), .v (kR 0)] [.t 4 (.v .bool)] ir_impl_EqualType (a, b, ())) t.1 t.2.1),
    eF 151 [.v (kL (kR 0)), .v (kL (kR 0)), .fn 140 []] [.v .bool] (fun t => (fun (s1 : List Ty) (s2 : List Ty) => runF (G_impl_EqualType nf kf ++ B_impl_EqualType nf) nf [.v (kL (kR 0)), .v (kL (kR 0)), .fn 140 []] [.t 6 (.v .bool)] ir_slices_EqualFunc_impl_Type_impl_Type_impl_Type_impl_Type (s1, s2, (()), ())) t.1 t.2.1)]
noncomputable abbrev T_impl_EqualType (nf kf : Nat) : XT := G_impl_EqualType nf kf ++ B_impl_EqualType nf
noncomputable abbrev T_slices_EqualFunc_impl_Type_impl_Type_impl_Type_impl_Type (nf kf : Nat) : XT := G_impl_EqualType nf kf ++ B_impl_EqualType nf
noncomputable def m_impl_EqualType (nf kf : Nat) (a : Ty) (b : Ty) : Option (Bool) := runF (T_impl_EqualType nf kf) nf [.v (kR 0), .v (kR 0)] [.t 4 (.v .bool)] ir_impl_EqualType (a, b, ())
noncomputable def m_slices_EqualFunc_impl_Type_impl_Type_impl_Type_impl_Type (nf kf : Nat) (s1 : List Ty) (s2 : List Ty) : Option (Bool) := runF (T_slices_EqualFunc_impl_Type_impl_Type_impl_Type_impl_Type nf kf) nf [.v (kL (kR 0)), .v (kL (kR 0)), .fn 140 []] [.t 6 (.v .bool)] ir_slices_EqualFunc_impl_Type_impl_Type_impl_Type_impl_Type (s1, s2, (()), ())
noncomputable def X_slices_EqualFunc_impl_Type_impl_Type_impl_Type_impl_Type {R : Type} (nf kf : Nat) : C → Env → (Xt → Env → Option R) → Option R := xc (R := R) (T_slices_EqualFunc_impl_Type_impl_Type_impl_Type_impl_Type nf kf).S nf
theorem m_impl_EqualType_eq (nf kf : Nat) (a : Ty) (b : Ty) : m_impl_EqualType nf (kf + 1) a b = (
  br ((a.kind == b.kind) == true) (
    cb (m_slices_Equal_string_string nf a.labels b.labels) fun r15 =>
      br (r15 == true) (
        cb (m_slices_EqualFunc_impl_Type_impl_Type_impl_Type_impl_Type nf kf a.args b.args) fun r22 =>
          some r22) (
        some false)) (
    some false)) := by kernel_rfl
noncomputable def e_impl_EqualType (nf : Nat) : XE := eF 140 [.v (kR 0), .v (kR 0)] [.v .bool] (fun t => m_impl_EqualType nf nf t.1 t.2.1)
noncomputable def l14_slices_EqualFunc_impl_Type_impl_Type_impl_Type_impl_Type (nf kf : Nat) (m14 : Nat) (s2 : List Ty) (s1 : List Ty) (x17_14 : Int) : Option (Bool) := xit [1, 2, 15, 16, 17] [] (X_slices_EqualFunc_impl_Type_impl_Type_impl_Type_impl_Type nf kf c15_slices_EqualFunc_impl_Type_impl_Type_impl_Type_impl_Type) (qB 0 (qS (X_slices_EqualFunc_impl_Type_impl_Type_impl_Type_impl_Type nf kf c35_slices_EqualFunc_impl_Type_impl_Type_impl_Type_impl_Type) (KF [.t 6 (.v .bool)]))) m14 ⟨[(1, .v (kL (kR 0)) s2), (2, .fn 140 []), (15, .v (kL (kR 0)) s1), (16, .v kI (List.length s1 : Int)), (17, .v kI x17_14)], []⟩
theorem l14_slices_EqualFunc_impl_Type_impl_Type_impl_Type_impl_Type_eq (nf kf : Nat) (m14 : Nat) (s2 : List Ty) (s1 : List Ty) (x17_14 : Int) : l14_slices_EqualFunc_impl_Type_impl_Type_impl_Type_impl_Type nf (kf + 1) (m14 + 1) s2 s1 x17_14 = (
  br (decide (x17_14 < (List.length s1 : Int))) (
    gg (0 ≤ x17_14 ∧ x17_14 < (List.length s1 : Int)) <|
      gg (0 ≤ x17_14 ∧ x17_14 < (List.length s2 : Int)) <|
        cb (m_impl_EqualType nf kf (Ty.h (gt s1 x17_14 Ty.zero)) (Ty.h (gt s2 x17_14 Ty.zero))) fun r29 =>
          br (!r29) (
            some false) (
            mark (l14_slices_EqualFunc_impl_Type_impl_Type_impl_Type_impl_Type nf (kf + 1) m14 s2 s1 (w64 (x17_14 + (1 : Int)))))) (
    some true)) := by kernel_rfl
theorem m_slices_EqualFunc_impl_Type_impl_Type_impl_Type_impl_Type_eq (nf kf : Nat) (s1 : List Ty) (s2 : List Ty) : m_slices_EqualFunc_impl_Type_impl_Type_impl_Type_impl_Type nf (kf + 1) s1 s2 = (
  br (!((List.length s1 : Int) == (List.length s2 : Int))) (
    some false) (
    mark (l14_slices_EqualFunc_impl_Type_impl_Type_impl_Type_impl_Type nf (kf + 1) nf s2 s1 (0 : Int)))) := by kernel_rfl
theorem gok_impl_EqualType (nf : Nat) : ∀ kf : Nat, XT.ok Tryz.prog (G_impl_EqualType nf kf ++ B_impl_EqualType nf)
  | 0 => by exact ⟨o_slices_Equal_string_string nf, trivial⟩
  | kf + 1 => by
    have ih := gok_impl_EqualType nf kf
    refine ⟨?_, ?_, (by exact ⟨o_slices_Equal_string_string nf, trivial⟩)⟩
    · refine eF_ok fun t x h => ?_
      obtain ⟨a, b, _⟩ := t
      exact runF_ok (N := 24) ih Tryz.func140 (by kernel_rfl) rfl h
    · refine eF_ok fun t x h => ?_
      obtain ⟨s1, s2, _, _⟩ := t
      exact runF_ok (N := 32) ih Tryz.func151 (by kernel_rfl) rfl h
theorem o_impl_EqualType (nf : Nat) : conOK Tryz.prog 140 (e_impl_EqualType nf).con := by
  have ih := gok_impl_EqualType nf nf
  refine eF_ok fun t x h => ?_
  obtain ⟨a, b, _⟩ := t
  exact runF_ok (N := 24) ih Tryz.func140 (by kernel_rfl) rfl h
def c69_impl_typer_plain : C := .sq (.rg [.bd 129 0 [], .st (.t 6) (.t 129) (kR 0), .mv 7 (.b false)]) .rt
def c53_impl_typer_plain : C := .sq (.rg [.mv 107 (.t 2), .ia 108 (.t 107) (.i 0) (kR 0), .fa 109 (.t 108) 0 2 2, .ld 110 (.t 109) (kL (kR 0)), .ia 111 (.t 110) (.i 1) (kR 0), .ld 112 (.t 111) (kR 0), .st (.t 6) (.t 112) (kR 0), .mv 7 (.b true)]) .rt
def c48_impl_typer_plain : C := .cd (.t 105) (.sq (.rg [.bd 106 0 [], .st (.t 6) (.t 106) (kR 0), .mv 7 (.b false)]) .rt) .skip
def w48_impl_typer_plain : C := .kp [2, 6, 105] [[6]] c48_impl_typer_plain
def ir_impl_typer_plain : C := .sq (.rg [.al 6 (kR 0), .mv 7 (.b false)]) (.sq (.sq (.rg [.mv 8 (.t 1), .nck 9 (.t 8), .fa 10 (.t 9) 2 0 0, .ld 11 (.t 10) kI]) (.bk 0 (.sq (.rg [.bi 13 .eql (.t 11) (.i 4), .mv 12 (.t 13)]) (.cd (.t 12) (.sq (.rg [.mv 14 (.t 1), .nck 15 (.t 14), .fa 16 (.t 15) 2 1 1, .ld 17 (.t 16) kS, .mv 18 (.t 2), .ca (some 19) 138 [((.t 17), .v kS), ((.t 18), .v (kL (kR 0)))], .xt 20 (.t 19) 0, .xt 21 (.t 19) 1, .st (.t 6) (.t 20) (kR 0), .mv 7 (.t 21)]) .rt) (.sq (.rg [.bi 23 .eql (.t 11) (.i 5), .mv 22 (.t 23)]) (.cd (.t 22) (.sq (.rg [.mv 24 (.t 1), .nck 25 (.t 24), .fa 26 (.t 25) 2 4 6, .ld 27 (.t 26) (kL kS), .mv 28 (.t 2), .bd 29 0 [(0, 1, (.i 3)), (1, 1, (.t 27)), (2, 1, (.t 28))], .st (.t 6) (.t 29) (kR 0), .mv 7 (.b true)]) .rt) (.sq (.rg [.bi 31 .eql (.t 11) (.i 6), .mv 30 (.t 31)]) (.cd (.t 30) (.sq (.dr [39] [.mv 32 (.t 2), .ia 33 (.t 32) (.i 0) (kR 0), .ld 34 (.t 33) (kR 0), .mv 35 (.t 1), .nck 36 (.t 35), .fa 37 (.t 36) 2 1 1, .ld 38 (.t 37) kS, .ca (some 39) 139 [((.t 34), .v (kR 0)), ((.t 38), .v kS)], .xt 40 (.t 39) 0, .xt 41 (.t 39) 1] [.st (.t 6) (.t 40) (kR 0), .mv 7 (.t 41)]) .rt) (.sq (.rg [.bi 43 .eql (.t 11) (.i 8), .mv 42 (.t 43)]) (.cd (.t 42) (.sq (.rg [.mv 44 (.t 2), .ia 45 (.t 44) (.i 0) (kR 0), .ld 46 (.t 45) (kR 0), .cv (some 47) 112 [((.t 46), .v (kR 0))], .st (.t 6) (.t 47) (kR 0), .mv 7 (.b true)]) .rt) (.sq (.rg [.bi 49 .eql (.t 11) (.i 9), .mv 48 (.t 49)]) (.cd (.t 48) (.sq (.dw [] [58, 65] [.mv 50 (.t 2), .ia 51 (.t 50) (.i 0) (kR 0), .ld 52 (.t 51) (kR 0), .mv 53 (.t 2), .ia 54 (.t 53) (.i 0) (kR 0), .fa 55 (.t 54) 0 0 0, .ld 56 (.t 55) kI, .bi 57 .eql (.t 56) (.i 4), .mv 58 (.t 57), .g 58 true (.mv 59 (.t 2)), .g 58 true (.ia 60 (.t 59) (.i 0) (kR 0)), .g 58 true (.ld 61 (.t 60) (kR 0)), .g 58 true (.mv 62 (.t 2)), .g 58 true (.ia 63 (.t 62) (.i 1) (kR 0)), .g 58 true (.ld 64 (.t 63) (kR 0)), .g 58 true (.cv (some 65) 140 [((.t 61), .v (kR 0)), ((.t 64), .v (kR 0))]), .pk 66 (.t 58) (.t 65) (.b false)] 6 (.t 52) (kR 0) [.mv 7 (.t 66)]) .rt) (.sq (.rg [.bi 68 .eql (.t 11) (.i 11), .mv 67 (.t 68)]) (.cd (.t 67) (.sq (.dw [] [77, 84] [.mv 69 (.t 2), .ia 70 (.t 69) (.i 1) (kR 0), .ld 71 (.t 70) (kR 0), .mv 72 (.t 2), .ia 73 (.t 72) (.i 0) (kR 0), .fa 74 (.t 73) 0 0 0, .ld 75 (.t 74) kI, .bi 76 .eql (.t 75) (.i 2), .mv 77 (.t 76), .g 77 true (.mv 78 (.t 2)), .g 77 true (.ia 79 (.t 78) (.i 1) (kR 0)), .g 77 true (.ld 80 (.t 79) (kR 0)), .g 77 true (.mv 81 (.t 2)), .g 77 true (.ia 82 (.t 81) (.i 2) (kR 0)), .g 77 true (.ld 83 (.t 82) (kR 0)), .g 77 true (.cv (some 84) 140 [((.t 80), .v (kR 0)), ((.t 83), .v (kR 0))]), .pk 85 (.t 77) (.t 84) (.b false)] 6 (.t 71) (kR 0) [.mv 7 (.t 85)]) .rt) (.sq (.rg [.bi 87 .eql (.t 11) (.i 14), .mv 86 (.t 87)]) (.cd (.t 86) (.sq (.sq (.dr [] [.mv 88 (.t 2), .ia 89 (.t 88) (.i 0) (kR 0), .fa 90 (.t 89) 0 0 0, .ld 91 (.t 90) kI, .bi 92 .neq (.t 91) (.i 5), .mv 93 (.t 92), .g 93 false (.mv 94 (.t 2)), .g 93 false (.ia 95 (.t 94) (.i 0) (kR 0)), .g 93 false (.fa 96 (.t 95) 0 2 2), .g 93 false (.ld 97 (.t 96) (kL (kR 0))), .g 93 false (.ia 98 (.t 97) (.i 0) (kR 0)), .g 93 false (.ld 99 (.t 98) (kR 0)), .g 93 false (.mv 100 (.t 2)), .g 93 false (.ia 101 (.t 100) (.i 1) (kR 0)), .g 93 false (.ld 102 (.t 101) (kR 0))] [.g 93 false (.cv (some 103) 140 [((.t 99), .v (kR 0)), ((.t 102), .v (kR 0))]), .g 93 false (.un 104 .not (.t 103)), .pk 105 (.t 93) (.b true) (.t 104)]) w48_impl_typer_plain) c53_impl_typer_plain) (.sq (.rg [.bi 114 .eql (.t 11) (.i 15), .mv 113 (.t 114)]) (.cd (.t 113) (.sq (.dw [] [2, 116, 117, 118, 119] [.cv (some 115) 110 [], .mv 116 (.t 2), .ia 117 (.t 116) (.i 0) (kR 0), .fa 118 (.t 117) 0 0 0, .ld 119 (.t 118) kI, .bi 120 .eql (.t 119) (.i 4)] 6 (.t 115) (kR 0) [.mv 7 (.t 120)]) .rt) (.sq (.rg [.bi 122 .eql (.t 11) (.i 16), .mv 121 (.t 122)]) (.cd (.t 121) (.sq (.dw [] [2, 124, 125, 126, 127] [.cv (some 123) 109 [], .mv 124 (.t 2), .ia 125 (.t 124) (.i 0) (kR 0), .fa 126 (.t 125) 0 0 0, .ld 127 (.t 126) kI, .bi 128 .eql (.t 127) (.i 4)] 6 (.t 123) (kR 0) [.mv 7 (.t 128)]) .rt) .skip)))))))))))))))))))) c69_impl_typer_plain)
noncomputable abbrev T_impl_typer_plain (nf : Nat) : XT := [e_impl_opType nf, e_impl_FieldType nf, e_impl_bagType nf, e_impl_EqualType nf, e_impl_boolType nf, e_impl_intType nf]
noncomputable def m_impl_typer_plain (nf : Nat) (y : Typer) (e : Tm) (t : List Ty) : Option (Ty × Bool) := runF (T_impl_typer_plain nf) nf [.p (kR 42), .p (kR 2), .v (kL (kR 0))] [.c 6 (.v (kR 0)), .t 7 (.v .bool)] ir_impl_typer_plain (y, e, t, ())
noncomputable def X_impl_typer_plain {R : Type} (nf : Nat) : C → Env → (Xt → Env → Option R) → Option R := xc (R := R) (T_impl_typer_plain nf).S nf
noncomputable def j48_impl_typer_plain (nf : Nat) (t : List Ty) (x105_48 : Bool) : Option (Ty × Bool) := X_impl_typer_plain nf c48_impl_typer_plain ⟨[(2, .v (kL (kR 0)) t), (6, .pt [6] 0), (105, .v .bool x105_48)], [([6], .box [.v kI (0 : Int), .nl kS, .nl (kR 0)])]⟩ (qS (X_impl_typer_plain nf c53_impl_typer_plain) (qB 0 (qS (X_impl_typer_plain nf c69_impl_typer_plain) (KF [.c 6 (.v (kR 0)), .t 7 (.v .bool)]))))
theorem j48_impl_typer_plain_eq (nf : Nat) (t : List Ty) (x105_48 : Bool) : j48_impl_typer_plain nf t x105_48 = (
  br x105_48 (
    some ((Ty.mk (0 : Int) ([] : List Str) ([] : List Ty)), false)) (
    gg (0 ≤ (0 : Int) ∧ (0 : Int) < (List.length t : Int)) <|
      gg (0 ≤ (1 : Int) ∧ (1 : Int) < (List.length ((gt t (0 : Int) Ty.zero).args) : Int)) <|
        some ((Ty.h (gt ((gt t (0 : Int) Ty.zero).args) (1 : Int) Ty.zero)), true))) := by kernel_rfl
theorem m_impl_typer_plain_eq (nf : Nat) (y : Typer) (e : Tm) (t : List Ty) : m_impl_typer_plain nf y e t = (
  br (e.kind == (4 : Int)) (
    cb (m_impl_opType nf e.name t) fun r19 =>
      some ((Ty.h r19.1), r19.2)) (
    br (e.kind == (5 : Int)) (
      some ((Ty.mk (3 : Int) e.labels t), true)) (
      br (e.kind == (6 : Int)) (
        gg (0 ≤ (0 : Int) ∧ (0 : Int) < (List.length t : Int)) <|
          cb (m_impl_FieldType nf (gt t (0 : Int) Ty.zero) e.name) fun r39 =>
            some ((Ty.h r39.1), r39.2)) (
        br (e.kind == (8 : Int)) (
          gg (0 ≤ (0 : Int) ∧ (0 : Int) < (List.length t : Int)) <|
            cb (m_impl_bagType nf (gt t (0 : Int) Ty.zero)) fun r47 =>
              some ((Ty.h r47), true)) (
          br (e.kind == (9 : Int)) (
            gg (0 ≤ (0 : Int) ∧ (0 : Int) < (List.length t : Int)) <|
              gg (0 ≤ (0 : Int) ∧ (0 : Int) < (List.length t : Int)) <|
                br ((((gt t (0 : Int) Ty.zero).kind) == (4 : Int)) == true) (
                  gg (0 ≤ (0 : Int) ∧ (0 : Int) < (List.length t : Int)) <|
                    gg (0 ≤ (1 : Int) ∧ (1 : Int) < (List.length t : Int)) <|
                      cb (m_impl_EqualType nf nf (gt t (0 : Int) Ty.zero) (gt t (1 : Int) Ty.zero)) fun r65 =>
                        some ((Ty.h (gt t (0 : Int) Ty.zero)), r65)) (
                  some ((Ty.h (gt t (0 : Int) Ty.zero)), false))) (
            br (e.kind == (11 : Int)) (
              gg (0 ≤ (1 : Int) ∧ (1 : Int) < (List.length t : Int)) <|
                gg (0 ≤ (0 : Int) ∧ (0 : Int) < (List.length t : Int)) <|
                  br ((((gt t (0 : Int) Ty.zero).kind) == (2 : Int)) == true) (
                    gg (0 ≤ (1 : Int) ∧ (1 : Int) < (List.length t : Int)) <|
                      gg (0 ≤ (2 : Int) ∧ (2 : Int) < (List.length t : Int)) <|
                        cb (m_impl_EqualType nf nf (gt t (1 : Int) Ty.zero) (gt t (2 : Int) Ty.zero)) fun r84 =>
                          some ((Ty.h (gt t (1 : Int) Ty.zero)), r84)) (
                    some ((Ty.h (gt t (1 : Int) Ty.zero)), false))) (
              br (e.kind == (14 : Int)) (
                gg (0 ≤ (0 : Int) ∧ (0 : Int) < (List.length t : Int)) <|
                  br ((!(((gt t (0 : Int) Ty.zero).kind) == (5 : Int))) == false) (
                    gg (0 ≤ (0 : Int) ∧ (0 : Int) < (List.length t : Int)) <|
                      gg (0 ≤ (0 : Int) ∧ (0 : Int) < (List.length ((gt t (0 : Int) Ty.zero).args) : Int)) <|
                        gg (0 ≤ (1 : Int) ∧ (1 : Int) < (List.length t : Int)) <|
                          cb (m_impl_EqualType nf nf (gt ((gt t (0 : Int) Ty.zero).args) (0 : Int) Ty.zero) (gt t (1 : Int) Ty.zero)) fun r103 =>
                            mark (j48_impl_typer_plain nf t (!r103))) (
                    mark (j48_impl_typer_plain nf t true))) (
                br (e.kind == (15 : Int)) (
                  cb (m_impl_boolType nf) fun r115 =>
                    gg (0 ≤ (0 : Int) ∧ (0 : Int) < (List.length t : Int)) <|
                      some ((Ty.h r115), (((gt t (0 : Int) Ty.zero).kind) == (4 : Int)))) (
                  br (e.kind == (16 : Int)) (
                    cb (m_impl_intType nf) fun r123 =>
                      gg (0 ≤ (0 : Int) ∧ (0 : Int) < (List.length t : Int)) <|
                        some ((Ty.h r123), (((gt t (0 : Int) Ty.zero).kind) == (4 : Int)))) (
                    some ((Ty.mk (0 : Int) ([] : List Str) ([] : List Ty)), false))))))))))) := by
  unfold m_impl_typer_plain j48_impl_typer_plain ir_impl_typer_plain w48_impl_typer_plain c53_impl_typer_plain c69_impl_typer_plain
  generalize c48_impl_typer_plain = x0
  revert x0
  refine id ?_
  intro x0
  kernel_rfl
noncomputable def e_impl_typer_plain (nf : Nat) : XE := eF 115 [.p (kR 42), .p (kR 2), .v (kL (kR 0))] [.v (kR 0), .v .bool] (fun t => m_impl_typer_plain nf t.1 t.2.1 t.2.2.1)
theorem o_impl_typer_plain (nf : Nat) : conOK Tryz.prog 115 (e_impl_typer_plain nf).con := by
  have ih : XT.ok Tryz.prog (T_impl_typer_plain nf) := by exact ⟨o_impl_opType nf, o_impl_FieldType nf, o_impl_bagType nf, o_impl_EqualType nf, o_impl_boolType nf, o_impl_intType nf, trivial⟩
  refine eF_ok fun t x h => ?_
  obtain ⟨y, e, t, _⟩ := t
  exact runF_ok (N := 130) ih Tryz.func115 (by kernel_rfl) rfl h
def ir_impl_typer_of : C := .sq (.rg [.al 6 (kR 0), .mv 7 (.b false)]) (.sq (.rg [.mv 11 (.t 0), .mv 12 (.t 1), .mv 13 (.t 2), .ca (some 14) 84 [((.t 11), .v (.ptr (kR 42))), ((.t 12), .v (kL (kR 8))), ((.t 13), .v (.ptr (kR 2)))], .mv 10 (.t 14), .xt 15 (.t 10) 0, .xt 16 (.t 10) 1, .al 8 (kR 0), .st (.t 8) (.t 15) (kR 0), .mv 9 (.t 16)]) (.sq (.dw [] [19, 21] [.ld 17 (.t 8) (kR 0), .mv 18 (.t 9), .mv 19 (.t 18), .g 19 true (.ld 20 (.t 8) (kR 0)), .g 19 true (.cv (some 21) 85 [((.t 20), .v (kR 0))]), .pk 22 (.t 19) (.t 21) (.b false)] 6 (.t 17) (kR 0) [.mv 7 (.t 22)]) .rt))
def c31_impl_typer_all : C := .sq (.rg [.mv 40 (.t 8), .mv 6 (.t 40), .mv 7 (.b true)]) .rt
def c9_impl_typer_all : C := .sq (.rg [.bi 19 .lss (.t 18) (.t 17)]) (.sq (.cd (.t 19) .skip (.ex 0)) (.sq (.bk 1 (.sq (.rg [.mv 20 (.t 18), .mv 9 (.t 20)]) (.sq (.rg [.mv 22 (.t 0), .mv 23 (.t 1), .mv 24 (.t 2), .nck 25 (.t 24), .fa 26 (.t 25) 2 5 7, .ld 27 (.t 26) (kL (kR 2)), .mv 28 (.t 9), .ia 29 (.t 27) (.t 28) (kR 2), .ca (some 30) 51 [((.t 22), .v (.ptr (kR 42))), ((.t 23), .v (kL (kR 8))), ((.t 29), .v (.ptr (kR 2)))], .mv 21 (.t 30), .xt 31 (.t 21) 0, .xt 32 (.t 21) 1, .al 10 (kR 0), .st (.t 10) (.t 31) (kR 0), .mv 11 (.t 32)]) (.sq (.sq (.rg [.mv 33 (.t 11), .un 34 .not (.t 33)]) (.cd (.t 34) (.sq (.rg [.mv 6 (.nl (kR 0)), .mv 7 (.b false)]) .rt) .skip)) (.gt 8 false (kR 0) (.rg [.mv 35 (.t 8), .ld 36 (.t 10) (kR 0), .bs 37 false (kR 0) [(.t 36)], .ap 38 [8] false (kR 0) (.t 35) (.t 37), .mv 8 (.t 38)])))))) (.rg [.bi 39 .add (.t 18) (.i 1), .mv 18 (.t 39)])))
def ir_impl_typer_all : C := .sq (.rg [.mv 6 (.nl (kR 0)), .mv 7 (.b false)]) (.sq (.rg [.bs 12 false (kR 0) [], .mv 8 (.t 12)]) (.sq (.sq (.rg [.mv 13 (.t 2), .nck 14 (.t 13), .fa 15 (.t 14) 2 5 7, .ld 16 (.t 15) (kL (kR 2)), .ln 17 false (.t 16), .mv 18 (.i 0)]) (.bk 0 (.gt 8 false (kR 0) (.lk [0, 1, 2, 8, 17, 18] [[8]] c9_impl_typer_all)))) c31_impl_typer_all))
def c65_impl_typer_form : C := .sq (.rg [.mv 140 (.t 0), .mv 141 (.t 1), .mv 142 (.t 2), .ca (some 143) 114 [((.t 140), .v (.ptr (kR 42))), ((.t 141), .v (kL (kR 8))), ((.t 142), .v (.ptr (kR 2)))], .mv 139 (.t 143), .xt 144 (.t 139) 0, .xt 145 (.t 139) 1, .mv 15 (.t 144), .mv 16 (.t 145)]) (.sq (.sq (.rg [.mv 146 (.t 16), .un 147 .not (.t 146)]) (.cd (.t 147) (.sq (.rg [.bd 148 0 [], .st (.t 6) (.t 148) (kR 0), .mv 7 (.b false)]) .rt) .skip)) (.sq (.gz 15 (kL (kR 0)) (.rg [.mv 149 (.t 0), .mv 150 (.t 2), .mv 151 (.t 15), .ca (some 152) 115 [((.t 149), .v (.ptr (kR 42))), ((.t 150), .v (.ptr (kR 2))), ((.t 151), .v (kL (kR 0)))], .xt 153 (.t 152) 0, .xt 154 (.t 152) 1, .st (.t 6) (.t 153) (kR 0), .mv 7 (.t 154)])) .rt))
def c55_impl_typer_form : C := .rt
def w55_impl_typer_form : C := .kp [6, 7] [[6]] c55_impl_typer_form
def c51_impl_typer_form : C := .sq (.dw [99, 12] [82] [.mv 83 (.t 0), .mv 84 (.t 1), .mv 85 (.t 2), .nck 86 (.t 85), .fa 87 (.t 86) 2 1 1, .ld 88 (.t 87) kS, .fa 89 (.t 10) 0 2 2, .ld 90 (.t 89) (kL (kR 0)), .ia 91 (.t 90) (.i 0) (kR 0), .ld 92 (.t 91) (kR 0), .cv (some 93) 113 [((.t 84), .v (kL (kR 8))), ((.t 88), .v kS), ((.t 92), .v (kR 0))], .mv 94 (.t 2), .nck 95 (.t 94), .fa 96 (.t 95) 2 5 7, .ld 97 (.t 96) (kL (kR 2)), .ia 98 (.t 97) (.i 1) (kR 2), .ca (some 99) 51 [((.t 83), .v (.ptr (kR 42))), ((.t 93), .v (kL (kR 8))), ((.t 98), .v (.ptr (kR 2)))], .mv 82 (.t 99), .xt 100 (.t 82) 0, .xt 101 (.t 82) 1, .al 12 (kR 0)] 12 (.t 100) (kR 0) [.mv 11 (.t 101)]) (.sq (.dw [] [12, 104, 105, 106, 107] [.ld 102 (.t 12) (kR 0), .mv 103 (.t 11), .mv 104 (.t 103), .g 104 true (.fa 105 (.t 12) 0 0 0), .g 104 true (.ld 106 (.t 105) kI), .g 104 true (.bi 107 .eql (.t 106) (.i 4)), .pk 108 (.t 104) (.t 107) (.b false)] 6 (.t 102) (kR 0) [.mv 7 (.t 108)]) w55_impl_typer_form)
def c46_impl_typer_form : C := .cd (.t 80) (.sq (.rg [.bd 81 0 [], .st (.t 6) (.t 81) (kR 0), .mv 7 (.b false)]) .rt) .skip
def w46_impl_typer_form : C := .kp [0, 1, 2, 6, 10, 80] [[6], [10]] c46_impl_typer_form
def ir_impl_typer_form : C := .sq (.rg [.al 6 (kR 0), .mv 7 (.b false)]) (.sq (.sq (.rg [.mv 17 (.t 2), .nck 18 (.t 17), .fa 19 (.t 18) 2 0 0, .ld 20 (.t 19) kI]) (.bk 0 (.sq (.rg [.bi 22 .eql (.t 20) (.i 1), .mv 21 (.t 22)]) (.cd (.t 21) (.sq (.rg [.mv 23 (.t 1), .mv 24 (.t 2), .nck 25 (.t 24), .fa 26 (.t 25) 2 1 1, .ld 27 (.t 26) kS, .ca (some 28) 108 [((.t 23), .v (kL (kR 8))), ((.t 27), .v kS)], .xt 29 (.t 28) 0, .xt 30 (.t 28) 1, .st (.t 6) (.t 29) (kR 0), .mv 7 (.t 30)]) .rt) (.sq (.rg [.bi 32 .eql (.t 20) (.i 2), .mv 31 (.t 32)]) (.cd (.t 31) (.sq (.rg [.cv (some 33) 109 [], .st (.t 6) (.t 33) (kR 0), .mv 7 (.b true)]) .rt) (.sq (.rg [.bi 35 .eql (.t 20) (.i 3), .mv 34 (.t 35)]) (.cd (.t 34) (.sq (.rg [.cv (some 36) 110 [], .st (.t 6) (.t 36) (kR 0), .mv 7 (.b true)]) .rt) (.sq (.rg [.bi 38 .eql (.t 20) (.i 12), .mv 37 (.t 38)]) (.cd (.t 37) (.sq (.dw [48, 8] [39] [.mv 40 (.t 0), .nck 41 (.t 40), .fa 42 (.t 41) 42 0 0, .ld 43 (.t 42) (kR 5), .mv 44 (.t 2), .nck 45 (.t 44), .fa 46 (.t 45) 2 1 1, .ld 47 (.t 46) kS, .ca (some 48) 111 [((.t 43), .v (kR 5)), ((.t 47), .v kS)], .mv 39 (.t 48), .xt 49 (.t 39) 0, .xt 50 (.t 39) 1, .al 8 (kR 0)] 8 (.t 49) (kR 0) [.mv 9 (.t 50)]) (.sq (.rg [.ld 51 (.t 8) (kR 0), .cv (some 52) 112 [((.t 51), .v (kR 0))], .mv 53 (.t 9), .st (.t 6) (.t 52) (kR 0), .mv 7 (.t 53)]) .rt)) (.sq (.rg [.bi 55 .eql (.t 20) (.i 7), .mv 54 (.t 55)]) (.cd (.t 54) (.sq (.rg [.mv 56 (.t 2), .nck 57 (.t 56), .fa 58 (.t 57) 2 3 3, .ld 59 (.t 58) (kR 0), .cv (some 60) 112 [((.t 59), .v (kR 0))], .st (.t 6) (.t 60) (kR 0), .mv 7 (.b true)]) .rt) (.sq (.rg [.bi 62 .eql (.t 20) (.i 10), .mv 61 (.t 62)]) (.cd (.t 61) (.sq (.rg [.mv 64 (.t 0), .mv 65 (.t 1), .mv 66 (.t 2), .nck 67 (.t 66), .fa 68 (.t 67) 2 5 7, .ld 69 (.t 68) (kL (kR 2)), .ia 70 (.t 69) (.i 0) (kR 2), .ca (some 71) 51 [((.t 64), .v (.ptr (kR 42))), ((.t 65), .v (kL (kR 8))), ((.t 70), .v (.ptr (kR 2)))], .mv 63 (.t 71), .xt 72 (.t 63) 0, .xt 73 (.t 63) 1, .al 10 (kR 0), .st (.t 10) (.t 72) (kR 0), .mv 11 (.t 73)]) (.sq (.sq (.rg [.mv 74 (.t 11), .un 75 .not (.t 74), .mv 76 (.t 75), .g 76 false (.fa 77 (.t 10) 0 0 0), .g 76 false (.ld 78 (.t 77) kI), .g 76 false (.bi 79 .neq (.t 78) (.i 4)), .pk 80 (.t 76) (.b true) (.t 79)]) w46_impl_typer_form) c51_impl_typer_form)) (.sq (.rg [.bi 110 .eql (.t 20) (.i 13), .mv 109 (.t 110)]) (.cd (.t 109) (.sq (.dw [128, 13] [111] [.mv 112 (.t 0), .mv 113 (.t 1), .mv 114 (.t 2), .nck 115 (.t 114), .fa 116 (.t 115) 2 1 1, .ld 117 (.t 116) kS, .mv 118 (.t 2), .nck 119 (.t 118), .fa 120 (.t 119) 2 3 3, .ld 121 (.t 120) (kR 0), .cv (some 122) 113 [((.t 113), .v (kL (kR 8))), ((.t 117), .v kS), ((.t 121), .v (kR 0))], .mv 123 (.t 2), .nck 124 (.t 123), .fa 125 (.t 124) 2 5 7, .ld 126 (.t 125) (kL (kR 2)), .ia 127 (.t 126) (.i 0) (kR 2), .ca (some 128) 51 [((.t 112), .v (.ptr (kR 42))), ((.t 122), .v (kL (kR 8))), ((.t 127), .v (.ptr (kR 2)))], .mv 111 (.t 128), .xt 129 (.t 111) 0, .xt 130 (.t 111) 1, .al 13 (kR 0)] 13 (.t 129) (kR 0) [.mv 14 (.t 130)]) (.sq (.dw [] [14] [.mv 131 (.t 2), .nck 132 (.t 131), .fa 133 (.t 132) 2 3 3, .ld 134 (.t 133) (kR 0), .ld 135 (.t 13) (kR 0), .bf 136 (kR 0) [(.t 134), (.t 135)], .bd 137 0 [(0, 1, (.i 5)), (2, 1, (.t 136))], .mv 138 (.t 14)] 6 (.t 137) (kR 0) [.mv 7 (.t 138)]) .rt)) .skip)))))))))))))))) c65_impl_typer_form)
noncomputable def B_impl_typer_of (nf : Nat) : XT := [e_impl_IsValidType nf, e_impl_inCtx nf, e_impl_intType nf, e_impl_boolType nf, e_impl_RowType nf, e_impl_bagType nf, e_impl_with nf, e_impl_typer_plain nf]
noncomputable def G_impl_typer_of (nf : Nat) : Nat → XT
  | 0 => []
  | kf + 1 => [eF 51 [.p (kR 42), .v (kL (kR 8)), .p (kR 2)] [.v (kR 0), .v .bool] (fun t => (fun (y : Typer) (ctx : List Typing) (e : Tm) => runF (G_impl_typer_of nf kf ++ B_impl_typer_of nf) nf [.p (kR 42), .v (kL (kR 8)), .p (kR 2)] [.c 6 (.v (kR 0)), .t 7 (.v .bool)] ir_impl_typer_of (y, ctx, e, ())) t.1 t.2.1 t.2.2.1),
    eF 114 [.p (kR 42), .v (kL (kR 8)), .p (kR 2)] [.s (kR 0), .v .bool] (fun t => (fun (y : Typer) (ctx : List Typing) (e : Tm) => runF (G_impl_typer_of nf kf ++ B_impl_typer_of nf) nf [.p (kR 42), .v (kL (kR 8)), .p (kR 2)] [.t 6 (.s (kR 0)), .t 7 (.v .bool)] ir_impl_typer_all (y, ctx, e, ())) t.1 t.2.1 t.2.2.1),
    eF 84 [.p (kR 42), .v (kL (kR 8)), .p (kR 2)] [.v (kR 0), .v .bool] (fun t => (fun (y : Typer) (ctx : List Typing) (e : Tm) => runF (G_impl_typer_of nf kf ++ B_impl_typer_of nf) nf [.p (kR 42), .v (kL (kR 8)), .p (kR 2)] [.c 6 (.v (kR 0)), .t 7 (.v .bool)] ir_impl_typer_form (y, ctx, e, ())) t.1 t.2.1 t.2.2.1)]
noncomputable abbrev T_impl_typer_of (nf kf : Nat) : XT := G_impl_typer_of nf kf ++ B_impl_typer_of nf
noncomputable abbrev T_impl_typer_all (nf kf : Nat) : XT := G_impl_typer_of nf kf ++ B_impl_typer_of nf
noncomputable abbrev T_impl_typer_form (nf kf : Nat) : XT := G_impl_typer_of nf kf ++ B_impl_typer_of nf
noncomputable def m_impl_typer_of (nf kf : Nat) (y : Typer) (ctx : List Typing) (e : Tm) : Option (Ty × Bool) := runF (T_impl_typer_of nf kf) nf [.p (kR 42), .v (kL (kR 8)), .p (kR 2)] [.c 6 (.v (kR 0)), .t 7 (.v .bool)] ir_impl_typer_of (y, ctx, e, ())
noncomputable def m_impl_typer_all (nf kf : Nat) (y : Typer) (ctx : List Typing) (e : Tm) : Option ((List Ty) × Bool) := runF (T_impl_typer_all nf kf) nf [.p (kR 42), .v (kL (kR 8)), .p (kR 2)] [.t 6 (.s (kR 0)), .t 7 (.v .bool)] ir_impl_typer_all (y, ctx, e, ())
noncomputable def X_impl_typer_all {R : Type} (nf kf : Nat) : C → Env → (Xt → Env → Option R) → Option R := xc (R := R) (T_impl_typer_all nf kf).S nf
noncomputable def m_impl_typer_form (nf kf : Nat) (y : Typer) (ctx : List Typing) (e : Tm) : Option (Ty × Bool) := runF (T_impl_typer_form nf kf) nf [.p (kR 42), .v (kL (kR 8)), .p (kR 2)] [.c 6 (.v (kR 0)), .t 7 (.v .bool)] ir_impl_typer_form (y, ctx, e, ())
noncomputable def X_impl_typer_form {R : Type} (nf kf : Nat) : C → Env → (Xt → Env → Option R) → Option R := xc (R := R) (T_impl_typer_form nf kf).S nf
theorem m_impl_typer_of_eq (nf kf : Nat) (y : Typer) (ctx : List Typing) (e : Tm) : m_impl_typer_of nf (kf + 1) y ctx e = (
  cb (m_impl_typer_form nf kf y ctx e) fun r14 =>
    br (r14.2 == true) (
      cb (m_impl_IsValidType nf (Ty.h r14.1)) fun r21 =>
        some ((Ty.h r14.1), r21)) (
      some ((Ty.h r14.1), false))) := by kernel_rfl
noncomputable def e_impl_typer_of (nf : Nat) : XE := eF 51 [.p (kR 42), .v (kL (kR 8)), .p (kR 2)] [.v (kR 0), .v .bool] (fun t => m_impl_typer_of nf nf t.1 t.2.1 t.2.2.1)
noncomputable def l8_impl_typer_all (nf kf : Nat) (m8 : Nat) (y : Typer) (ctx : List Typing) (e : Tm) (x18_8 : Int) (y8_8 : List Ty) : Option ((List Ty) × Bool) := xit [0, 1, 2, 8, 17, 18] [[8]] (X_impl_typer_all nf kf c9_impl_typer_all) (qB 0 (qS (X_impl_typer_all nf kf c31_impl_typer_all) (KF [.t 6 (.s (kR 0)), .t 7 (.v .bool)]))) m8 ⟨[(0, .v (.ptr (kR 42)) (some y)), (1, .v (kL (kR 8)) ctx), (2, .v (.ptr (kR 2)) (some e)), (8, .sl [8]), (17, .v kI (List.length e.args : Int)), (18, .v kI x18_8)], [([8], .row false false (kR 0) y8_8)]⟩
theorem l8_impl_typer_all_eq (nf kf : Nat) (m8 : Nat) (y : Typer) (ctx : List Typing) (e : Tm) (x18_8 : Int) (y8_8 : List Ty) : l8_impl_typer_all nf (kf + 1) (m8 + 1) y ctx e x18_8 y8_8 = (
  br (decide (x18_8 < (List.length e.args : Int))) (
    gg (0 ≤ x18_8 ∧ x18_8 < (List.length e.args : Int)) <|
      cb (m_impl_typer_of nf kf y ctx (gt e.args x18_8 Tm.zero)) fun r30 =>
        br (!r30.2) (
          some (([] : List Ty), false)) (
          gg (List.length y8_8 + List.length ([(Ty.h r30.1)] : List Ty) ≤ 33554432) <|
            mark (l8_impl_typer_all nf (kf + 1) m8 y ctx e (w64 (x18_8 + (1 : Int))) (y8_8 ++ ([(Ty.h r30.1)] : List Ty))))) (
    some (y8_8, true))) := by kernel_rfl
theorem m_impl_typer_all_eq (nf kf : Nat) (y : Typer) (ctx : List Typing) (e : Tm) : m_impl_typer_all nf (kf + 1) y ctx e = (
  mark (l8_impl_typer_all nf (kf + 1) nf y ctx e (0 : Int) ([] : List Ty))) := by kernel_rfl
noncomputable def j46_impl_typer_form (nf kf : Nat) (y : Typer) (ctx : List Typing) (e : Tm) (r71 : Ty × Bool) (x80_46 : Bool) : Option (Ty × Bool) := X_impl_typer_form nf kf c46_impl_typer_form ⟨[(0, .v (.ptr (kR 42)) (some y)), (1, .v (kL (kR 8)) ctx), (2, .v (.ptr (kR 2)) (some e)), (6, .pt [6] 0), (10, .pt [10] 0), (80, .v .bool x80_46)], [([6], .box [.v kI (0 : Int), .nl kS, .nl (kR 0)]), ([10], .box [.v kI r71.1.kind, .v (kL kS) r71.1.labels, .v (kL (kR 0)) r71.1.args])]⟩ (qS (X_impl_typer_form nf kf c51_impl_typer_form) (qB 0 (qS (X_impl_typer_form nf kf c65_impl_typer_form) (KF [.c 6 (.v (kR 0)), .t 7 (.v .bool)]))))
noncomputable def j55_impl_typer_form (nf kf : Nat) (r99 : Ty × Bool) (x7_55 : Bool) : Option (Ty × Bool) := X_impl_typer_form nf kf c55_impl_typer_form ⟨[(6, .pt [6] 0), (7, .v .bool x7_55)], [([6], .box [.v kI r99.1.kind, .v (kL kS) r99.1.labels, .v (kL (kR 0)) r99.1.args])]⟩ (qB 0 (qS (X_impl_typer_form nf kf c65_impl_typer_form) (KF [.c 6 (.v (kR 0)), .t 7 (.v .bool)])))
theorem j46_impl_typer_form_eq (nf kf : Nat) (y : Typer) (ctx : List Typing) (e : Tm) (r71 : Ty × Bool) (x80_46 : Bool) : j46_impl_typer_form nf (kf + 1) y ctx e r71 x80_46 = (
  br x80_46 (
    some ((Ty.mk (0 : Int) ([] : List Str) ([] : List Ty)), false)) (
    gg (0 ≤ (0 : Int) ∧ (0 : Int) < (List.length r71.1.args : Int)) <|
      cb (m_impl_with nf ctx e.name (gt r71.1.args (0 : Int) Ty.zero)) fun r93 =>
        gg (0 ≤ (1 : Int) ∧ (1 : Int) < (List.length e.args : Int)) <|
          cb (m_impl_typer_of nf kf y r93 (gt e.args (1 : Int) Tm.zero)) fun r99 =>
            br (r99.2 == true) (
              mark (j55_impl_typer_form nf (kf + 1) r99 (r99.1.kind == (4 : Int)))) (
              mark (j55_impl_typer_form nf (kf + 1) r99 false)))) := by
  unfold j46_impl_typer_form j55_impl_typer_form c46_impl_typer_form c65_impl_typer_form c51_impl_typer_form w55_impl_typer_form
  generalize c55_impl_typer_form = x0
  revert x0
  refine id ?_
  intro x0
  kernel_rfl
theorem j55_impl_typer_form_eq (nf kf : Nat) (r99 : Ty × Bool) (x7_55 : Bool) : j55_impl_typer_form nf (kf + 1) r99 x7_55 = (
  some ((Ty.h r99.1), x7_55)) := by kernel_rfl
theorem m_impl_typer_form_eq (nf kf : Nat) (y : Typer) (ctx : List Typing) (e : Tm) : m_impl_typer_form nf (kf + 1) y ctx e = (
  br (e.kind == (1 : Int)) (
    cb (m_impl_inCtx nf ctx e.name) fun r28 =>
      some ((Ty.h r28.1), r28.2)) (
    br (e.kind == (2 : Int)) (
      cb (m_impl_intType nf) fun r33 =>
        some ((Ty.h r33), true)) (
      br (e.kind == (3 : Int)) (
        cb (m_impl_boolType nf) fun r36 =>
          some ((Ty.h r36), true)) (
        br (e.kind == (12 : Int)) (
          cb (m_impl_RowType nf y.s e.name) fun r48 =>
            cb (m_impl_bagType nf (Ty.h r48.1)) fun r52 =>
              some ((Ty.h r52), r48.2)) (
          br (e.kind == (7 : Int)) (
            cb (m_impl_bagType nf e.type) fun r60 =>
              some ((Ty.h r60), true)) (
            br (e.kind == (10 : Int)) (
              gg (0 ≤ (0 : Int) ∧ (0 : Int) < (List.length e.args : Int)) <|
                cb (m_impl_typer_of nf kf y ctx (gt e.args (0 : Int) Tm.zero)) fun r71 =>
                  br ((!r71.2) == false) (
                    mark (j46_impl_typer_form nf (kf + 1) y ctx e r71 (!(r71.1.kind == (4 : Int))))) (
                    mark (j46_impl_typer_form nf (kf + 1) y ctx e r71 true))) (
              br (e.kind == (13 : Int)) (
                cb (m_impl_with nf ctx e.name e.type) fun r122 =>
                  gg (0 ≤ (0 : Int) ∧ (0 : Int) < (List.length e.args : Int)) <|
                    cb (m_impl_typer_of nf kf y r122 (gt e.args (0 : Int) Tm.zero)) fun r128 =>
                      some ((Ty.mk (5 : Int) ([] : List Str) ([e.type, (Ty.h r128.1)] : List Ty)), r128.2)) (
                cb (m_impl_typer_all nf kf y ctx e) fun r143 =>
                  br (!r143.2) (
                    some ((Ty.mk (0 : Int) ([] : List Str) ([] : List Ty)), false)) (
                    cb (m_impl_typer_plain nf y e r143.1) fun r152 =>
                      some ((Ty.h r152.1), r152.2)))))))))) := by
  unfold m_impl_typer_form j46_impl_typer_form ir_impl_typer_form w46_impl_typer_form c51_impl_typer_form c65_impl_typer_form w55_impl_typer_form
  generalize c46_impl_typer_form = x0
  generalize c55_impl_typer_form = x1
  revert x0 x1
  refine id ?_
  intro x0 x1
  kernel_rfl
theorem gok_impl_typer_of (nf : Nat) : ∀ kf : Nat, XT.ok Tryz.prog (G_impl_typer_of nf kf ++ B_impl_typer_of nf)
  | 0 => by exact ⟨o_impl_IsValidType nf, o_impl_inCtx nf, o_impl_intType nf, o_impl_boolType nf, o_impl_RowType nf, o_impl_bagType nf, o_impl_with nf, o_impl_typer_plain nf, trivial⟩
  | kf + 1 => by
    have ih := gok_impl_typer_of nf kf
    refine ⟨?_, ?_, ?_, (by exact ⟨o_impl_IsValidType nf, o_impl_inCtx nf, o_impl_intType nf, o_impl_boolType nf, o_impl_RowType nf, o_impl_bagType nf, o_impl_with nf, o_impl_typer_plain nf, trivial⟩)⟩
    · refine eF_ok fun t x h => ?_
      obtain ⟨y, ctx, e, _⟩ := t
      exact runF_ok (N := 23) ih Tryz.func51 (by kernel_rfl) rfl h
    · refine eF_ok fun t x h => ?_
      obtain ⟨y, ctx, e, _⟩ := t
      exact runF_ok (N := 41) ih Tryz.func114 (by kernel_rfl) rfl h
    · refine eF_ok fun t x h => ?_
      obtain ⟨y, ctx, e, _⟩ := t
      exact runF_ok (N := 155) ih Tryz.func84 (by kernel_rfl) rfl h
theorem o_impl_typer_of (nf : Nat) : conOK Tryz.prog 51 (e_impl_typer_of nf).con := by
  have ih := gok_impl_typer_of nf nf
  refine eF_ok fun t x h => ?_
  obtain ⟨y, ctx, e, _⟩ := t
  exact runF_ok (N := 23) ih Tryz.func51 (by kernel_rfl) rfl h
def c10_impl_TypeOf : C := .sq (.rg [.ld 25 (.t 3) (kR 5), .bd 26 42 [(0, 1, (.t 25))], .al 8 (kR 42), .st (.t 8) (.t 26) (kR 42)]) (.sq (.gz 8 (.ptr (kR 42)) (.rg [.mv 28 (.t 1), .ca (some 29) 51 [((.t 8), .v (.ptr (kR 42))), ((.t 28), .v (kL (kR 8))), ((.t 5), .v (.ptr (kR 2)))], .mv 27 (.t 29), .xt 30 (.t 27) 0, .xt 31 (.t 27) 1, .al 9 (kR 0), .st (.t 9) (.t 30) (kR 0), .mv 10 (.t 31)])) (.sq (.sq (.rg [.mv 32 (.t 10), .un 33 .not (.t 32)]) (.cd (.t 33) (.sq (.rg [.bd 34 0 [], .st (.t 6) (.t 34) (kR 0), .mv 7 (.b false)]) .rt) .skip)) (.sq (.rg [.ld 35 (.t 9) (kR 0), .ca (some 36) 52 [((.t 35), .v (kR 0))], .st (.t 6) (.t 36) (kR 0), .mv 7 (.b true)]) .rt)))
def c5_impl_TypeOf : C := .cd (.t 23) (.sq (.rg [.bd 24 0 [], .st (.t 6) (.t 24) (kR 0), .mv 7 (.b false)]) .rt) .skip
def w5_impl_TypeOf : C := .kp [1, 3, 5, 6, 23] [[3], [6]] c5_impl_TypeOf
def ir_impl_TypeOf : C := .sq (.rg [.bx 3 (.t 0) (kR 5), .bz 5 (.t 2) (kR 2), .al 6 (kR 0), .mv 7 (.b false)]) (.sq (.sq (.rg [.ld 11 (.t 3) (kR 5), .cv (some 12) 48 [((.t 11), .v (kR 5))], .un 13 .not (.t 12), .mv 14 (.t 13), .g 14 false (.mv 15 (.t 1)), .g 14 false (.cv (some 16) 49 [((.t 15), .v (kL (kR 8)))]), .g 14 false (.un 17 .not (.t 16)), .pk 18 (.t 14) (.b true) (.t 17), .mv 19 (.t 18), .g 19 false (.ld 20 (.t 5) (kR 2)), .g 19 false (.cv (some 21) 50 [((.t 20), .v (kR 2))]), .g 19 false (.un 22 .not (.t 21)), .pk 23 (.t 19) (.b true) (.t 22)]) w5_impl_TypeOf) c10_impl_TypeOf)
noncomputable abbrev T_impl_TypeOf (nf : Nat) : XT := [e_impl_IsSchema nf, e_impl_IsCtx nf, e_impl_IsValidTerm nf, e_impl_typer_of nf, e_impl_cloneType nf]
noncomputable def m_impl_TypeOf (nf : Nat) (s : Schema) (ctx : List Typing) (e : Tm) : Option (Ty × Bool) := runF (T_impl_TypeOf nf) nf [.v (kR 5), .v (kL (kR 8)), .v (kR 2)] [.c 6 (.o (kR 0)), .t 7 (.v .bool)] ir_impl_TypeOf (s, ctx, e, ())
noncomputable def X_impl_TypeOf {R : Type} (nf : Nat) : C → Env → (Xt → Env → Option R) → Option R := xc (R := R) (T_impl_TypeOf nf).S nf
noncomputable def j5_impl_TypeOf (nf : Nat) (ctx : List Typing) (e : Tm) (s : Schema) (x23_5 : Bool) : Option (Ty × Bool) := X_impl_TypeOf nf c5_impl_TypeOf ⟨[(1, .v (kL (kR 8)) ctx), (3, .pt [3] 0), (5, .v (.ptr (kR 2)) (some e)), (6, .pt [6] 0), (23, .v .bool x23_5)], [([3], .box [.v (kL (kR 4)) s.tables]), ([6], .box [.v kI (0 : Int), .nl kS, .nl (kR 0)])]⟩ (qS (X_impl_TypeOf nf c10_impl_TypeOf) (KF [.c 6 (.o (kR 0)), .t 7 (.v .bool)]))
theorem j5_impl_TypeOf_eq (nf : Nat) (ctx : List Typing) (e : Tm) (s : Schema) (x23_5 : Bool) : j5_impl_TypeOf nf ctx e s x23_5 = (
  br x23_5 (
    some ((Ty.mk (0 : Int) ([] : List Str) ([] : List Ty)), false)) (
    cb (m_impl_typer_of nf nf (Typer.mk s) ctx e) fun r29 =>
      br (!r29.2) (
        some ((Ty.mk (0 : Int) ([] : List Str) ([] : List Ty)), false)) (
        cb (m_impl_cloneType nf nf (Ty.h r29.1)) fun r36 =>
          some ((Ty.h r36), true)))) := by kernel_rfl
theorem m_impl_TypeOf_eq (nf : Nat) (s : Schema) (ctx : List Typing) (e : Tm) : m_impl_TypeOf nf s ctx e = (
  cb (m_impl_IsSchema nf s) fun r12 =>
    br ((!r12) == false) (
      cb (m_impl_IsCtx nf ctx) fun r16 =>
        br ((!r16) == false) (
          cb (m_impl_IsValidTerm nf e) fun r21 =>
            mark (j5_impl_TypeOf nf ctx e s (!r21))) (
          mark (j5_impl_TypeOf nf ctx e s true))) (
      mark (j5_impl_TypeOf nf ctx e s true))) := by
  unfold m_impl_TypeOf j5_impl_TypeOf ir_impl_TypeOf w5_impl_TypeOf c10_impl_TypeOf
  generalize c5_impl_TypeOf = x0
  revert x0
  refine id ?_
  intro x0
  kernel_rfl
noncomputable def e_impl_TypeOf (nf : Nat) : XE := eF 19 [.v (kR 5), .v (kL (kR 8)), .v (kR 2)] [.o (kR 0), .v .bool] (fun t => m_impl_TypeOf nf t.1 t.2.1 t.2.2.1)
theorem o_impl_TypeOf (nf : Nat) : conOK Tryz.prog 19 (e_impl_TypeOf nf).con := by
  have ih : XT.ok Tryz.prog (T_impl_TypeOf nf) := by exact ⟨o_impl_IsSchema nf, o_impl_IsCtx nf, o_impl_IsValidTerm nf, o_impl_typer_of nf, o_impl_cloneType nf, trivial⟩
  refine eF_ok fun t x h => ?_
  obtain ⟨s, ctx, e, _⟩ := t
  exact runF_ok (N := 37) ih Tryz.func19 (by kernel_rfl) rfl h
def ir_impl_queryType : C := .sq (.rg [.bx 2 (.t 0) (kR 5), .bx 3 (.t 1) (kR 2), .al 4 (kR 0), .mv 5 (.b false)]) (.sq (.rg [.ld 9 (.t 2) (kR 5), .ld 10 (.t 3) (kR 2), .ca (some 11) 19 [((.t 9), .v (kR 5)), ((.nl (kR 8)), .v (kL (kR 8))), ((.t 10), .v (kR 2))], .mv 8 (.t 11), .xt 12 (.t 8) 0, .xt 13 (.t 8) 1, .al 6 (kR 0), .st (.t 6) (.t 12) (kR 0), .mv 7 (.t 13)]) (.sq (.dw [] [21, 23] [.ld 14 (.t 6) (kR 0), .mv 15 (.t 7), .mv 16 (.t 15), .g 16 true (.fa 17 (.t 6) 0 0 0), .g 16 true (.ld 18 (.t 17) kI), .g 16 true (.bi 19 .eql (.t 18) (.i 4)), .pk 20 (.t 16) (.t 19) (.b false), .mv 21 (.t 20), .g 21 true (.ld 22 (.t 6) (kR 0)), .g 21 true (.cv (some 23) 68 [((.t 22), .v (kR 0))]), .pk 24 (.t 21) (.t 23) (.b false)] 4 (.t 14) (kR 0) [.mv 5 (.t 24)]) .rt))
noncomputable abbrev T_impl_queryType (nf : Nat) : XT := [e_impl_TypeOf nf, e_impl_IsData nf]
noncomputable def m_impl_queryType (nf : Nat) (s : Schema) (e : Tm) : Option (Ty × Bool) := runF (T_impl_queryType nf) nf [.v (kR 5), .v (kR 2)] [.c 4 (.o (kR 0)), .t 5 (.v .bool)] ir_impl_queryType (s, e, ())
theorem m_impl_queryType_eq (nf : Nat) (s : Schema) (e : Tm) : m_impl_queryType nf s e = (
  cb (m_impl_TypeOf nf s ([] : List Typing) (Tm.h e)) fun r11 =>
    br (r11.2 == true) (
      br ((r11.1.kind == (4 : Int)) == true) (
        cb (m_impl_IsData nf (Ty.h r11.1)) fun r23 =>
          some ((Ty.h r11.1), r23)) (
        some ((Ty.h r11.1), false))) (
      some ((Ty.h r11.1), false))) := by kernel_rfl
noncomputable def e_impl_queryType (nf : Nat) : XE := eF 36 [.v (kR 5), .v (kR 2)] [.o (kR 0), .v .bool] (fun t => m_impl_queryType nf t.1 t.2.1)
theorem o_impl_queryType (nf : Nat) : conOK Tryz.prog 36 (e_impl_queryType nf).con := by
  have ih : XT.ok Tryz.prog (T_impl_queryType nf) := by exact ⟨o_impl_TypeOf nf, o_impl_IsData nf, trivial⟩
  refine eF_ok fun t x h => ?_
  obtain ⟨s, e, _⟩ := t
  exact runF_ok (N := 25) ih Tryz.func36 (by kernel_rfl) rfl h
def c27_impl_CountBags : C := .sq (.rg [.mv 21 (.t 3), .mv 2 (.t 21)]) .rt
def c15_impl_CountBags : C := .sq (.rg [.bi 13 .lss (.t 12) (.t 11)]) (.sq (.cd (.t 13) .skip (.ex 0)) (.sq (.bk 1 (.sq (.rg [.ia 14 (.t 10) (.t 12) (kR 0), .ld 15 (.t 14) (kR 0), .al 5 (kR 0), .st (.t 5) (.t 15) (kR 0)]) (.rg [.mv 16 (.t 3), .ld 17 (.t 5) (kR 0), .cv (some 18) 41 [((.t 17), .v (kR 0))], .bi 19 .add (.t 16) (.t 18), .mv 3 (.t 19)]))) (.rg [.bi 20 .add (.t 12) (.i 1), .mv 12 (.t 20)])))
def c10_impl_CountBags : C := .sq (.sq (.rg [.fa 9 (.t 1) 0 2 2, .ld 10 (.t 9) (kL (kR 0)), .ln 11 false (.t 10), .mv 12 (.i 0)]) (.bk 0 (.lk [3, 10, 11, 12] [] c15_impl_CountBags))) c27_impl_CountBags
def w10_impl_CountBags : C := .kp [1, 3] [[1]] c10_impl_CountBags
def ir_impl_CountBags : C := .sq (.rg [.bx 1 (.t 0) (kR 0), .mv 2 (.i 0)]) (.sq (.rg [.mv 3 (.i 0)]) (.sq (.sq (.rg [.fa 6 (.t 1) 0 0 0, .ld 7 (.t 6) kI, .bi 8 .eql (.t 7) (.i 4)]) (.cd (.t 8) (.rg [.mv 3 (.i 1)]) .skip)) w10_impl_CountBags))
noncomputable def B_impl_CountBags (nf : Nat) : XT := []
noncomputable def G_impl_CountBags (nf : Nat) : Nat → XT
  | 0 => []
  | kf + 1 => [eF 41 [.v (kR 0)] [.v kI] (fun t => (fun (t : Ty) => runF (G_impl_CountBags nf kf ++ B_impl_CountBags nf) nf [.v (kR 0)] [.t 2 (.v kI)] ir_impl_CountBags (t, ())) t.1)]
noncomputable abbrev T_impl_CountBags (nf kf : Nat) : XT := G_impl_CountBags nf kf ++ B_impl_CountBags nf
noncomputable def m_impl_CountBags (nf kf : Nat) (t : Ty) : Option (Int) := runF (T_impl_CountBags nf kf) nf [.v (kR 0)] [.t 2 (.v kI)] ir_impl_CountBags (t, ())
noncomputable def X_impl_CountBags {R : Type} (nf kf : Nat) : C → Env → (Xt → Env → Option R) → Option R := xc (R := R) (T_impl_CountBags nf kf).S nf
noncomputable def l14_impl_CountBags (nf kf : Nat) (m14 : Nat) (t : Ty) (x3_14 : Int) (x12_14 : Int) : Option (Int) := xit [3, 10, 11, 12] [] (X_impl_CountBags nf kf c15_impl_CountBags) (qB 0 (qS (X_impl_CountBags nf kf c27_impl_CountBags) (KF [.t 2 (.v kI)]))) m14 ⟨[(3, .v kI x3_14), (10, .v (kL (kR 0)) t.args), (11, .v kI (List.length t.args : Int)), (12, .v kI x12_14)], []⟩
noncomputable def j10_impl_CountBags (nf kf : Nat) (t : Ty) (x3_10 : Int) : Option (Int) := X_impl_CountBags nf kf c10_impl_CountBags ⟨[(1, .pt [1] 0), (3, .v kI x3_10)], [([1], .box [.v kI t.kind, .v (kL kS) t.labels, .v (kL (kR 0)) t.args])]⟩ (KF [.t 2 (.v kI)])
theorem l14_impl_CountBags_eq (nf kf : Nat) (m14 : Nat) (t : Ty) (x3_14 : Int) (x12_14 : Int) : l14_impl_CountBags nf (kf + 1) (m14 + 1) t x3_14 x12_14 = (
  br (decide (x12_14 < (List.length t.args : Int))) (
    gg (0 ≤ x12_14 ∧ x12_14 < (List.length t.args : Int)) <|
      cb (m_impl_CountBags nf kf (Ty.h (gt t.args x12_14 Ty.zero))) fun r18 =>
        mark (l14_impl_CountBags nf (kf + 1) m14 t (w64 (x3_14 + r18)) (w64 (x12_14 + (1 : Int))))) (
    some x3_14)) := by kernel_rfl
theorem j10_impl_CountBags_eq (nf kf : Nat) (t : Ty) (x3_10 : Int) : j10_impl_CountBags nf (kf + 1) t x3_10 = (
  mark (l14_impl_CountBags nf (kf + 1) nf t x3_10 (0 : Int))) := by kernel_rfl
theorem m_impl_CountBags_eq (nf kf : Nat) (t : Ty) : m_impl_CountBags nf (kf + 1) t = (
  br (t.kind == (4 : Int)) (
    mark (j10_impl_CountBags nf (kf + 1) t (1 : Int))) (
    mark (j10_impl_CountBags nf (kf + 1) t (0 : Int)))) := by
  unfold m_impl_CountBags j10_impl_CountBags ir_impl_CountBags w10_impl_CountBags
  generalize c10_impl_CountBags = x0
  revert x0
  refine id ?_
  intro x0
  kernel_rfl
noncomputable def e_impl_CountBags (nf : Nat) : XE := eF 41 [.v (kR 0)] [.v kI] (fun t => m_impl_CountBags nf nf t.1)
theorem gok_impl_CountBags (nf : Nat) : ∀ kf : Nat, XT.ok Tryz.prog (G_impl_CountBags nf kf ++ B_impl_CountBags nf)
  | 0 => by exact trivial
  | kf + 1 => by
    have ih := gok_impl_CountBags nf kf
    refine ⟨?_, (by exact trivial)⟩
    · refine eF_ok fun t x h => ?_
      obtain ⟨t, _⟩ := t
      exact runF_ok (N := 22) ih Tryz.func41 (by kernel_rfl) rfl h
theorem o_impl_CountBags (nf : Nat) : conOK Tryz.prog 41 (e_impl_CountBags nf).con := by
  have ih := gok_impl_CountBags nf nf
  refine eF_ok fun t x h => ?_
  obtain ⟨t, _⟩ := t
  exact runF_ok (N := 22) ih Tryz.func41 (by kernel_rfl) rfl h
def ir_impl_CountQueries : C := .sq (.rg [.bx 2 (.t 0) (kR 5), .bx 3 (.t 1) (kR 2), .mv 4 (.i 0)]) (.sq (.rg [.ld 8 (.t 2) (kR 5), .ld 9 (.t 3) (kR 2), .ca (some 10) 36 [((.t 8), .v (kR 5)), ((.t 9), .v (kR 2))], .mv 7 (.t 10), .xt 11 (.t 7) 0, .xt 12 (.t 7) 1, .al 5 (kR 0), .st (.t 5) (.t 11) (kR 0), .mv 6 (.t 12)]) (.sq (.sq (.rg [.mv 13 (.t 6), .un 14 .not (.t 13)]) (.cd (.t 14) (.sq (.rg [.mv 4 (.i (-1))]) .rt) .skip)) (.sq (.rg [.ld 15 (.t 5) (kR 0), .cv (some 16) 41 [((.t 15), .v (kR 0))], .mv 4 (.t 16)]) .rt)))
noncomputable abbrev T_impl_CountQueries (nf : Nat) : XT := [e_impl_queryType nf, e_impl_CountBags nf]
noncomputable def m_impl_CountQueries (nf : Nat) (s : Schema) (e : Tm) : Option (Int) := runF (T_impl_CountQueries nf) nf [.v (kR 5), .v (kR 2)] [.t 4 (.v kI)] ir_impl_CountQueries (s, e, ())
theorem m_impl_CountQueries_eq (nf : Nat) (s : Schema) (e : Tm) : m_impl_CountQueries nf s e = (
  cb (m_impl_queryType nf s (Tm.h e)) fun r10 =>
    br (!r10.2) (
      some (-1 : Int)) (
      cb (m_impl_CountBags nf nf (Ty.h r10.1)) fun r16 =>
        some r16)) := by kernel_rfl
noncomputable def e_impl_CountQueries (nf : Nat) : XE := eF 15 [.v (kR 5), .v (kR 2)] [.v kI] (fun t => m_impl_CountQueries nf t.1 t.2.1)
theorem o_impl_CountQueries (nf : Nat) : conOK Tryz.prog 15 (e_impl_CountQueries nf).con := by
  have ih : XT.ok Tryz.prog (T_impl_CountQueries nf) := by exact ⟨o_impl_queryType nf, o_impl_CountBags nf, trivial⟩
  refine eF_ok fun t x h => ?_
  obtain ⟨s, e, _⟩ := t
  exact runF_ok (N := 17) ih Tryz.func15 (by kernel_rfl) rfl h
end Go.Q
