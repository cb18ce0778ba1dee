import Derived.Test.YtabfgfbmfmpdnaaDoorA5
import Derived.Test.YtabfgfbmfmpdnaaDoorIt
import Derived.Test.YtabfgfbmfmpdnaaDoorQe
import Derived.Test.YtabfgfbmfmpdnaaDoorProg
import Derived.KernelRfl
set_option linter.unusedVariables false
set_option linter.unusedSimpArgs false
namespace Go.Q
open Go.Proofs
set_option linter.unusedVariables false
set_option maxRecDepth 20000
set_option maxHeartbeats 4000000
def ir_impl_FormatInt : C := .sq (.rg [.mv 2 (.s [])]) (.sq (.rg [.mv 3 (.t 0), .cv (some 4) 40 [((.t 3), .v kI)], .mv 2 (.t 4)]) .rt)
noncomputable abbrev T_impl_FormatInt (nf : Nat) : XT := [e_strconv_Itoa nf]
noncomputable def m_impl_FormatInt (nf : Nat) (n : Int) : Option (Str) := runF (T_impl_FormatInt nf) nf [.v kI] [.t 2 (.v kS)] ir_impl_FormatInt (n, ())
theorem m_impl_FormatInt_eq (nf : Nat) (n : Int) : m_impl_FormatInt nf n = (
  cb (m_strconv_Itoa nf n) fun r4 =>
    some r4) := by kernel_rfl
noncomputable def e_impl_FormatInt (nf : Nat) : XE := eF 25 [.v kI] [.v kS] (fun t => m_impl_FormatInt nf t.1)
theorem o_impl_FormatInt (nf : Nat) : conOK Tryd.prog 25 (e_impl_FormatInt nf).con := by
  have ih : XT.ok Tryd.prog (T_impl_FormatInt nf) := by exact ⟨o_strconv_Itoa nf, trivial⟩
  refine eF_ok fun t x h => ?_
  obtain ⟨n, _⟩ := t
  exact runF_ok (N := 5) ih Tryd.func25 (by kernel_rfl) rfl h
def c21_impl_KeyText : C := .sq (.rg [.mv 22 (.t 3), .mv 2 (.t 22)]) .rt
def c9_impl_KeyText : C := .sq (.rg [.bi 13 .lss (.t 12) (.t 11)]) (.sq (.cd (.t 13) .skip (.ex 0)) (.sq (.bk 1 (.sq (.rg [.ia 14 (.t 10) (.t 12) kI, .ld 15 (.t 14) kI, .mv 5 (.t 15)]) (.rg [.mv 16 (.t 3), .mv 17 (.t 5), .cv (some 18) 25 [((.t 17), .v kI)], .bi 19 .add (.s [46]) (.t 18), .bi 20 .add (.t 16) (.t 19), .mv 3 (.t 20)]))) (.rg [.bi 21 .add (.t 12) (.i 1), .mv 12 (.t 21)])))
def ir_impl_KeyText : C := .sq (.rg [.bx 1 (.t 0) (kR 14), .mv 2 (.s [])]) (.sq (.rg [.fa 6 (.t 1) 14 0 0, .ld 7 (.t 6) kI, .cv (some 8) 25 [((.t 7), .v kI)], .mv 3 (.t 8)]) (.sq (.sq (.rg [.fa 9 (.t 1) 14 1 1, .ld 10 (.t 9) (kL kI), .ln 11 false (.t 10), .mv 12 (.i 0)]) (.bk 0 (.lk [3, 10, 11, 12] [] c9_impl_KeyText))) c21_impl_KeyText))
noncomputable abbrev T_impl_KeyText (nf : Nat) : XT := [e_impl_FormatInt nf]
noncomputable def m_impl_KeyText (nf : Nat) (x : Key) : Option (Str) := runF (T_impl_KeyText nf) nf [.v (kR 14)] [.t 2 (.v kS)] ir_impl_KeyText (x, ())
noncomputable def X_impl_KeyText {R : Type} (nf : Nat) : C → Env → (Xt → Env → Option R) → Option R := xc (R := R) (T_impl_KeyText nf).S nf
noncomputable def l8_impl_KeyText (nf : Nat) (m8 : Nat) (x : Key) (x3_8 : Str) (x12_8 : Int) : Option (Str) := xit [3, 10, 11, 12] [] (X_impl_KeyText nf c9_impl_KeyText) (qB 0 (qS (X_impl_KeyText nf c21_impl_KeyText) (KF [.t 2 (.v kS)]))) m8 ⟨[(3, .v kS x3_8), (10, .v (kL kI) x.rows), (11, .v kI (List.length x.rows : Int)), (12, .v kI x12_8)], []⟩
theorem l8_impl_KeyText_eq (nf : Nat) (m8 : Nat) (x : Key) (x3_8 : Str) (x12_8 : Int) : l8_impl_KeyText nf (m8 + 1) x x3_8 x12_8 = (
  br (decide (x12_8 < (List.length x.rows : Int))) (
    gg (0 ≤ x12_8 ∧ x12_8 < (List.length x.rows : Int)) <|
      cb (m_impl_FormatInt nf (gt x.rows x12_8 (0 : Int))) fun r18 =>
        gg (List.length ([46] : Str) + List.length r18 ≤ 9223372036854775807) <|
          gg (List.length x3_8 + List.length (([46] : Str) ++ r18) ≤ 9223372036854775807) <|
            mark (l8_impl_KeyText nf m8 x (x3_8 ++ (([46] : Str) ++ r18)) (w64 (x12_8 + (1 : Int))))) (
    some x3_8)) := by kernel_rfl
theorem m_impl_KeyText_eq (nf : Nat) (x : Key) : m_impl_KeyText nf x = (
  cb (m_impl_FormatInt nf x.tag) fun r8 =>
    mark (l8_impl_KeyText nf nf x r8 (0 : Int))) := by kernel_rfl
noncomputable def e_impl_KeyText (nf : Nat) : XE := eF 9 [.v (kR 14)] [.v kS] (fun t => m_impl_KeyText nf t.1)
theorem o_impl_KeyText (nf : Nat) : conOK Tryd.prog 9 (e_impl_KeyText nf).con := by
  have ih : XT.ok Tryd.prog (T_impl_KeyText nf) := by exact ⟨o_impl_FormatInt nf, trivial⟩
  refine eF_ok fun t x h => ?_
  obtain ⟨x, _⟩ := t
  exact runF_ok (N := 23) ih Tryd.func9 (by kernel_rfl) rfl h
def c33_slices_Equal_int_int : C := .sq (.rg [.mv 4 (.b true)]) .rt
def c15_slices_Equal_int_int : C := .sq (.rg [.bi 14 .lss (.t 13) (.t 12)]) (.sq (.cd (.t 14) .skip (.ex 0)) (.sq (.bk 1 (.sq (.rg [.mv 15 (.t 13), .mv 5 (.t 15)]) (.sq (.dr [] [.mv 16 (.t 0), .mv 17 (.t 5), .ia 18 (.t 16) (.t 17) kI, .ld 19 (.t 18) kI, .mv 20 (.t 1), .mv 21 (.t 5), .ia 22 (.t 20) (.t 21) kI, .ld 23 (.t 22) kI] [.bi 24 .neq (.t 19) (.t 23)]) (.cd (.t 24) (.sq (.rg [.mv 4 (.b false)]) .rt) .skip)))) (.rg [.bi 25 .add (.t 13) (.i 1), .mv 13 (.t 25)])))
def ir_slices_Equal_int_int : C := .sq (.rg [.mv 4 (.b false)]) (.sq (.sq (.rg [.mv 6 (.t 0), .ln 7 false (.t 6), .mv 8 (.t 1), .ln 9 false (.t 8), .bi 10 .neq (.t 7) (.t 9)]) (.cd (.t 10) (.sq (.rg [.mv 4 (.b false)]) .rt) .skip)) (.sq (.sq (.rg [.mv 11 (.t 0), .ln 12 false (.t 11), .mv 13 (.i 0)]) (.bk 0 (.lk [0, 1, 12, 13] [] c15_slices_Equal_int_int))) c33_slices_Equal_int_int))
noncomputable abbrev T_slices_Equal_int_int (nf : Nat) : XT := []
noncomputable def m_slices_Equal_int_int (nf : Nat) (s1 : List Int) (s2 : List Int) : Option (Bool) := runF (T_slices_Equal_int_int nf) nf [.v (kL kI), .v (kL kI)] [.t 4 (.v .bool)] ir_slices_Equal_int_int (s1, s2, ())
noncomputable def X_slices_Equal_int_int {R : Type} (nf : Nat) : C → Env → (Xt → Env → Option R) → Option R := xc (R := R) (T_slices_Equal_int_int nf).S nf
noncomputable def l14_slices_Equal_int_int (nf : Nat) (m14 : Nat) (s1 : List Int) (s2 : List Int) (x13_14 : Int) : Option (Bool) := xit [0, 1, 12, 13] [] (X_slices_Equal_int_int nf c15_slices_Equal_int_int) (qB 0 (qS (X_slices_Equal_int_int nf c33_slices_Equal_int_int) (KF [.t 4 (.v .bool)]))) m14 ⟨[(0, .v (kL kI) s1), (1, .v (kL kI) s2), (12, .v kI (List.length s1 : Int)), (13, .v kI x13_14)], []⟩
theorem l14_slices_Equal_int_int_eq (nf : Nat) (m14 : Nat) (s1 : List Int) (s2 : List Int) (x13_14 : Int) : l14_slices_Equal_int_int nf (m14 + 1) s1 s2 x13_14 = (
  br (decide (x13_14 < (List.length s1 : Int))) (
    gg (0 ≤ x13_14 ∧ x13_14 < (List.length s1 : Int)) <|
      gg (0 ≤ x13_14 ∧ x13_14 < (List.length s2 : Int)) <|
        br (!((gt s1 x13_14 (0 : Int)) == (gt s2 x13_14 (0 : Int)))) (
          some false) (
          mark (l14_slices_Equal_int_int nf m14 s1 s2 (w64 (x13_14 + (1 : Int)))))) (
    some true)) := by kernel_rfl
theorem m_slices_Equal_int_int_eq (nf : Nat) (s1 : List Int) (s2 : List Int) : m_slices_Equal_int_int nf s1 s2 = (
  br (!((List.length s1 : Int) == (List.length s2 : Int))) (
    some false) (
    mark (l14_slices_Equal_int_int nf nf s1 s2 (0 : Int)))) := by kernel_rfl
noncomputable def e_slices_Equal_int_int (nf : Nat) : XE := eF 56 [.v (kL kI), .v (kL kI)] [.v .bool] (fun t => m_slices_Equal_int_int nf t.1 t.2.1)
theorem o_slices_Equal_int_int (nf : Nat) : conOK Tryd.prog 56 (e_slices_Equal_int_int nf).con := by
  have ih : XT.ok Tryd.prog (T_slices_Equal_int_int nf) := by exact trivial
  refine eF_ok fun t x h => ?_
  obtain ⟨s1, s2, _⟩ := t
  exact runF_ok (N := 26) ih Tryd.func56 (by kernel_rfl) rfl h
def c31_spec_EqualKey : C := .sq (.rg [.mv 4 (.b true)]) .rt
def c15_spec_EqualKey : C := .sq (.sq (.rg [.mv 20 (.t 5), .fa 21 (.t 2) 14 1 1, .ld 22 (.t 21) (kL kI), .ln 23 false (.t 22), .bi 24 .lss (.t 20) (.t 23)]) (.cd (.t 24) .skip (.ex 0))) (.sq (.bk 1 (.sq (.dr [] [.fa 27 (.t 2) 14 1 1, .ld 28 (.t 27) (kL kI), .mv 29 (.t 5), .ia 30 (.t 28) (.t 29) kI, .ld 31 (.t 30) kI, .fa 32 (.t 3) 14 1 1, .ld 33 (.t 32) (kL kI), .mv 34 (.t 5), .ia 35 (.t 33) (.t 34) kI, .ld 36 (.t 35) kI] [.bi 37 .neq (.t 31) (.t 36)]) (.cd (.t 37) (.sq (.rg [.mv 4 (.b false)]) .rt) .skip))) (.rg [.mv 25 (.t 5), .bi 26 .add (.t 25) (.i 1), .mv 5 (.t 26)]))
def c10_spec_EqualKey : C := .sq (.sq (.rg [.mv 5 (.i 0)]) (.bk 0 (.lk [2, 3, 5] [[2], [3]] c15_spec_EqualKey))) c31_spec_EqualKey
def c5_spec_EqualKey : C := .cd (.t 19) (.sq (.rg [.mv 4 (.b false)]) .rt) .skip
def w5_spec_EqualKey : C := .kp [2, 3, 19] [[2], [3]] c5_spec_EqualKey
def ir_spec_EqualKey : C := .sq (.rg [.bx 2 (.t 0) (kR 14), .bx 3 (.t 1) (kR 14), .mv 4 (.b false)]) (.sq (.sq (.rg [.fa 6 (.t 2) 14 0 0, .ld 7 (.t 6) kI, .fa 8 (.t 3) 14 0 0, .ld 9 (.t 8) kI, .bi 10 .neq (.t 7) (.t 9), .mv 11 (.t 10), .g 11 false (.fa 12 (.t 2) 14 1 1), .g 11 false (.ld 13 (.t 12) (kL kI)), .g 11 false (.ln 14 false (.t 13)), .g 11 false (.fa 15 (.t 3) 14 1 1), .g 11 false (.ld 16 (.t 15) (kL kI)), .g 11 false (.ln 17 false (.t 16)), .g 11 false (.bi 18 .neq (.t 14) (.t 17)), .pk 19 (.t 11) (.b true) (.t 18)]) w5_spec_EqualKey) c10_spec_EqualKey)
noncomputable abbrev T_spec_EqualKey (nf : Nat) : XT := []
noncomputable def m_spec_EqualKey (nf : Nat) (a : Key) (b : Key) : Option (Bool) := runF (T_spec_EqualKey nf) nf [.v (kR 14), .v (kR 14)] [.t 4 (.v .bool)] ir_spec_EqualKey (a, b, ())
noncomputable def X_spec_EqualKey {R : Type} (nf : Nat) : C → Env → (Xt → Env → Option R) → Option R := xc (R := R) (T_spec_EqualKey nf).S nf
noncomputable def j5_spec_EqualKey (nf : Nat) (a : Key) (b : Key) (x19_5 : Bool) : Option (Bool) := X_spec_EqualKey nf c5_spec_EqualKey ⟨[(2, .pt [2] 0), (3, .pt [3] 0), (19, .v .bool x19_5)], [([2], .box [.v kI a.tag, .v (kL kI) a.rows]), ([3], .box [.v kI b.tag, .v (kL kI) b.rows])]⟩ (qS (X_spec_EqualKey nf c10_spec_EqualKey) (KF [.t 4 (.v .bool)]))
noncomputable def l14_spec_EqualKey (nf : Nat) (m14 : Nat) (a : Key) (b : Key) (x5_14 : Int) : Option (Bool) := xit [2, 3, 5] [[2], [3]] (X_spec_EqualKey nf c15_spec_EqualKey) (qB 0 (qS (X_spec_EqualKey nf c31_spec_EqualKey) (KF [.t 4 (.v .bool)]))) m14 ⟨[(2, .pt [2] 0), (3, .pt [3] 0), (5, .v kI x5_14)], [([2], .box [.v kI a.tag, .v (kL kI) a.rows]), ([3], .box [.v kI b.tag, .v (kL kI) b.rows])]⟩
theorem j5_spec_EqualKey_eq (nf : Nat) (a : Key) (b : Key) (x19_5 : Bool) : j5_spec_EqualKey nf a b x19_5 = (
  br x19_5 (
    some false) (
    mark (l14_spec_EqualKey nf nf a b (0 : Int)))) := by kernel_rfl
theorem l14_spec_EqualKey_eq (nf : Nat) (m14 : Nat) (a : Key) (b : Key) (x5_14 : Int) : l14_spec_EqualKey nf (m14 + 1) a b x5_14 = (
  br (decide (x5_14 < (List.length a.rows : Int))) (
    gg (0 ≤ x5_14 ∧ x5_14 < (List.length a.rows : Int)) <|
      gg (0 ≤ x5_14 ∧ x5_14 < (List.length b.rows : Int)) <|
        br (!((gt a.rows x5_14 (0 : Int)) == (gt b.rows x5_14 (0 : Int)))) (
          some false) (
          mark (l14_spec_EqualKey nf m14 a b (w64 (x5_14 + (1 : Int)))))) (
    some true)) := by kernel_rfl
theorem m_spec_EqualKey_eq (nf : Nat) (a : Key) (b : Key) : m_spec_EqualKey nf a b = (
  br ((!(a.tag == b.tag)) == false) (
    mark (j5_spec_EqualKey nf a b (!((List.length a.rows : Int) == (List.length b.rows : Int))))) (
    mark (j5_spec_EqualKey nf a b true))) := by
  unfold m_spec_EqualKey j5_spec_EqualKey ir_spec_EqualKey w5_spec_EqualKey c10_spec_EqualKey c31_spec_EqualKey
  generalize c5_spec_EqualKey = x0
  revert x0
  refine id ?_
  intro x0
  kernel_rfl
noncomputable def e_spec_EqualKey (nf : Nat) : XE := eF 54 [.v (kR 14), .v (kR 14)] [.v .bool] (fun t => m_spec_EqualKey nf t.1 t.2.1)
theorem o_spec_EqualKey (nf : Nat) : conOK Tryd.prog 54 (e_spec_EqualKey nf).con := by
  have ih : XT.ok Tryd.prog (T_spec_EqualKey nf) := by exact trivial
  refine eF_ok fun t x h => ?_
  obtain ⟨a, b, _⟩ := t
  exact runF_ok (N := 38) ih Tryd.func54 (by kernel_rfl) rfl h
def ir_impl_EqualKey : C := .sq (.rg [.bx 2 (.t 0) (kR 14), .bx 3 (.t 1) (kR 14), .mv 4 (.b false)]) (.sq (.rg [.fa 5 (.t 2) 14 0 0, .ld 6 (.t 5) kI, .fa 7 (.t 3) 14 0 0, .ld 8 (.t 7) kI, .bi 9 .eql (.t 6) (.t 8), .mv 10 (.t 9), .g 10 true (.fa 11 (.t 2) 14 1 1), .g 10 true (.ld 12 (.t 11) (kL kI)), .g 10 true (.fa 13 (.t 3) 14 1 1), .g 10 true (.ld 14 (.t 13) (kL kI)), .g 10 true (.cv (some 15) 56 [((.t 12), .v (kL kI)), ((.t 14), .v (kL kI))]), .pk 16 (.t 10) (.t 15) (.b false), .mv 4 (.t 16)]) .rt)
noncomputable abbrev T_impl_EqualKey (nf : Nat) : XT := [e_slices_Equal_int_int nf]
noncomputable def m_impl_EqualKey (nf : Nat) (a : Key) (b : Key) : Option (Bool) := runF (T_impl_EqualKey nf) nf [.v (kR 14), .v (kR 14)] [.t 4 (.v .bool)] ir_impl_EqualKey (a, b, ())
theorem m_impl_EqualKey_eq (nf : Nat) (a : Key) (b : Key) : m_impl_EqualKey nf a b = (
  br ((a.tag == b.tag) == true) (
    cb (m_slices_Equal_int_int nf a.rows b.rows) fun r15 =>
      some r15) (
    some false)) := by kernel_rfl
noncomputable def e_impl_EqualKey (nf : Nat) : XE := eF 44 [.v (kR 14), .v (kR 14)] [.v .bool] (fun t => m_impl_EqualKey nf t.1 t.2.1)
theorem o_impl_EqualKey (nf : Nat) : conOK Tryd.prog 44 (e_impl_EqualKey nf).con := by
  have ih : XT.ok Tryd.prog (T_impl_EqualKey nf) := by exact ⟨o_slices_Equal_int_int nf, trivial⟩
  refine eF_ok fun t x h => ?_
  obtain ⟨a, b, _⟩ := t
  exact runF_ok (N := 17) ih Tryd.func44 (by kernel_rfl) rfl h
def c23_spec_l22At : C := .sq (.rg [.mv 4 (.i (-1))]) .rt
def c7_spec_l22At : C := .sq (.sq (.rg [.mv 6 (.t 5), .mv 7 (.t 0), .ln 8 false (.t 7), .bi 9 .lss (.t 6) (.t 8)]) (.cd (.t 9) .skip (.ex 0))) (.sq (.bk 1 (.sq (.dr [] [.mv 12 (.t 0), .mv 13 (.t 5), .ia 14 (.t 12) (.t 13) (kR 14), .ld 15 (.t 14) (kR 14), .ld 16 (.t 3) (kR 14)] [.cv (some 17) 54 [((.t 15), .v (kR 14)), ((.t 16), .v (kR 14))]]) (.cd (.t 17) (.sq (.rg [.mv 18 (.t 5), .mv 4 (.t 18)]) .rt) .skip))) (.rg [.mv 10 (.t 5), .bi 11 .add (.t 10) (.i 1), .mv 5 (.t 11)]))
def ir_spec_l22At : C := .sq (.rg [.bx 3 (.t 1) (kR 14), .mv 4 (.i 0)]) (.sq (.sq (.rg [.mv 5 (.i 0)]) (.bk 0 (.lk [0, 3, 5] [[3]] c7_spec_l22At))) c23_spec_l22At)
noncomputable abbrev T_spec_l22At (nf : Nat) : XT := [e_spec_EqualKey nf]
noncomputable def m_spec_l22At (nf : Nat) (list : List Key) (x : Key) : Option (Int) := runF (T_spec_l22At nf) nf [.v (kL (kR 14)), .v (kR 14)] [.t 4 (.v kI)] ir_spec_l22At (list, x, ())
noncomputable def X_spec_l22At {R : Type} (nf : Nat) : C → Env → (Xt → Env → Option R) → Option R := xc (R := R) (T_spec_l22At nf).S nf
noncomputable def l6_spec_l22At (nf : Nat) (m6 : Nat) (list : List Key) (x : Key) (x5_6 : Int) : Option (Int) := xit [0, 3, 5] [[3]] (X_spec_l22At nf c7_spec_l22At) (qB 0 (qS (X_spec_l22At nf c23_spec_l22At) (KF [.t 4 (.v kI)]))) m6 ⟨[(0, .v (kL (kR 14)) list), (3, .pt [3] 0), (5, .v kI x5_6)], [([3], .box [.v kI x.tag, .v (kL kI) x.rows])]⟩
theorem l6_spec_l22At_eq (nf : Nat) (m6 : Nat) (list : List Key) (x : Key) (x5_6 : Int) : l6_spec_l22At nf (m6 + 1) list x x5_6 = (
  br (decide (x5_6 < (List.length list : Int))) (
    gg (0 ≤ x5_6 ∧ x5_6 < (List.length list : Int)) <|
      cb (m_spec_EqualKey nf (gt list x5_6 Key.zero) x) fun r17 =>
        br r17 (
          some x5_6) (
          mark (l6_spec_l22At nf m6 list x (w64 (x5_6 + (1 : Int)))))) (
    some (-1 : Int))) := by kernel_rfl
theorem m_spec_l22At_eq (nf : Nat) (list : List Key) (x : Key) : m_spec_l22At nf list x = (
  mark (l6_spec_l22At nf nf list x (0 : Int))) := by kernel_rfl
noncomputable def e_spec_l22At (nf : Nat) : XE := eF 42 [.v (kL (kR 14)), .v (kR 14)] [.v kI] (fun t => m_spec_l22At nf t.1 t.2.1)
theorem o_spec_l22At (nf : Nat) : conOK Tryd.prog 42 (e_spec_l22At nf).con := by
  have ih : XT.ok Tryd.prog (T_spec_l22At nf) := by exact ⟨o_spec_EqualKey nf, trivial⟩
  refine eF_ok fun t x h => ?_
  obtain ⟨list, x, _⟩ := t
  exact runF_ok (N := 19) ih Tryd.func42 (by kernel_rfl) rfl h
def c36_spec_l22Keys : C := .sq (.rg [.mv 44 (.t 3), .mv 2 (.t 44)]) .rt
def c35_spec_l22Keys : C := .rg [.mv 11 (.t 4), .bi 12 .add (.t 11) (.i 1), .mv 4 (.t 12)]
def c21_spec_l22Keys : C := .sq (.sq (.rg [.mv 13 (.t 5), .mv 14 (.t 0), .mv 15 (.t 4), .ia 16 (.t 14) (.t 15) (kL (kR 15)), .ld 17 (.t 16) (kL (kR 15)), .ln 18 false (.t 17), .bi 19 .lss (.t 13) (.t 18)]) (.cd (.t 19) .skip (.ex 2))) (.sq (.bk 3 (.sq (.rg [.mv 22 (.t 3), .mv 23 (.t 0), .mv 24 (.t 4), .ia 25 (.t 23) (.t 24) (kL (kR 15)), .ld 26 (.t 25) (kL (kR 15)), .mv 27 (.t 5), .ia 28 (.t 26) (.t 27) (kR 15), .fa 29 (.t 28) 15 1 2, .ld 30 (.t 29) (kR 14), .cv (some 31) 42 [((.t 22), .v (kL (kR 14))), ((.t 30), .v (kR 14))], .bi 32 .lss (.t 31) (.i 0)]) (.cd (.t 32) (.gt 3 false (kR 14) (.rg [.mv 33 (.t 3), .mv 34 (.t 0), .mv 35 (.t 4), .ia 36 (.t 34) (.t 35) (kL (kR 15)), .ld 37 (.t 36) (kL (kR 15)), .mv 38 (.t 5), .ia 39 (.t 37) (.t 38) (kR 15), .fa 40 (.t 39) 15 1 2, .ld 41 (.t 40) (kR 14), .bs 42 false (kR 14) [(.t 41)], .ap 43 [3] false (kR 14) (.t 33) (.t 42), .mv 3 (.t 43)])) .skip))) (.rg [.mv 20 (.t 5), .bi 21 .add (.t 20) (.i 1), .mv 5 (.t 21)]))
def c9_spec_l22Keys : C := .sq (.sq (.rg [.mv 7 (.t 4), .mv 8 (.t 0), .ln 9 false (.t 8), .bi 10 .lss (.t 7) (.t 9)]) (.cd (.t 10) .skip (.ex 0))) (.sq (.bk 1 (.sq (.rg [.mv 5 (.i 0)]) (.bk 2 (.gt 3 false (kR 14) (.lk [0, 3, 4, 5] [[3]] c21_spec_l22Keys))))) c35_spec_l22Keys)
def ir_spec_l22Keys : C := .sq (.rg [.mv 2 (.nl (kR 14))]) (.sq (.rg [.bs 6 false (kR 14) [], .mv 3 (.t 6)]) (.sq (.sq (.rg [.mv 4 (.i 0)]) (.bk 0 (.gt 3 false (kR 14) (.lk [0, 3, 4] [[3]] c9_spec_l22Keys)))) c36_spec_l22Keys))
noncomputable abbrev T_spec_l22Keys (nf : Nat) : XT := [e_spec_l22At nf]
noncomputable def m_spec_l22Keys (nf : Nat) (tables : List (List FRow)) : Option (List Key) := runF (T_spec_l22Keys nf) nf [.v (kL (kL (kR 15)))] [.t 2 (.s (kR 14))] ir_spec_l22Keys (tables, ())
noncomputable def X_spec_l22Keys {R : Type} (nf : Nat) : C → Env → (Xt → Env → Option R) → Option R := xc (R := R) (T_spec_l22Keys nf).S nf
noncomputable def l20_spec_l22Keys (nf : Nat) (m8 : Nat) (m20 : Nat) (tables : List (List FRow)) (x4_8 : Int) (x5_20 : Int) (y3_20 : List Key) : Option (List Key) := xit [0, 3, 4, 5] [[3]] (X_spec_l22Keys nf c21_spec_l22Keys) (qB 2 (qB 1 (qS (X_spec_l22Keys nf c35_spec_l22Keys) (qM [0, 3, 4] [[3]] (X_spec_l22Keys nf c9_spec_l22Keys) m8 (qB 0 (qS (X_spec_l22Keys nf c36_spec_l22Keys) (KF [.t 2 (.s (kR 14))]))))))) m20 ⟨[(0, .v (kL (kL (kR 15))) tables), (3, .sl [3]), (4, .v kI x4_8), (5, .v kI x5_20)], [([3], .row false false (kR 14) y3_20)]⟩
noncomputable def l8_spec_l22Keys (nf : Nat) (m8 : Nat) (tables : List (List FRow)) (x4_8 : Int) (y3_8 : List Key) : Option (List Key) := xit [0, 3, 4] [[3]] (X_spec_l22Keys nf c9_spec_l22Keys) (qB 0 (qS (X_spec_l22Keys nf c36_spec_l22Keys) (KF [.t 2 (.s (kR 14))]))) m8 ⟨[(0, .v (kL (kL (kR 15))) tables), (3, .sl [3]), (4, .v kI x4_8)], [([3], .row false false (kR 14) y3_8)]⟩
theorem l20_spec_l22Keys_eq (nf : Nat) (m8 : Nat) (m20 : Nat) (tables : List (List FRow)) (x4_8 : Int) (x5_20 : Int) (y3_20 : List Key) : l20_spec_l22Keys nf m8 (m20 + 1) tables x4_8 x5_20 y3_20 = (
  gg (0 ≤ x4_8 ∧ x4_8 < (List.length tables : Int)) <|
    br (decide (x5_20 < (List.length (gt tables x4_8 ([] : List FRow)) : Int))) (
      gg (0 ≤ x4_8 ∧ x4_8 < (List.length tables : Int)) <|
        gg (0 ≤ x5_20 ∧ x5_20 < (List.length (gt tables x4_8 ([] : List FRow)) : Int)) <|
          cb (m_spec_l22At nf y3_20 ((gt (gt tables x4_8 ([] : List FRow)) x5_20 FRow.zero).own)) fun r31 =>
            br (decide (r31 < (0 : Int))) (
              gg (0 ≤ x4_8 ∧ x4_8 < (List.length tables : Int)) <|
                gg (0 ≤ x5_20 ∧ x5_20 < (List.length (gt tables x4_8 ([] : List FRow)) : Int)) <|
                  gg (List.length y3_20 + List.length ([((gt (gt tables x4_8 ([] : List FRow)) x5_20 FRow.zero).own)] : List Key) ≤ 33554432) <|
                    mark (l20_spec_l22Keys nf m8 m20 tables x4_8 (w64 (x5_20 + (1 : Int))) (y3_20 ++ ([((gt (gt tables x4_8 ([] : List FRow)) x5_20 FRow.zero).own)] : List Key)))) (
              mark (l20_spec_l22Keys nf m8 m20 tables x4_8 (w64 (x5_20 + (1 : Int))) y3_20))) (
      mark (l8_spec_l22Keys nf m8 tables (w64 (x4_8 + (1 : Int))) y3_20))) := by kernel_rfl
theorem l8_spec_l22Keys_eq (nf : Nat) (m8 : Nat) (tables : List (List FRow)) (x4_8 : Int) (y3_8 : List Key) : l8_spec_l22Keys nf (m8 + 1) tables x4_8 y3_8 = (
  br (decide (x4_8 < (List.length tables : Int))) (
    mark (l20_spec_l22Keys nf m8 nf tables x4_8 (0 : Int) y3_8)) (
    some y3_8)) := by kernel_rfl
theorem m_spec_l22Keys_eq (nf : Nat) (tables : List (List FRow)) : m_spec_l22Keys nf tables = (
  mark (l8_spec_l22Keys nf nf tables (0 : Int) ([] : List Key))) := by kernel_rfl
noncomputable def e_spec_l22Keys (nf : Nat) : XE := eF 29 [.v (kL (kL (kR 15)))] [.s (kR 14)] (fun t => m_spec_l22Keys nf t.1)
theorem o_spec_l22Keys (nf : Nat) : conOK Tryd.prog 29 (e_spec_l22Keys nf).con := by
  have ih : XT.ok Tryd.prog (T_spec_l22Keys nf) := by exact ⟨o_spec_l22At nf, trivial⟩
  refine eF_ok fun t x h => ?_
  obtain ⟨tables, _⟩ := t
  exact runF_ok (N := 45) ih Tryd.func29 (by kernel_rfl) rfl h
def c10_spec_l22Number : C := .sq (.rg [.mv 15 (.t 0), .ld 16 (.t 3) (kR 14), .cv (some 17) 42 [((.t 15), .v (kL (kR 14))), ((.t 16), .v (kR 14))], .mv 5 (.t 17)]) (.sq (.sq (.rg [.mv 18 (.t 5), .bi 19 .lss (.t 18) (.i 0)]) (.cd (.t 19) (.sq (.rg [.mv 4 (.i (-1))]) .rt) .skip)) (.sq (.rg [.mv 20 (.t 5), .bi 21 .add (.t 20) (.i 1), .mv 4 (.t 21)]) .rt))
def c5_spec_l22Number : C := .cd (.t 14) (.sq (.rg [.mv 4 (.i 0)]) .rt) .skip
def w5_spec_l22Number : C := .kp [0, 3, 14] [[3]] c5_spec_l22Number
def ir_spec_l22Number : C := .sq (.rg [.bx 3 (.t 1) (kR 14), .mv 4 (.i 0)]) (.sq (.sq (.rg [.fa 6 (.t 3) 14 0 0, .ld 7 (.t 6) kI, .bi 8 .eql (.t 7) (.i 0), .mv 9 (.t 8), .g 9 true (.fa 10 (.t 3) 14 1 1), .g 9 true (.ld 11 (.t 10) (kL kI)), .g 9 true (.ln 12 false (.t 11)), .g 9 true (.bi 13 .eql (.t 12) (.i 0)), .pk 14 (.t 9) (.t 13) (.b false)]) w5_spec_l22Number) c10_spec_l22Number)
noncomputable abbrev T_spec_l22Number (nf : Nat) : XT := [e_spec_l22At nf]
noncomputable def m_spec_l22Number (nf : Nat) (keys : List Key) (x : Key) : Option (Int) := runF (T_spec_l22Number nf) nf [.v (kL (kR 14)), .v (kR 14)] [.t 4 (.v kI)] ir_spec_l22Number (keys, x, ())
noncomputable def X_spec_l22Number {R : Type} (nf : Nat) : C → Env → (Xt → Env → Option R) → Option R := xc (R := R) (T_spec_l22Number nf).S nf
noncomputable def j5_spec_l22Number (nf : Nat) (keys : List Key) (x : Key) (x14_5 : Bool) : Option (Int) := X_spec_l22Number nf c5_spec_l22Number ⟨[(0, .v (kL (kR 14)) keys), (3, .pt [3] 0), (14, .v .bool x14_5)], [([3], .box [.v kI x.tag, .v (kL kI) x.rows])]⟩ (qS (X_spec_l22Number nf c10_spec_l22Number) (KF [.t 4 (.v kI)]))
theorem j5_spec_l22Number_eq (nf : Nat) (keys : List Key) (x : Key) (x14_5 : Bool) : j5_spec_l22Number nf keys x x14_5 = (
  br x14_5 (
    some (0 : Int)) (
    cb (m_spec_l22At nf keys x) fun r17 =>
      br (decide (r17 < (0 : Int))) (
        some (-1 : Int)) (
        some (w64 (r17 + (1 : Int)))))) := by kernel_rfl
theorem m_spec_l22Number_eq (nf : Nat) (keys : List Key) (x : Key) : m_spec_l22Number nf keys x = (
  br ((x.tag == (0 : Int)) == true) (
    mark (j5_spec_l22Number nf keys x ((List.length x.rows : Int) == (0 : Int)))) (
    mark (j5_spec_l22Number nf keys x false))) := by
  unfold m_spec_l22Number j5_spec_l22Number ir_spec_l22Number w5_spec_l22Number c10_spec_l22Number
  generalize c5_spec_l22Number = x0
  revert x0
  refine id ?_
  intro x0
  kernel_rfl
noncomputable def e_spec_l22Number (nf : Nat) : XE := eF 28 [.v (kL (kR 14)), .v (kR 14)] [.v kI] (fun t => m_spec_l22Number nf t.1 t.2.1)
theorem o_spec_l22Number (nf : Nat) : conOK Tryd.prog 28 (e_spec_l22Number nf).con := by
  have ih : XT.ok Tryd.prog (T_spec_l22Number nf) := by exact ⟨o_spec_l22At nf, trivial⟩
  refine eF_ok fun t x h => ?_
  obtain ⟨keys, x, _⟩ := t
  exact runF_ok (N := 22) ih Tryd.func28 (by kernel_rfl) rfl h
def ir_spec_NumberOf : C := .sq (.rg [.bx 3 (.t 1) (kR 14), .mv 4 (.i 0)]) (.sq (.dr [6] [.mv 5 (.t 0), .ca (some 6) 29 [((.t 5), .v (kL (kL (kR 15))))], .ld 7 (.t 3) (kR 14)] [.cv (some 8) 28 [((.t 6), .v (kL (kR 14))), ((.t 7), .v (kR 14))], .mv 4 (.t 8)]) .rt)
noncomputable abbrev T_spec_NumberOf (nf : Nat) : XT := [e_spec_l22Keys nf, e_spec_l22Number nf]
noncomputable def m_spec_NumberOf (nf : Nat) (tables : List (List FRow)) (x : Key) : Option (Int) := runF (T_spec_NumberOf nf) nf [.v (kL (kL (kR 15))), .v (kR 14)] [.t 4 (.v kI)] ir_spec_NumberOf (tables, x, ())
theorem m_spec_NumberOf_eq (nf : Nat) (tables : List (List FRow)) (x : Key) : m_spec_NumberOf nf tables x = (
  cb (m_spec_l22Keys nf tables) fun r6 =>
    cb (m_spec_l22Number nf r6 x) fun r8 =>
      some r8) := by kernel_rfl
noncomputable def e_spec_NumberOf (nf : Nat) : XE := eF 12 [.v (kL (kL (kR 15))), .v (kR 14)] [.v kI] (fun t => m_spec_NumberOf nf t.1 t.2.1)
theorem o_spec_NumberOf (nf : Nat) : conOK Tryd.prog 12 (e_spec_NumberOf nf).con := by
  have ih : XT.ok Tryd.prog (T_spec_NumberOf nf) := by exact ⟨o_spec_l22Keys nf, o_spec_l22Number nf, trivial⟩
  refine eF_ok fun t x h => ?_
  obtain ⟨tables, x, _⟩ := t
  exact runF_ok (N := 9) ih Tryd.func12 (by kernel_rfl) rfl h
def c42_impl_numbering : C := .sq (.rg [.mv 36 (.t 3), .mv 2 (.t 36)]) .rt
def c41_impl_numbering : C := .rg [.bi 35 .add (.t 12) (.i 1), .mv 12 (.t 35)]
def c23_impl_numbering : C := .sq (.rg [.bi 19 .lss (.t 18) (.t 17)]) (.sq (.cd (.t 19) .skip (.ex 2)) (.sq (.bk 3 (.sq (.rg [.ia 20 (.t 16) (.t 18) (kR 15), .ld 21 (.t 20) (kR 15), .al 7 (kR 15), .st (.t 7) (.t 21) (kR 15)]) (.sq (.rg [.fa 22 (.t 7) 15 1 2, .ld 23 (.t 22) (kR 14), .cv (some 24) 9 [((.t 23), .v (kR 14))], .mv 8 (.t 24)]) (.sq (.rg [.mv 25 (.t 3), .mv 26 (.t 8), .ml 27 (.t 25) (.t 26) kS kI false, .bi 28 .eql (.t 27) (.i 0)]) (.cd (.t 28) (.rg [.mv 29 (.t 3), .mv 30 (.t 8), .mv 31 (.t 3), .ml2 32 (.t 31), .bi 33 .add (.t 32) (.i 1), .mu (.t 29) (.t 30) (.t 33) kS kI]) .skip))))) (.rg [.bi 34 .add (.t 18) (.i 1), .mv 18 (.t 34)])))
def c9_impl_numbering : C := .sq (.rg [.bi 13 .lss (.t 12) (.t 11)]) (.sq (.cd (.t 13) .skip (.ex 0)) (.sq (.bk 1 (.sq (.rg [.ia 14 (.t 10) (.t 12) (kL (kR 15)), .ld 15 (.t 14) (kL (kR 15)), .mv 5 (.t 15)]) (.sq (.rg [.mv 16 (.t 5), .ln 17 false (.t 16), .mv 18 (.i 0)]) (.bk 2 (.lk [3, 10, 11, 12, 16, 17, 18] [[9]] c23_impl_numbering))))) c41_impl_numbering))
def ir_impl_numbering : C := .sq (.rg [.mv 2 (.no)]) (.sq (.rg [.mm 9 kS kI, .mv 3 (.t 9)]) (.sq (.sq (.rg [.mv 10 (.t 0), .ln 11 false (.t 10), .mv 12 (.i 0)]) (.bk 0 (.lk [3, 10, 11, 12] [[9]] c9_impl_numbering))) c42_impl_numbering))
noncomputable abbrev T_impl_numbering (nf : Nat) : XT := [e_impl_KeyText nf]
noncomputable def m_impl_numbering (nf : Nat) (tables : List (List FRow)) : Option (List (Str × Int)) := runF (T_impl_numbering nf) nf [.v (kL (kL (kR 15)))] [.t 2 (.m kS kI)] ir_impl_numbering (tables, ())
noncomputable def X_impl_numbering {R : Type} (nf : Nat) : C → Env → (Xt → Env → Option R) → Option R := xc (R := R) (T_impl_numbering nf).S nf
noncomputable def l22_impl_numbering (nf : Nat) (m8 : Nat) (m22 : Nat) (tables : List (List FRow)) (x12_8 : Int) (x18_22 : Int) (y9_22 : List (Str × Int)) : Option (List (Str × Int)) := xit [3, 10, 11, 12, 16, 17, 18] [[9]] (X_impl_numbering nf c23_impl_numbering) (qB 2 (qB 1 (qS (X_impl_numbering nf c41_impl_numbering) (qM [3, 10, 11, 12] [[9]] (X_impl_numbering nf c9_impl_numbering) m8 (qB 0 (qS (X_impl_numbering nf c42_impl_numbering) (KF [.t 2 (.m kS kI)]))))))) m22 ⟨[(3, .mp [9]), (10, .v (kL (kL (kR 15))) tables), (11, .v kI (List.length tables : Int)), (12, .v kI x12_8), (16, .v (kL (kR 15)) (gt tables x12_8 ([] : List FRow))), (17, .v kI (List.length (gt tables x12_8 ([] : List FRow)) : Int)), (18, .v kI x18_22)], [([9], .mp kS kI y9_22)]⟩
noncomputable def l8_impl_numbering (nf : Nat) (m8 : Nat) (tables : List (List FRow)) (x12_8 : Int) (y9_8 : List (Str × Int)) : Option (List (Str × Int)) := xit [3, 10, 11, 12] [[9]] (X_impl_numbering nf c9_impl_numbering) (qB 0 (qS (X_impl_numbering nf c42_impl_numbering) (KF [.t 2 (.m kS kI)]))) m8 ⟨[(3, .mp [9]), (10, .v (kL (kL (kR 15))) tables), (11, .v kI (List.length tables : Int)), (12, .v kI x12_8)], [([9], .mp kS kI y9_8)]⟩
theorem l22_impl_numbering_eq (nf : Nat) (m8 : Nat) (m22 : Nat) (tables : List (List FRow)) (x12_8 : Int) (x18_22 : Int) (y9_22 : List (Str × Int)) : l22_impl_numbering nf m8 (m22 + 1) tables x12_8 x18_22 y9_22 = (
  br (decide (x18_22 < (List.length (gt tables x12_8 ([] : List FRow)) : Int))) (
    gg (0 ≤ x18_22 ∧ x18_22 < (List.length (gt tables x12_8 ([] : List FRow)) : Int)) <|
      cb (m_impl_KeyText nf ((gt (gt tables x12_8 ([] : List FRow)) x18_22 FRow.zero).own)) fun r24 =>
        br ((mgt (kk := kS) (vk := kI) y9_22 r24) == (0 : Int)) (
          gg ((List.length y9_22 : Int) ≤ 9223372036854775807) <|
            mark (l22_impl_numbering nf m8 m22 tables x12_8 (w64 (x18_22 + (1 : Int))) (mset (kk := kS) (vk := kI) y9_22 r24 (w64 ((List.length y9_22 : Int) + (1 : Int)))))) (
          mark (l22_impl_numbering nf m8 m22 tables x12_8 (w64 (x18_22 + (1 : Int))) y9_22))) (
    mark (l8_impl_numbering nf m8 tables (w64 (x12_8 + (1 : Int))) y9_22))) := by kernel_rfl
theorem l8_impl_numbering_eq (nf : Nat) (m8 : Nat) (tables : List (List FRow)) (x12_8 : Int) (y9_8 : List (Str × Int)) : l8_impl_numbering nf (m8 + 1) tables x12_8 y9_8 = (
  br (decide (x12_8 < (List.length tables : Int))) (
    gg (0 ≤ x12_8 ∧ x12_8 < (List.length tables : Int)) <|
      mark (l22_impl_numbering nf m8 nf tables x12_8 (0 : Int) y9_8)) (
    some y9_8)) := by kernel_rfl
theorem m_impl_numbering_eq (nf : Nat) (tables : List (List FRow)) : m_impl_numbering nf tables = (
  mark (l8_impl_numbering nf nf tables (0 : Int) [])) := by kernel_rfl
noncomputable def e_impl_numbering (nf : Nat) : XE := eF 32 [.v (kL (kL (kR 15)))] [.m kS kI] (fun t => m_impl_numbering nf t.1)
theorem o_impl_numbering (nf : Nat) : conOK Tryd.prog 32 (e_impl_numbering nf).con := by
  have ih : XT.ok Tryd.prog (T_impl_numbering nf) := by exact ⟨o_impl_KeyText nf, trivial⟩
  refine eF_ok fun t x h => ?_
  obtain ⟨tables, _⟩ := t
  exact runF_ok (N := 37) ih Tryd.func32 (by kernel_rfl) rfl h
def ir_impl_numberIn : C := .sq (.rg [.bx 3 (.t 1) (kR 14), .mv 4 (.i 0)]) (.sq (.sq (.rg [.ld 7 (.t 3) (kR 14), .bd 8 14 [], .cv (some 9) 44 [((.t 7), .v (kR 14)), ((.t 8), .v (kR 14))]]) (.cd (.t 9) (.sq (.rg [.mv 4 (.i 0)]) .rt) .skip)) (.sq (.sq (.rg [.mv 11 (.t 0), .ld 12 (.t 3) (kR 14), .cv (some 13) 9 [((.t 12), .v (kR 14))], .ml 14 (.t 11) (.t 13) kS kI true, .mv 10 (.t 14), .xt 15 (.t 10) 0, .xt 16 (.t 10) 1, .mv 5 (.t 15), .mv 6 (.t 16)]) (.sq (.rg [.mv 17 (.t 6)]) (.cd (.t 17) (.sq (.rg [.mv 18 (.t 5), .mv 4 (.t 18)]) .rt) .skip))) (.sq (.rg [.mv 4 (.i (-1))]) .rt)))
noncomputable abbrev T_impl_numberIn (nf : Nat) : XT := [e_impl_EqualKey nf, e_impl_KeyText nf]
noncomputable def m_impl_numberIn (nf : Nat) (x : Key) (numbers : List (Str × Int)) : Option ((Int) × (List (Str × Int))) := runQ (T_impl_numberIn nf) nf [.mp 0, .v (kR 14)] [.mp kS kI] [.mp kS kI] [.t 4 (.v kI)] ir_impl_numberIn ((), x, ()) numbers
theorem m_impl_numberIn_eq (nf : Nat) (x : Key) (numbers : List (Str × Int)) : m_impl_numberIn nf x numbers = (
  cb (m_impl_EqualKey nf x (Key.mk (0 : Int) ([] : List Int))) fun r9 =>
    br r9 (
      some ((0 : Int), numbers)) (
      cb (m_impl_KeyText nf x) fun r13 =>
        br (mhas (kk := kS) (vk := kI) numbers r13) (
          some ((mgt (kk := kS) (vk := kI) numbers r13), numbers)) (
          some ((-1 : Int), numbers)))) := by kernel_rfl
noncomputable def e_impl_numberIn (nf : Nat) : XE := eQ 31 [.mp 0, .v (kR 14)] [.v kI] [.mp kS kI] [.mp kS kI] (fun t u => m_impl_numberIn nf t.2.1 u)
theorem o_impl_numberIn (nf : Nat) : conOK Tryd.prog 31 (e_impl_numberIn nf).con := by
  have ih : XT.ok Tryd.prog (T_impl_numberIn nf) := by exact ⟨o_impl_EqualKey nf, o_impl_KeyText nf, trivial⟩
  refine eQ_ok fun t u x h => ?_
  obtain ⟨_, x, _⟩ := t
  exact runQ_ok (N := 19) ih Tryd.func31 (by kernel_rfl) rfl rfl rfl rfl rfl h
def ir_impl_NumberOf : C := .sq (.rg [.bx 3 (.t 1) (kR 14), .mv 4 (.i 0)]) (.sq (.dr [6] [.mv 5 (.t 0), .ca (some 6) 32 [((.t 5), .v (kL (kL (kR 15))))], .ld 7 (.t 3) (kR 14)] [.cq (some 8) 31 [((.t 6), .q), ((.t 7), .v (kR 14))], .mv 4 (.t 8)]) .rt)
noncomputable abbrev T_impl_NumberOf (nf : Nat) : XT := [e_impl_numbering nf, e_impl_numberIn nf]
noncomputable def m_impl_NumberOf (nf : Nat) (tables : List (List FRow)) (x : Key) : Option (Int) := runF (T_impl_NumberOf nf) nf [.v (kL (kL (kR 15))), .v (kR 14)] [.t 4 (.v kI)] ir_impl_NumberOf (tables, x, ())
theorem m_impl_NumberOf_eq (nf : Nat) (tables : List (List FRow)) (x : Key) : m_impl_NumberOf nf tables x = (
  cb (m_impl_numbering nf tables) fun r6 =>
    cb (m_impl_numberIn nf x r6) fun r8 =>
      some r8.1) := by kernel_rfl
noncomputable def e_impl_NumberOf (nf : Nat) : XE := eF 14 [.v (kL (kL (kR 15))), .v (kR 14)] [.v kI] (fun t => m_impl_NumberOf nf t.1 t.2.1)
theorem o_impl_NumberOf (nf : Nat) : conOK Tryd.prog 14 (e_impl_NumberOf nf).con := by
  have ih : XT.ok Tryd.prog (T_impl_NumberOf nf) := by exact ⟨o_impl_numbering nf, o_impl_numberIn nf, trivial⟩
  refine eF_ok fun t x h => ?_
  obtain ⟨tables, x, _⟩ := t
  exact runF_ok (N := 9) ih Tryd.func14 (by kernel_rfl) rfl h
def ir_laws_FnExactNumberOf : C := .sq (.rg [.bx 3 (.t 1) (kR 14), .mv 4 (.b false)]) (.sq (.rg [.mv 5 (.i 1048576)]) (.sq (.rg [.mv 10 (.t 0), .mv 11 (.t 5), .cv (some 12) 11 [((.t 10), .v (kL (kL (kR 15)))), ((.t 11), .v kI)], .mv 5 (.t 12)]) (.sq (.sq (.rg [.mv 13 (.t 5), .bi 14 .lss (.t 13) (.i 0)]) (.cd (.t 14) (.sq (.rg [.mv 4 (.b true)]) .rt) .skip)) (.sq (.rg [.ld 15 (.t 3) (kR 14), .mv 16 (.t 5), .cv (some 17) 6 [((.t 15), .v (kR 14)), ((.t 16), .v kI)], .mv 5 (.t 17)]) (.sq (.sq (.rg [.mv 18 (.t 5), .bi 19 .lss (.t 18) (.i 0)]) (.cd (.t 19) (.sq (.rg [.mv 4 (.b true)]) .rt) .skip)) (.sq (.dr [] [.mv 20 (.t 0), .cv (some 21) 13 [((.t 20), .v (kL (kL (kR 15))))], .ld 22 (.t 3) (kR 14)] [.cv (some 23) 8 [((.t 22), .v (kR 14))], .cv (some 24) 12 [((.t 21), .v (kL (kL (kR 15)))), ((.t 23), .v (kR 14))], .mv 6 (.t 24)]) (.sq (.rg [.mv 25 (.t 0), .cv (some 26) 13 [((.t 25), .v (kL (kL (kR 15))))], .mv 7 (.t 26)]) (.sq (.rg [.ld 27 (.t 3) (kR 14), .cv (some 28) 8 [((.t 27), .v (kR 14))], .al 8 (kR 14), .st (.t 8) (.t 28) (kR 14)]) (.sq (.rg [.mv 29 (.t 7), .ld 30 (.t 8) (kR 14), .cv (some 31) 14 [((.t 29), .v (kL (kL (kR 15)))), ((.t 30), .v (kR 14))], .mv 9 (.t 31)]) (.sq (.sq (.rg [.mv 32 (.t 9), .mv 33 (.t 6), .bi 34 .neq (.t 32) (.t 33)]) (.cd (.t 34) (.sq (.rg [.mv 4 (.b false)]) .rt) .skip)) (.sq (.sq (.rg [.mv 35 (.t 7), .mv 36 (.t 0), .cv (some 37) 13 [((.t 36), .v (kL (kL (kR 15))))], .cv (some 38) 15 [((.t 35), .v (kL (kL (kR 15)))), ((.t 37), .v (kL (kL (kR 15))))], .un 39 .not (.t 38)]) (.cd (.t 39) (.sq (.rg [.mv 4 (.b false)]) .rt) .skip)) (.sq (.sq (.dr [] [.ld 40 (.t 8) (kR 14), .ld 41 (.t 3) (kR 14), .cv (some 42) 8 [((.t 41), .v (kR 14))]] [.cv (some 43) 10 [((.t 40), .v (kR 14)), ((.t 42), .v (kR 14))], .un 44 .not (.t 43)]) (.cd (.t 44) (.sq (.rg [.mv 4 (.b false)]) .rt) .skip)) (.sq (.rg [.mv 4 (.b true)]) .rt)))))))))))))
noncomputable abbrev T_laws_FnExactNumberOf (nf : Nat) : XT := [e_laws_szFlatRowSS nf, e_laws_szKey nf, e_laws_toFlatRowSS nf, e_laws_toKey nf, e_spec_NumberOf nf, e_impl_NumberOf nf, e_laws_eqFlatRowSS nf, e_laws_eqKey nf]
noncomputable def m_laws_FnExactNumberOf (nf : Nat) (a : List (List FRow)) (b : Key) : Option (Bool) := runF (T_laws_FnExactNumberOf nf) nf [.v (kL (kL (kR 15))), .v (kR 14)] [.t 4 (.v .bool)] ir_laws_FnExactNumberOf (a, b, ())
theorem m_laws_FnExactNumberOf_eq (nf : Nat) (a : List (List FRow)) (b : Key) : m_laws_FnExactNumberOf nf a b = (
  cb (m_laws_szFlatRowSS nf a (1048576 : Int)) fun r12 =>
    br (decide (r12 < (0 : Int))) (
      some true) (
      cb (m_laws_szKey nf b r12) fun r17 =>
        br (decide (r17 < (0 : Int))) (
          some true) (
          cb (m_laws_toFlatRowSS nf a) fun r21 =>
            cb (m_laws_toKey nf b) fun r23 =>
              cb (m_spec_NumberOf nf r21 r23) fun r24 =>
                cb (m_laws_toFlatRowSS nf a) fun r26 =>
                  cb (m_laws_toKey nf b) fun r28 =>
                    cb (m_impl_NumberOf nf r26 r28) fun r31 =>
                      br (!(r31 == r24)) (
                        some false) (
                        cb (m_laws_toFlatRowSS nf a) fun r37 =>
                          cb (m_laws_eqFlatRowSS nf r26 r37) fun r38 =>
                            br (!r38) (
                              some false) (
                              cb (m_laws_toKey nf b) fun r42 =>
                                cb (m_laws_eqKey nf r28 r42) fun r43 =>
                                  br (!r43) (
                                    some false) (
                                    some true)))))) := by kernel_rfl
noncomputable def e_laws_FnExactNumberOf (nf : Nat) : XE := eF 4 [.v (kL (kL (kR 15))), .v (kR 14)] [.v .bool] (fun t => m_laws_FnExactNumberOf nf t.1 t.2.1)
theorem o_laws_FnExactNumberOf (nf : Nat) : conOK Tryd.prog 4 (e_laws_FnExactNumberOf nf).con := by
  have ih : XT.ok Tryd.prog (T_laws_FnExactNumberOf nf) := by exact ⟨o_laws_szFlatRowSS nf, o_laws_szKey nf, o_laws_toFlatRowSS nf, o_laws_toKey nf, o_spec_NumberOf nf, o_impl_NumberOf nf, o_laws_eqFlatRowSS nf, o_laws_eqKey nf, trivial⟩
  refine eF_ok fun t x h => ?_
  obtain ⟨a, b, _⟩ := t
  exact runF_ok (N := 45) ih Tryd.func4 (by kernel_rfl) rfl h
end Go.Q
