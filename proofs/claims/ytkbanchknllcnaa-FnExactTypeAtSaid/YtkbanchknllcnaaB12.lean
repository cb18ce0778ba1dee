/- TypeAt. -/
import Derived.Test.YtkbanchknllcnaaB2
import Derived.Test.YtkbanchknllcnaaB9
import Derived.Test.YtkbanchknllcnaaProg
import Derived.KernelRfl
set_option linter.unusedVariables false
set_option linter.unusedSimpArgs false
namespace Go.Q
open Go.Proofs
set_option linter.unusedVariables false
set_option maxRecDepth 20000
set_option maxHeartbeats 4000000
def c23_spec_IndexOf : C := .sq (.rg [.mv 4 (.i (-1))]) .rt
def c7_spec_IndexOf : C := .sq (.sq (.rg [.mv 6 (.t 5), .mv 7 (.t 0), .ln 8 false (.t 7), .bi 9 .lss (.t 6) (.t 8)]) (.cd (.t 9) .skip (.ex 0))) (.sq (.bk 1 (.sq (.rg [.mv 12 (.t 0), .mv 13 (.t 5), .ia 14 (.t 12) (.t 13) kS, .ld 15 (.t 14) kS, .mv 16 (.t 1), .bi 17 .eql (.t 15) (.t 16)]) (.cd (.t 17) (.sq (.rg [.mv 18 (.t 5), .mv 4 (.t 18)]) .rt) .skip))) (.rg [.mv 10 (.t 5), .bi 11 .add (.t 10) (.i 1), .mv 5 (.t 11)]))
def ir_spec_IndexOf : C := .sq (.rg [.mv 4 (.i 0)]) (.sq (.sq (.rg [.mv 5 (.i 0)]) (.bk 0 (.lk [0, 1, 5] [] c7_spec_IndexOf))) c23_spec_IndexOf)
noncomputable abbrev T_spec_IndexOf (nf : Nat) : XT := []
noncomputable def m_spec_IndexOf (nf : Nat) (list : List Str) (s : Str) : Option (Int) := runF (T_spec_IndexOf nf) nf [.v (kL kS), .v kS] [.t 4 (.v kI)] ir_spec_IndexOf (list, s, ())
noncomputable def X_spec_IndexOf {R : Type} (nf : Nat) : C → Env → (Xt → Env → Option R) → Option R := xc (R := R) (T_spec_IndexOf nf).S nf
noncomputable def l6_spec_IndexOf (nf : Nat) (m6 : Nat) (list : List Str) (s : Str) (x5_6 : Int) : Option (Int) := xit [0, 1, 5] [] (X_spec_IndexOf nf c7_spec_IndexOf) (qB 0 (qS (X_spec_IndexOf nf c23_spec_IndexOf) (KF [.t 4 (.v kI)]))) m6 ⟨[(0, .v (kL kS) list), (1, .v kS s), (5, .v kI x5_6)], []⟩
theorem l6_spec_IndexOf_eq (nf : Nat) (m6 : Nat) (list : List Str) (s : Str) (x5_6 : Int) : l6_spec_IndexOf nf (m6 + 1) list s x5_6 = (
  br (decide (x5_6 < (List.length list : Int))) (
    gg (0 ≤ x5_6 ∧ x5_6 < (List.length list : Int)) <|
      br ((gt list x5_6 ([] : Str)) == s) (
        some x5_6) (
        mark (l6_spec_IndexOf nf m6 list s (w64 (x5_6 + (1 : Int)))))) (
    some (-1 : Int))) := by kernel_rfl
theorem m_spec_IndexOf_eq (nf : Nat) (list : List Str) (s : Str) : m_spec_IndexOf nf list s = (
  mark (l6_spec_IndexOf nf nf list s (0 : Int))) := by kernel_rfl
noncomputable def e_spec_IndexOf (nf : Nat) : XE := eF 98 [.v (kL kS), .v kS] [.v kI] (fun t => m_spec_IndexOf nf t.1 t.2.1)
theorem o_spec_IndexOf (nf : Nat) : conOK Try.prog 98 (e_spec_IndexOf nf).con := by
  have ih : XT.ok Try.prog (T_spec_IndexOf nf) := by exact trivial
  refine eF_ok fun t x h => ?_
  obtain ⟨list, s, _⟩ := t
  exact runF_ok (N := 19) ih Try.func98 (by kernel_rfl) rfl h
def c38_spec_TypeAt : C := .sq (.rg [.ld 54 (.t 2) (kR 0), .ca (some 55) 99 [((.t 54), .v (kR 0))], .st (.t 4) (.t 55) (kR 0), .mv 5 (.b true)]) .rt
def w38_spec_TypeAt : C := .kp [2, 4] [[2], [4]] c38_spec_TypeAt
def c37_spec_TypeAt : C := .rg [.mv 16 (.t 6), .bi 17 .add (.t 16) (.i 1), .mv 6 (.t 17)]
def c32_spec_TypeAt : C := .cd (.t 41) (.rg [.fa 49 (.t 2) 0 2 2, .ld 50 (.t 49) (kL (kR 0)), .mv 51 (.t 7), .ia 52 (.t 50) (.t 51) (kR 0), .ld 53 (.t 52) (kR 0), .st (.t 2) (.t 53) (kR 0)]) (.sq (.rg [.bd 25 0 [], .st (.t 4) (.t 25) (kR 0), .mv 5 (.b false)]) .rt)
def w32_spec_TypeAt : C := .kp [1, 2, 4, 6, 7, 41] [[2], [4]] c32_spec_TypeAt
def c28_spec_TypeAt : C := .cd (.t 26) (.rg [.fa 37 (.t 2) 0 2 2, .ld 38 (.t 37) (kL (kR 0)), .ia 39 (.t 38) (.i 0) (kR 0), .ld 40 (.t 39) (kR 0), .st (.t 2) (.t 40) (kR 0)]) (.sq (.rg [.fa 42 (.t 2) 0 0 0, .ld 43 (.t 42) kI, .bi 44 .eql (.t 43) (.i 3), .mv 45 (.t 44), .g 45 true (.mv 46 (.t 7)), .g 45 true (.bi 47 .geq (.t 46) (.i 0)), .pk 48 (.t 45) (.t 47) (.b false), .mv 41 (.t 48)]) w32_spec_TypeAt)
def w28_spec_TypeAt : C := .kp [1, 2, 4, 6, 7, 26] [[2], [4]] c28_spec_TypeAt
def c15_spec_TypeAt : C := .sq (.sq (.rg [.mv 12 (.t 6), .mv 13 (.t 1), .ln 14 false (.t 13), .bi 15 .lss (.t 12) (.t 14)]) (.cd (.t 15) .skip (.ex 0))) (.sq (.bk 1 (.sq (.dr [] [.fa 18 (.t 2) 0 1 1, .ld 19 (.t 18) (kL kS), .mv 20 (.t 1), .mv 21 (.t 6), .ia 22 (.t 20) (.t 21) kS, .ld 23 (.t 22) kS] [.cv (some 24) 98 [((.t 19), .v (kL kS)), ((.t 23), .v kS)], .mv 7 (.t 24)]) (.bk 2 (.sq (.rg [.fa 27 (.t 2) 0 0 0, .ld 28 (.t 27) kI, .bi 29 .eql (.t 28) (.i 4), .mv 30 (.t 29), .g 30 true (.mv 31 (.t 1)), .g 30 true (.mv 32 (.t 6)), .g 30 true (.ia 33 (.t 31) (.t 32) kS), .g 30 true (.ld 34 (.t 33) kS), .g 30 true (.bi 35 .eql (.t 34) (.s [33])), .pk 36 (.t 30) (.t 35) (.b false), .mv 26 (.t 36)]) w28_spec_TypeAt)))) c37_spec_TypeAt)
def ir_spec_TypeAt : C := .sq (.rg [.bx 2 (.t 0) (kR 0), .al 4 (kR 0), .mv 5 (.b false)]) (.sq (.sq (.rg [.ld 8 (.t 2) (kR 0), .cv (some 9) 51 [((.t 8), .v (kR 0))], .un 10 .not (.t 9)]) (.cd (.t 10) (.sq (.rg [.bd 11 0 [], .st (.t 4) (.t 11) (kR 0), .mv 5 (.b false)]) .rt) .skip)) (.sq (.sq (.rg [.mv 6 (.i 0)]) (.bk 0 (.lk [1, 2, 4, 6] [[2], [4]] c15_spec_TypeAt))) w38_spec_TypeAt))
noncomputable abbrev T_spec_TypeAt (nf : Nat) : XT := [e_spec_IsValidType nf, e_spec_IndexOf nf, e_spec_l3Copy nf]
noncomputable def m_spec_TypeAt (nf : Nat) (t : Ty) (path : List Str) : Option (Ty × Bool) := runF (T_spec_TypeAt nf) nf [.v (kR 0), .v (kL kS)] [.c 4 (.o (kR 0)), .t 5 (.v .bool)] ir_spec_TypeAt (t, path, ())
noncomputable def X_spec_TypeAt {R : Type} (nf : Nat) : C → Env → (Xt → Env → Option R) → Option R := xc (R := R) (T_spec_TypeAt nf).S nf
noncomputable def j32_spec_TypeAt (nf : Nat) (m14 : Nat) (path : List Str) (x6_14 : Int) (r24 : Int) (y2_14_0 : Int) (y2_14_1 : List Str) (y2_14_2 : List Ty) (x41_32 : Bool) : Option (Ty × Bool) := X_spec_TypeAt nf c32_spec_TypeAt ⟨[(1, .v (kL kS) path), (2, .pt [2] 0), (4, .pt [4] 0), (6, .v kI x6_14), (7, .v kI r24), (41, .v .bool x41_32)], [([2], .box [.v kI y2_14_0, .v (kL kS) y2_14_1, .v (kL (kR 0)) y2_14_2]), ([4], .box [.v kI (0 : Int), .nl kS, .nl (kR 0)])]⟩ (qB 2 (qB 1 (qS (X_spec_TypeAt nf c37_spec_TypeAt) (qM [1, 2, 4, 6] [[2], [4]] (X_spec_TypeAt nf c15_spec_TypeAt) m14 (qB 0 (qS (X_spec_TypeAt nf w38_spec_TypeAt) (KF [.c 4 (.o (kR 0)), .t 5 (.v .bool)])))))))
noncomputable def j28_spec_TypeAt (nf : Nat) (m14 : Nat) (path : List Str) (x6_14 : Int) (r24 : Int) (y2_14_0 : Int) (y2_14_1 : List Str) (y2_14_2 : List Ty) (x26_28 : Bool) : Option (Ty × Bool) := X_spec_TypeAt nf c28_spec_TypeAt ⟨[(1, .v (kL kS) path), (2, .pt [2] 0), (4, .pt [4] 0), (6, .v kI x6_14), (7, .v kI r24), (26, .v .bool x26_28)], [([2], .box [.v kI y2_14_0, .v (kL kS) y2_14_1, .v (kL (kR 0)) y2_14_2]), ([4], .box [.v kI (0 : Int), .nl kS, .nl (kR 0)])]⟩ (qB 2 (qB 1 (qS (X_spec_TypeAt nf c37_spec_TypeAt) (qM [1, 2, 4, 6] [[2], [4]] (X_spec_TypeAt nf c15_spec_TypeAt) m14 (qB 0 (qS (X_spec_TypeAt nf w38_spec_TypeAt) (KF [.c 4 (.o (kR 0)), .t 5 (.v .bool)])))))))
noncomputable def l14_spec_TypeAt (nf : Nat) (m14 : Nat) (path : List Str) (x6_14 : Int) (y2_14_0 : Int) (y2_14_1 : List Str) (y2_14_2 : List Ty) : Option (Ty × Bool) := xit [1, 2, 4, 6] [[2], [4]] (X_spec_TypeAt nf c15_spec_TypeAt) (qB 0 (qS (X_spec_TypeAt nf w38_spec_TypeAt) (KF [.c 4 (.o (kR 0)), .t 5 (.v .bool)]))) m14 ⟨[(1, .v (kL kS) path), (2, .pt [2] 0), (4, .pt [4] 0), (6, .v kI x6_14)], [([2], .box [.v kI y2_14_0, .v (kL kS) y2_14_1, .v (kL (kR 0)) y2_14_2]), ([4], .box [.v kI (0 : Int), .nl kS, .nl (kR 0)])]⟩
noncomputable def j38_spec_TypeAt (nf : Nat) (y2_14_0 : Int) (y2_14_1 : List Str) (y2_14_2 : List Ty) : Option (Ty × Bool) := X_spec_TypeAt nf c38_spec_TypeAt ⟨[(2, .pt [2] 0), (4, .pt [4] 0)], [([2], .box [.v kI y2_14_0, .v (kL kS) y2_14_1, .v (kL (kR 0)) y2_14_2]), ([4], .box [.v kI (0 : Int), .nl kS, .nl (kR 0)])]⟩ (KF [.c 4 (.o (kR 0)), .t 5 (.v .bool)])
theorem j32_spec_TypeAt_eq (nf : Nat) (m14 : Nat) (path : List Str) (x6_14 : Int) (r24 : Int) (y2_14_0 : Int) (y2_14_1 : List Str) (y2_14_2 : List Ty) (x41_32 : Bool) : j32_spec_TypeAt nf m14 path x6_14 r24 y2_14_0 y2_14_1 y2_14_2 x41_32 = (
  br x41_32 (
    gg (0 ≤ r24 ∧ r24 < (List.length y2_14_2 : Int)) <|
      mark (l14_spec_TypeAt nf m14 path (w64 (x6_14 + (1 : Int))) ((gt y2_14_2 r24 Ty.zero).kind) ((gt y2_14_2 r24 Ty.zero).labels) ((gt y2_14_2 r24 Ty.zero).args))) (
    some ((Ty.mk (0 : Int) ([] : List Str) ([] : List Ty)), false))) := by
  unfold j32_spec_TypeAt l14_spec_TypeAt c32_spec_TypeAt w38_spec_TypeAt c37_spec_TypeAt
  generalize c38_spec_TypeAt = x0
  revert x0
  refine id ?_
  intro x0
  kernel_rfl
theorem j28_spec_TypeAt_eq (nf : Nat) (m14 : Nat) (path : List Str) (x6_14 : Int) (r24 : Int) (y2_14_0 : Int) (y2_14_1 : List Str) (y2_14_2 : List Ty) (x26_28 : Bool) : j28_spec_TypeAt nf m14 path x6_14 r24 y2_14_0 y2_14_1 y2_14_2 x26_28 = (
  br x26_28 (
    gg (0 ≤ (0 : Int) ∧ (0 : Int) < (List.length y2_14_2 : Int)) <|
      mark (l14_spec_TypeAt nf m14 path (w64 (x6_14 + (1 : Int))) ((gt y2_14_2 (0 : Int) Ty.zero).kind) ((gt y2_14_2 (0 : Int) Ty.zero).labels) ((gt y2_14_2 (0 : Int) Ty.zero).args))) (
    br ((y2_14_0 == (3 : Int)) == true) (
      mark (j32_spec_TypeAt nf m14 path x6_14 r24 y2_14_0 y2_14_1 y2_14_2 (decide ((0 : Int) ≤ r24)))) (
      mark (j32_spec_TypeAt nf m14 path x6_14 r24 y2_14_0 y2_14_1 y2_14_2 false)))) := by
  unfold j28_spec_TypeAt l14_spec_TypeAt j32_spec_TypeAt c28_spec_TypeAt w38_spec_TypeAt c37_spec_TypeAt w32_spec_TypeAt
  generalize c38_spec_TypeAt = x0
  generalize c32_spec_TypeAt = x1
  revert x0 x1
  refine id ?_
  intro x0 x1
  kernel_rfl
theorem l14_spec_TypeAt_eq (nf : Nat) (m14 : Nat) (path : List Str) (x6_14 : Int) (y2_14_0 : Int) (y2_14_1 : List Str) (y2_14_2 : List Ty) : l14_spec_TypeAt nf (m14 + 1) path x6_14 y2_14_0 y2_14_1 y2_14_2 = (
  br (decide (x6_14 < (List.length path : Int))) (
    gg (0 ≤ x6_14 ∧ x6_14 < (List.length path : Int)) <|
      cb (m_spec_IndexOf nf y2_14_1 (gt path x6_14 ([] : Str))) fun r24 =>
        br ((y2_14_0 == (4 : Int)) == true) (
          gg (0 ≤ x6_14 ∧ x6_14 < (List.length path : Int)) <|
            mark (j28_spec_TypeAt nf m14 path x6_14 r24 y2_14_0 y2_14_1 y2_14_2 ((gt path x6_14 ([] : Str)) == ([33] : Str)))) (
          mark (j28_spec_TypeAt nf m14 path x6_14 r24 y2_14_0 y2_14_1 y2_14_2 false))) (
    mark (j38_spec_TypeAt nf y2_14_0 y2_14_1 y2_14_2))) := by
  unfold l14_spec_TypeAt j28_spec_TypeAt j38_spec_TypeAt c15_spec_TypeAt w38_spec_TypeAt w28_spec_TypeAt c37_spec_TypeAt
  generalize c38_spec_TypeAt = x0
  generalize c28_spec_TypeAt = x1
  revert x0 x1
  refine id ?_
  intro x0 x1
  kernel_rfl
theorem j38_spec_TypeAt_eq (nf : Nat) (y2_14_0 : Int) (y2_14_1 : List Str) (y2_14_2 : List Ty) : j38_spec_TypeAt nf y2_14_0 y2_14_1 y2_14_2 = (
  cb (m_spec_l3Copy nf nf (Ty.mk y2_14_0 y2_14_1 y2_14_2)) fun r55 =>
    some ((Ty.h r55), true)) := by kernel_rfl
theorem m_spec_TypeAt_eq (nf : Nat) (t : Ty) (path : List Str) : m_spec_TypeAt nf t path = (
  cb (m_spec_IsValidType nf (Ty.h t)) fun r9 =>
    br (!r9) (
      some ((Ty.mk (0 : Int) ([] : List Str) ([] : List Ty)), false)) (
      mark (l14_spec_TypeAt nf nf path (0 : Int) t.kind t.labels t.args))) := by
  unfold m_spec_TypeAt l14_spec_TypeAt ir_spec_TypeAt w38_spec_TypeAt
  generalize c38_spec_TypeAt = x0
  revert x0
  refine id ?_
  intro x0
  kernel_rfl
noncomputable def e_spec_TypeAt (nf : Nat) : XE := eF 39 [.v (kR 0), .v (kL kS)] [.o (kR 0), .v .bool] (fun t => m_spec_TypeAt nf t.1 t.2.1)
theorem o_spec_TypeAt (nf : Nat) : conOK Try.prog 39 (e_spec_TypeAt nf).con := by
  have ih : XT.ok Try.prog (T_spec_TypeAt nf) := by exact ⟨o_spec_IsValidType nf, o_spec_IndexOf nf, o_spec_l3Copy nf, trivial⟩
  refine eF_ok fun t x h => ?_
  obtain ⟨t, path, _⟩ := t
  exact runF_ok (N := 56) ih Try.func39 (by kernel_rfl) rfl h
def c104_laws_FnExactTypeAt : C := .sq (.rg [.mv 14 (.i 1)]) (.sq (.rg [.ld 111 (.t 10) (kR 0), .mv 112 (.t 14), .cv (some 113) 44 [((.t 111), .v (kR 0)), ((.t 112), .v kI)], .mv 14 (.t 113)]) (.sq (.sq (.rg [.mv 114 (.t 14), .bi 115 .lss (.t 114) (.i 0)]) (.cd (.t 115) (.sq (.rg [.mv 4 (.b false)]) .rt) .skip)) (.sq (.sq (.rg [.mv 116 (.t 14), .mv 117 (.t 13), .bi 118 .neq (.t 116) (.t 117)]) (.cd (.t 118) (.sq (.rg [.mv 4 (.b false)]) .rt) .skip)) (.sq (.rg [.mv 4 (.b true)]) .rt))))
def c99_laws_FnExactTypeAt : C := .cd (.t 110) (.sq (.rg [.mv 4 (.b false)]) .rt) .skip
def w99_laws_FnExactTypeAt : C := .kp [10, 13, 110] [[10], [42, 0, 1], [42, 0, 2]] c99_laws_FnExactTypeAt
def c70_laws_FnExactTypeAt : C := .sq (.rg [.mv 13 (.i 1)]) (.sq (.rg [.ld 83 (.t 10) (kR 0), .mv 84 (.t 13), .cq (some 85) 19 [((.t 83), .q), ((.t 84), .v kI)], .mv 13 (.t 85)]) (.sq (.rg [.mv 14 (.i 1)]) (.sq (.rg [.ld 86 (.t 10) (kR 0), .mv 87 (.t 14), .cv (some 88) 44 [((.t 86), .v (kR 0)), ((.t 87), .v kI)], .mv 14 (.t 88)]) (.sq (.sq (.rg [.mv 89 (.t 14), .bi 90 .lss (.t 89) (.i 0)]) (.cd (.t 90) (.sq (.rg [.mv 4 (.b false)]) .rt) .skip)) (.sq (.sq (.rg [.mv 91 (.t 14), .mv 92 (.t 13), .bi 93 .neq (.t 91) (.t 92)]) (.cd (.t 93) (.sq (.rg [.mv 4 (.b false)]) .rt) .skip)) (.sq (.rg [.ld 95 (.t 2) (kR 0), .cv (some 96) 15 [((.t 95), .v (kR 0))], .mv 97 (.t 1), .cv (some 98) 40 [((.t 97), .v (kL kS))], .ca (some 99) 41 [((.t 96), .v (kR 0)), ((.t 98), .v (kL kS))], .mv 94 (.t 99), .xt 100 (.t 94) 0, .xt 101 (.t 94) 1, .al 15 (kR 0), .st (.t 15) (.t 100) (kR 0), .mv 16 (.t 101)]) (.sq (.sq (.rg [.ld 102 (.t 15) (kR 0), .ld 103 (.t 6) (kR 0), .cv (some 104) 18 [((.t 102), .v (kR 0)), ((.t 103), .v (kR 0))], .un 105 .not (.t 104), .mv 106 (.t 105), .g 106 false (.mv 107 (.t 16)), .g 106 false (.mv 108 (.t 7)), .g 106 false (.be 109 true (.t 107) (.t 108)), .pk 110 (.t 106) (.b true) (.t 109)]) w99_laws_FnExactTypeAt) c104_laws_FnExactTypeAt)))))))
def c65_laws_FnExactTypeAt : C := .cd (.t 82) (.sq (.rg [.mv 4 (.b false)]) .rt) .skip
def w65_laws_FnExactTypeAt : C := .kp [1, 2, 6, 7, 10, 82] [[2], [6], [10], [32, 0, 1], [32, 0, 2], [42, 0, 1], [42, 0, 2]] c65_laws_FnExactTypeAt
def c40_laws_FnExactTypeAt : C := .sq (.sq (.dr [] [.ld 54 (.t 8) (kR 0), .ld 55 (.t 2) (kR 0), .cv (some 56) 15 [((.t 55), .v (kR 0))]] [.cv (some 57) 18 [((.t 54), .v (kR 0)), ((.t 56), .v (kR 0))], .un 58 .not (.t 57)]) (.cd (.t 58) (.sq (.rg [.mv 4 (.b false)]) .rt) .skip)) (.sq (.sq (.rg [.mv 59 (.t 9), .mv 60 (.t 1), .cv (some 61) 40 [((.t 60), .v (kL kS))], .cv (some 62) 42 [((.t 59), .v (kL kS)), ((.t 61), .v (kL kS))], .un 63 .not (.t 62)]) (.cd (.t 63) (.sq (.rg [.mv 4 (.b false)]) .rt) .skip)) (.sq (.rg [.mv 12 (.i 1)]) (.sq (.rg [.ld 64 (.t 8) (kR 0), .mv 65 (.t 12), .cq (some 66) 19 [((.t 64), .q), ((.t 65), .v kI)], .mv 12 (.t 66)]) (.sq (.rg [.mv 67 (.t 9), .mv 68 (.t 12), .cw (some 69) 43 kS (.t 67) (.t 68), .mv 12 (.t 69)]) (.sq (.sq (.rg [.mv 70 (.t 12), .bi 71 .lss (.t 70) (.i 0), .mv 72 (.t 71), .g 72 false (.ld 73 (.t 10) (kR 0)), .g 72 false (.ld 74 (.t 6) (kR 0)), .g 72 false (.cv (some 75) 18 [((.t 73), .v (kR 0)), ((.t 74), .v (kR 0))]), .g 72 false (.un 76 .not (.t 75)), .pk 77 (.t 72) (.b true) (.t 76), .mv 78 (.t 77), .g 78 false (.mv 79 (.t 11)), .g 78 false (.mv 80 (.t 7)), .g 78 false (.be 81 true (.t 79) (.t 80)), .pk 82 (.t 78) (.b true) (.t 81)]) w65_laws_FnExactTypeAt) c70_laws_FnExactTypeAt)))))
def c35_laws_FnExactTypeAt : C := .cd (.t 53) (.sq (.rg [.mv 4 (.b false)]) .rt) .skip
def w35_laws_FnExactTypeAt : C := .kp [1, 2, 6, 7, 8, 9, 10, 11, 53] [[2], [6], [8], [10], [32, 0, 1], [32, 0, 2], [36, 1], [36, 2], [38], [42, 0, 1], [42, 0, 2]] c35_laws_FnExactTypeAt
def ir_laws_FnExactTypeAt : C := .sq (.rg [.bx 2 (.t 0) (kR 0), .mv 4 (.b false)]) (.sq (.rg [.mv 5 (.i 1048576)]) (.sq (.rg [.ld 17 (.t 2) (kR 0), .mv 18 (.t 5), .cv (some 19) 13 [((.t 17), .v (kR 0)), ((.t 18), .v kI)], .mv 5 (.t 19)]) (.sq (.sq (.rg [.mv 20 (.t 5), .bi 21 .lss (.t 20) (.i 0)]) (.cd (.t 21) (.sq (.rg [.mv 4 (.b true)]) .rt) .skip)) (.sq (.rg [.mv 22 (.t 1), .mv 23 (.t 5), .cv (some 24) 38 [((.t 22), .v (kL kS)), ((.t 23), .v kI)], .mv 5 (.t 24)]) (.sq (.sq (.rg [.mv 25 (.t 5), .bi 26 .lss (.t 25) (.i 0)]) (.cd (.t 26) (.sq (.rg [.mv 4 (.b true)]) .rt) .skip)) (.sq (.rg [.ld 28 (.t 2) (kR 0), .cv (some 29) 15 [((.t 28), .v (kR 0))], .mv 30 (.t 1), .cv (some 31) 40 [((.t 30), .v (kL kS))], .ca (some 32) 39 [((.t 29), .v (kR 0)), ((.t 31), .v (kL kS))], .mv 27 (.t 32), .xt 33 (.t 27) 0, .xt 34 (.t 27) 1, .al 6 (kR 0), .st (.t 6) (.t 33) (kR 0), .mv 7 (.t 34)]) (.sq (.rg [.ld 35 (.t 2) (kR 0), .ca (some 36) 15 [((.t 35), .v (kR 0))], .al 8 (kR 0), .st (.t 8) (.t 36) (kR 0)]) (.sq (.rg [.mv 37 (.t 1), .ca (some 38) 40 [((.t 37), .v (kL kS))], .mv 9 (.t 38)]) (.sq (.rg [.ld 40 (.t 8) (kR 0), .mv 41 (.t 9), .ca (some 42) 41 [((.t 40), .v (kR 0)), ((.t 41), .v (kL kS))], .mv 39 (.t 42), .xt 43 (.t 39) 0, .xt 44 (.t 39) 1, .al 10 (kR 0), .st (.t 10) (.t 43) (kR 0), .mv 11 (.t 44)]) (.sq (.sq (.rg [.ld 45 (.t 10) (kR 0), .ld 46 (.t 6) (kR 0), .cv (some 47) 18 [((.t 45), .v (kR 0)), ((.t 46), .v (kR 0))], .un 48 .not (.t 47), .mv 49 (.t 48), .g 49 false (.mv 50 (.t 11)), .g 49 false (.mv 51 (.t 7)), .g 49 false (.be 52 true (.t 50) (.t 51)), .pk 53 (.t 49) (.b true) (.t 52)]) w35_laws_FnExactTypeAt) c40_laws_FnExactTypeAt))))))))))
noncomputable abbrev T_laws_FnExactTypeAt (nf : Nat) : XT := [e_laws_szType nf, e_laws_szStringS nf, e_laws_toType nf, e_laws_toStringS nf, e_spec_TypeAt nf, e_impl_TypeAt nf, e_laws_eqType nf, e_laws_eqStringS nf, e_laws_markType nf, e_laws_markStringS nf, e_laws_heldType nf]
noncomputable def m_laws_FnExactTypeAt (nf : Nat) (a : Ty) (b : List Str) : Option (Bool) := runF (T_laws_FnExactTypeAt nf) nf [.v (kR 0), .v (kL kS)] [.t 4 (.v .bool)] ir_laws_FnExactTypeAt (a, b, ())
noncomputable def X_laws_FnExactTypeAt {R : Type} (nf : Nat) : C → Env → (Xt → Env → Option R) → Option R := xc (R := R) (T_laws_FnExactTypeAt nf).S nf
noncomputable def j35_laws_FnExactTypeAt (nf : Nat) (b : List Str) (r32 : Ty × Bool) (r42 : Ty × Bool) (a : Ty) (r36 : Ty) (r38 : (List Str)) (x53_35 : Bool) : Option (Bool) := X_laws_FnExactTypeAt nf c35_laws_FnExactTypeAt ⟨[(1, .v (kL kS) b), (2, .pt [2] 0), (6, .pt [6] 0), (7, .v .bool r32.2), (8, .pt [8] 0), (9, .sl [38]), (10, .pt [10] 0), (11, .v .bool r42.2), (53, .v .bool x53_35)], [([2], .box [.v kI a.kind, .v (kL kS) a.labels, .v (kL (kR 0)) a.args]), ([6], .box [.v kI r32.1.kind, .sl [32, 0, 1], .sl [32, 0, 2]]), ([8], .box [.v kI r36.kind, .sl [36, 1], .sl [36, 2]]), ([10], .box [.v kI r42.1.kind, .sl [42, 0, 1], .sl [42, 0, 2]]), ([32, 0, 1], .row true false kS r32.1.labels), ([32, 0, 2], .row true false (kR 0) r32.1.args), ([36, 1], .row true false kS r36.labels), ([36, 2], .row true false (kR 0) r36.args), ([38], .row true false kS r38), ([42, 0, 1], .row true false kS r42.1.labels), ([42, 0, 2], .row true false (kR 0) r42.1.args)]⟩ (qS (X_laws_FnExactTypeAt nf c40_laws_FnExactTypeAt) (KF [.t 4 (.v .bool)]))
noncomputable def j65_laws_FnExactTypeAt (nf : Nat) (b : List Str) (r32 : Ty × Bool) (a : Ty) (r42 : Ty × Bool) (x82_65 : Bool) : Option (Bool) := X_laws_FnExactTypeAt nf c65_laws_FnExactTypeAt ⟨[(1, .v (kL kS) b), (2, .pt [2] 0), (6, .pt [6] 0), (7, .v .bool r32.2), (10, .pt [10] 0), (82, .v .bool x82_65)], [([2], .box [.v kI a.kind, .v (kL kS) a.labels, .v (kL (kR 0)) a.args]), ([6], .box [.v kI r32.1.kind, .sl [32, 0, 1], .sl [32, 0, 2]]), ([10], .box [.v kI r42.1.kind, .sl [42, 0, 1], .sl [42, 0, 2]]), ([32, 0, 1], .row true false kS r32.1.labels), ([32, 0, 2], .row true false (kR 0) r32.1.args), ([42, 0, 1], .row true false kS r42.1.labels), ([42, 0, 2], .row true false (kR 0) r42.1.args)]⟩ (qS (X_laws_FnExactTypeAt nf c70_laws_FnExactTypeAt) (KF [.t 4 (.v .bool)]))
noncomputable def j99_laws_FnExactTypeAt (nf : Nat) (r85 : (Int) × (List Str) × (List Ty)) (r42 : Ty × Bool) (x110_99 : Bool) : Option (Bool) := X_laws_FnExactTypeAt nf c99_laws_FnExactTypeAt ⟨[(10, .pt [10] 0), (13, .v kI r85.1), (110, .v .bool x110_99)], [([10], .box [.v kI r42.1.kind, .sl [42, 0, 1], .sl [42, 0, 2]]), ([42, 0, 1], .row true false kS r85.2.1), ([42, 0, 2], .row true false (kR 0) r85.2.2)]⟩ (qS (X_laws_FnExactTypeAt nf c104_laws_FnExactTypeAt) (KF [.t 4 (.v .bool)]))
theorem j35_laws_FnExactTypeAt_eq (nf : Nat) (b : List Str) (r32 : Ty × Bool) (r42 : Ty × Bool) (a : Ty) (r36 : Ty) (r38 : (List Str)) (x53_35 : Bool) : j35_laws_FnExactTypeAt nf b r32 r42 a r36 r38 x53_35 = (
  br x53_35 (
    some false) (
    cb (m_laws_toType nf nf (Ty.h a)) fun r56 =>
      cb (m_laws_eqType nf nf (Ty.h r36) r56) fun r57 =>
        br (!r57) (
          some false) (
          cb (m_laws_toStringS nf b) fun r61 =>
            cb (m_laws_eqStringS nf r38 r61) fun r62 =>
              br (!r62) (
                some false) (
                cb (m_laws_markType nf r36.kind (1 : Int) r36.labels r36.args) fun r66 =>
                  cb (m_laws_markStringS nf r38 r66.1) fun r69 =>
                    br ((decide (r69.2 < (0 : Int))) == false) (
                      cb (m_laws_eqType nf nf (Ty.h r42.1) (Ty.h r32.1)) fun r75 =>
                        br ((!r75) == false) (
                          mark (j65_laws_FnExactTypeAt nf b r32 a r42 (!(r42.2 == r32.2)))) (
                          mark (j65_laws_FnExactTypeAt nf b r32 a r42 true))) (
                      mark (j65_laws_FnExactTypeAt nf b r32 a r42 true)))))) := by
  unfold j35_laws_FnExactTypeAt j65_laws_FnExactTypeAt c35_laws_FnExactTypeAt c40_laws_FnExactTypeAt w65_laws_FnExactTypeAt c70_laws_FnExactTypeAt w99_laws_FnExactTypeAt c104_laws_FnExactTypeAt
  generalize c65_laws_FnExactTypeAt = x0
  generalize c99_laws_FnExactTypeAt = x1
  revert x0 x1
  refine id ?_
  intro x0 x1
  kernel_rfl
theorem j65_laws_FnExactTypeAt_eq (nf : Nat) (b : List Str) (r32 : Ty × Bool) (a : Ty) (r42 : Ty × Bool) (x82_65 : Bool) : j65_laws_FnExactTypeAt nf b r32 a r42 x82_65 = (
  br x82_65 (
    some false) (
    cb (m_laws_markType nf r42.1.kind (1 : Int) r42.1.labels r42.1.args) fun r85 =>
      cb (m_laws_heldType nf (Ty.mk r42.1.kind r85.2.1 r85.2.2) (1 : Int)) fun r88 =>
        br (decide (r88 < (0 : Int))) (
          some false) (
          br (!(r88 == r85.1)) (
            some false) (
            cb (m_laws_toType nf nf (Ty.h a)) fun r96 =>
              cb (m_laws_toStringS nf b) fun r98 =>
                cb (m_impl_TypeAt nf r96 r98) fun r99 =>
                  cb (m_laws_eqType nf nf (Ty.h r99.1) (Ty.h r32.1)) fun r104 =>
                    br ((!r104) == false) (
                      mark (j99_laws_FnExactTypeAt nf r85 r42 (!(r99.2 == r32.2)))) (
                      mark (j99_laws_FnExactTypeAt nf r85 r42 true)))))) := by
  unfold j65_laws_FnExactTypeAt j99_laws_FnExactTypeAt c65_laws_FnExactTypeAt c70_laws_FnExactTypeAt w99_laws_FnExactTypeAt c104_laws_FnExactTypeAt
  generalize c99_laws_FnExactTypeAt = x0
  revert x0
  refine id ?_
  intro x0
  kernel_rfl
theorem j99_laws_FnExactTypeAt_eq (nf : Nat) (r85 : (Int) × (List Str) × (List Ty)) (r42 : Ty × Bool) (x110_99 : Bool) : j99_laws_FnExactTypeAt nf r85 r42 x110_99 = (
  br x110_99 (
    some false) (
    cb (m_laws_heldType nf (Ty.mk r42.1.kind r85.2.1 r85.2.2) (1 : Int)) fun r113 =>
      br (decide (r113 < (0 : Int))) (
        some false) (
        br (!(r113 == r85.1)) (
          some false) (
          some true)))) := by kernel_rfl
theorem m_laws_FnExactTypeAt_eq (nf : Nat) (a : Ty) (b : List Str) : m_laws_FnExactTypeAt nf a b = (
  cb (m_laws_szType nf nf (Ty.h a) (1048576 : Int)) fun r19 =>
    br (decide (r19 < (0 : Int))) (
      some true) (
      cb (m_laws_szStringS nf b r19) fun r24 =>
        br (decide (r24 < (0 : Int))) (
          some true) (
          cb (m_laws_toType nf nf (Ty.h a)) fun r29 =>
            cb (m_laws_toStringS nf b) fun r31 =>
              cb (m_spec_TypeAt nf r29 r31) fun r32 =>
                cb (m_laws_toType nf nf (Ty.h a)) fun r36 =>
                  cb (m_laws_toStringS nf b) fun r38 =>
                    cb (m_impl_TypeAt nf (Ty.h r36) r38) fun r42 =>
                      cb (m_laws_eqType nf nf (Ty.h r42.1) (Ty.h r32.1)) fun r47 =>
                        br ((!r47) == false) (
                          mark (j35_laws_FnExactTypeAt nf b r32 r42 a r36 r38 (!(r42.2 == r32.2)))) (
                          mark (j35_laws_FnExactTypeAt nf b r32 r42 a r36 r38 true))))) := by
  unfold m_laws_FnExactTypeAt j35_laws_FnExactTypeAt ir_laws_FnExactTypeAt w35_laws_FnExactTypeAt c40_laws_FnExactTypeAt w65_laws_FnExactTypeAt c70_laws_FnExactTypeAt w99_laws_FnExactTypeAt c104_laws_FnExactTypeAt
  generalize c35_laws_FnExactTypeAt = x0
  generalize c65_laws_FnExactTypeAt = x1
  generalize c99_laws_FnExactTypeAt = x2
  revert x0 x1 x2
  refine id ?_
  intro x0 x1 x2
  kernel_rfl
noncomputable def e_laws_FnExactTypeAt (nf : Nat) : XE := eF 7 [.v (kR 0), .v (kL kS)] [.v .bool] (fun t => m_laws_FnExactTypeAt nf t.1 t.2.1)
theorem o_laws_FnExactTypeAt (nf : Nat) : conOK Try.prog 7 (e_laws_FnExactTypeAt nf).con := by
  have ih : XT.ok Try.prog (T_laws_FnExactTypeAt nf) := by exact ⟨o_laws_szType nf, o_laws_szStringS nf, o_laws_toType nf, o_laws_toStringS nf, o_spec_TypeAt nf, o_impl_TypeAt nf, o_laws_eqType nf, o_laws_eqStringS nf, o_laws_markType nf, o_laws_markStringS nf, o_laws_heldType nf, trivial⟩
  refine eF_ok fun t x h => ?_
  obtain ⟨a, b, _⟩ := t
  exact runF_ok (N := 119) ih Try.func7 (by kernel_rfl) rfl h
end Go.Q
