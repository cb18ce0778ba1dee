/- Terms and plans. -/
import Derived.Test.YtkbanchknllcnaaA2
import Derived.Test.YtkbanchknllcnaaProg
import Derived.KernelRfl
set_option linter.unusedVariables false
set_option linter.unusedSimpArgs false
namespace Go.Q
open Go.Proofs
set_option linter.unusedVariables false
set_option maxRecDepth 20000
set_option maxHeartbeats 4000000
def c10_slices_Clone_string_string : C := .sq (.rg [.bs 5 true kS [], .mv 6 (.t 0), .an 7 true kS (.t 5) (.t 6), .mv 2 (.t 7)]) .rt
def c5_slices_Clone_string_string : C := .cd (.t 4) (.sq (.rg [.mv 2 (.nl kS)]) .rt) .skip
def w5_slices_Clone_string_string : C := .kp [0, 4] [] c5_slices_Clone_string_string
def ir_slices_Clone_string_string : C := .sq (.rg [.mv 2 (.nl kS)]) (.sq (.sq (.rg [.mv 3 (.t 0), .nq 4 false false (.t 3)]) w5_slices_Clone_string_string) c10_slices_Clone_string_string)
noncomputable abbrev T_slices_Clone_string_string (nf : Nat) : XT := []
noncomputable def m_slices_Clone_string_string (nf : Nat) (a : List Str) : Option (List Str) := runF (T_slices_Clone_string_string nf) nf [.v (kL kS)] [.t 2 (.o (kL kS))] ir_slices_Clone_string_string (a, ())
noncomputable def X_slices_Clone_string_string {R : Type} (nf : Nat) : C → Env → (Xt → Env → Option R) → Option R := xc (R := R) (T_slices_Clone_string_string nf).S nf
noncomputable def j5_slices_Clone_string_string (nf : Nat) (a : List Str) (x4_5 : Bool) : Option (List Str) := X_slices_Clone_string_string nf c5_slices_Clone_string_string ⟨[(0, .v (kL kS) a), (4, .v .bool x4_5)], []⟩ (qS (X_slices_Clone_string_string nf c10_slices_Clone_string_string) (KF [.t 2 (.o (kL kS))]))
theorem j5_slices_Clone_string_string_eq (nf : Nat) (a : List Str) (x4_5 : Bool) : j5_slices_Clone_string_string nf a x4_5 = (
  br x4_5 (
    some ([] : List Str)) (
    gg (List.length a ≤ 33554432) <|
      some a)) := by kernel_rfl
theorem m_slices_Clone_string_string_eq (nf : Nat) (a : List Str) : m_slices_Clone_string_string nf a = (
  br (List.isEmpty a) (
    both (
      mark (j5_slices_Clone_string_string nf a false)) (
      mark (j5_slices_Clone_string_string nf a true))) (
    mark (j5_slices_Clone_string_string nf a false))) := by
  unfold m_slices_Clone_string_string j5_slices_Clone_string_string ir_slices_Clone_string_string w5_slices_Clone_string_string c10_slices_Clone_string_string
  generalize c5_slices_Clone_string_string = x0
  revert x0
  refine id ?_
  intro x0
  kernel_rfl
noncomputable def e_slices_Clone_string_string (nf : Nat) : XE := eF 144 [.v (kL kS)] [.o (kL kS)] (fun t => m_slices_Clone_string_string nf t.1)
theorem o_slices_Clone_string_string (nf : Nat) : conOK Try.prog 144 (e_slices_Clone_string_string nf).con := by
  have ih : XT.ok Try.prog (T_slices_Clone_string_string nf) := by exact trivial
  refine eF_ok fun t x h => ?_
  obtain ⟨a, _⟩ := t
  exact runF_ok (N := 8) ih Try.func144 (by kernel_rfl) rfl h
def c21_impl_cloneType : C := .sq (.rg [.ld 27 (.t 3) (kR 0), .st (.t 2) (.t 27) (kR 0)]) .rt
def c9_impl_cloneType : C := .sq (.rg [.bi 16 .lss (.t 15) (.t 14)]) (.sq (.cd (.t 16) .skip (.ex 0)) (.sq (.bk 1 (.sq (.rg [.ia 17 (.t 13) (.t 15) (kR 0), .ld 18 (.t 17) (kR 0), .al 5 (kR 0), .st (.t 5) (.t 18) (kR 0)]) (.gb 3 2 true (kR 0) (.dr [22, 23] [.fa 19 (.t 3) 0 2 2, .ld 20 (.t 19) (kL (kR 0)), .ld 21 (.t 5) (kR 0), .ca (some 22) 102 [((.t 21), .v (kR 0))], .bl 23 (kR 0) [(.t 22)]] [.apl 24 [3, 2] (kR 0) (.t 20) 23, .fa 25 (.t 3) 0 2 2, .st (.t 25) (.t 24) (kL (kR 0))])))) (.rg [.bi 26 .add (.t 15) (.i 1), .mv 15 (.t 26)])))
def ir_impl_cloneType : C := .sq (.rg [.bx 1 (.t 0) (kR 0), .al 2 (kR 0)]) (.sq (.dr [10, 3] [.fa 6 (.t 1) 0 0 0, .ld 7 (.t 6) kI, .fa 8 (.t 1) 0 1 1, .ld 9 (.t 8) (kL kS), .ca (some 10) 144 [((.t 9), .v (kL kS))], .bd 11 0 [(0, 1, (.t 7)), (1, 1, (.t 10))], .al 3 (kR 0)] [.st (.t 3) (.t 11) (kR 0)]) (.sq (.sq (.rg [.fa 12 (.t 1) 0 2 2, .ld 13 (.t 12) (kL (kR 0)), .ln 14 false (.t 13), .mv 15 (.i 0)]) (.bk 0 (.gb 3 2 true (kR 0) (.lk [2, 3, 13, 14, 15] [[2], [3], [3, 2], [10]] c9_impl_cloneType)))) c21_impl_cloneType))
noncomputable def B_impl_cloneType (nf : Nat) : XT := [e_slices_Clone_string_string nf]
noncomputable def G_impl_cloneType (nf : Nat) : Nat → XT
  | 0 => []
  | kf + 1 => [eF 102 [.v (kR 0)] [.o (kR 0)] (fun t => (fun (t : Ty) => runF (G_impl_cloneType nf kf ++ B_impl_cloneType nf) nf [.v (kR 0)] [.c 2 (.o (kR 0))] ir_impl_cloneType (t, ())) t.1)]
noncomputable abbrev T_impl_cloneType (nf kf : Nat) : XT := G_impl_cloneType nf kf ++ B_impl_cloneType nf
noncomputable def m_impl_cloneType (nf kf : Nat) (t : Ty) : Option (Ty) := runF (T_impl_cloneType nf kf) nf [.v (kR 0)] [.c 2 (.o (kR 0))] ir_impl_cloneType (t, ())
noncomputable def X_impl_cloneType {R : Type} (nf kf : Nat) : C → Env → (Xt → Env → Option R) → Option R := xc (R := R) (T_impl_cloneType nf kf).S nf
noncomputable def l8_impl_cloneType (nf kf : Nat) (m8 : Nat) (t : Ty) (r10 : (List Str)) (x15_8 : Int) (y3_2_8 : List Ty) : Option (Ty) := xit [2, 3, 13, 14, 15] [[2], [3], [3, 2], [10]] (X_impl_cloneType nf kf c9_impl_cloneType) (qB 0 (qS (X_impl_cloneType nf kf c21_impl_cloneType) (KF [.c 2 (.o (kR 0))]))) m8 ⟨[(2, .pt [2] 0), (3, .pt [3] 0), (13, .v (kL (kR 0)) t.args), (14, .v kI (List.length t.args : Int)), (15, .v kI x15_8)], [([2], .box [.v kI (0 : Int), .nl kS, .nl (kR 0)]), ([3], .box [.v kI t.kind, .sl [10], .sl [3, 2]]), ([3, 2], .row true false (kR 0) y3_2_8), ([10], .row true false kS r10)]⟩
theorem l8_impl_cloneType_eq (nf kf : Nat) (m8 : Nat) (t : Ty) (r10 : (List Str)) (x15_8 : Int) (y3_2_8 : List Ty) : l8_impl_cloneType nf (kf + 1) (m8 + 1) t r10 x15_8 y3_2_8 = (
  br (decide (x15_8 < (List.length t.args : Int))) (
    gg (0 ≤ x15_8 ∧ x15_8 < (List.length t.args : Int)) <|
      cb (m_impl_cloneType nf kf (Ty.h (gt t.args x15_8 Ty.zero))) fun r22 =>
        gg (List.length y3_2_8 + List.length ([(Ty.h r22)] : List Ty) ≤ 33554432) <|
          mark (l8_impl_cloneType nf (kf + 1) m8 t r10 (w64 (x15_8 + (1 : Int))) (y3_2_8 ++ ([(Ty.h r22)] : List Ty)))) (
    some (Ty.mk t.kind r10 y3_2_8))) := by kernel_rfl
theorem m_impl_cloneType_eq (nf kf : Nat) (t : Ty) : m_impl_cloneType nf (kf + 1) t = (
  cb (m_slices_Clone_string_string nf t.labels) fun r10 =>
    mark (l8_impl_cloneType nf (kf + 1) nf t r10 (0 : Int) ([] : List Ty))) := by kernel_rfl
noncomputable def e_impl_cloneType (nf : Nat) : XE := eF 102 [.v (kR 0)] [.o (kR 0)] (fun t => m_impl_cloneType nf nf t.1)
theorem gok_impl_cloneType (nf : Nat) : ∀ kf : Nat, XT.ok Try.prog (G_impl_cloneType nf kf ++ B_impl_cloneType nf)
  | 0 => by exact ⟨o_slices_Clone_string_string nf, trivial⟩
  | kf + 1 => by
    have ih := gok_impl_cloneType nf kf
    refine ⟨?_, (by exact ⟨o_slices_Clone_string_string nf, trivial⟩)⟩
    · refine eF_ok fun t x h => ?_
      obtain ⟨t, _⟩ := t
      exact runF_ok (N := 28) ih Try.func102 (by kernel_rfl) rfl h
theorem o_impl_cloneType (nf : Nat) : conOK Try.prog 102 (e_impl_cloneType nf).con := by
  have ih := gok_impl_cloneType nf nf
  refine eF_ok fun t x h => ?_
  obtain ⟨t, _⟩ := t
  exact runF_ok (N := 28) ih Try.func102 (by kernel_rfl) rfl h
def c21_impl_cloneTerm : C := .sq (.rg [.ld 36 (.t 3) (kR 2), .st (.t 2) (.t 36) (kR 2)]) .rt
def c9_impl_cloneTerm : C := .sq (.rg [.bi 22 .lss (.t 21) (.t 20)]) (.sq (.cd (.t 22) .skip (.ex 0)) (.sq (.bk 1 (.sq (.rg [.mv 23 (.t 21), .mv 4 (.t 23)]) (.gb 3 7 true (kR 2) (.dr [31, 32] [.fa 24 (.t 3) 2 5 7, .ld 25 (.t 24) (kL (kR 2)), .fa 26 (.t 1) 2 5 7, .ld 27 (.t 26) (kL (kR 2)), .mv 28 (.t 4), .ia 29 (.t 27) (.t 28) (kR 2), .ld 30 (.t 29) (kR 2), .ca (some 31) 96 [((.t 30), .v (kR 2))], .bl 32 (kR 2) [(.t 31)]] [.apl 33 [3, 7] (kR 2) (.t 25) 32, .fa 34 (.t 3) 2 5 7, .st (.t 34) (.t 33) (kL (kR 2))])))) (.rg [.bi 35 .add (.t 21) (.i 1), .mv 21 (.t 35)])))
def ir_impl_cloneTerm : C := .sq (.rg [.bx 1 (.t 0) (kR 2), .al 2 (kR 2)]) (.sq (.dr [13, 16, 3] [.fa 5 (.t 1) 2 0 0, .ld 6 (.t 5) kI, .fa 7 (.t 1) 2 1 1, .ld 8 (.t 7) kS, .fa 9 (.t 1) 2 2 2, .ld 10 (.t 9) kI, .fa 11 (.t 1) 2 3 3, .ld 12 (.t 11) (kR 0), .ca (some 13) 102 [((.t 12), .v (kR 0))], .fa 14 (.t 1) 2 4 6, .ld 15 (.t 14) (kL kS), .ca (some 16) 144 [((.t 15), .v (kL kS))], .bd 17 2 [(0, 1, (.t 6)), (1, 1, (.t 8)), (2, 1, (.t 10)), (3, 3, (.t 13)), (6, 1, (.t 16))], .al 3 (kR 2)] [.st (.t 3) (.t 17) (kR 2)]) (.sq (.sq (.rg [.fa 18 (.t 1) 2 5 7, .ld 19 (.t 18) (kL (kR 2)), .ln 20 false (.t 19), .mv 21 (.i 0)]) (.bk 0 (.gb 3 7 true (kR 2) (.lk [1, 2, 3, 20, 21] [[1], [2], [3], [3, 7], [13, 1], [13, 2], [16]] c9_impl_cloneTerm)))) c21_impl_cloneTerm))
noncomputable def B_impl_cloneTerm (nf : Nat) : XT := [e_impl_cloneType nf, e_slices_Clone_string_string nf]
noncomputable def G_impl_cloneTerm (nf : Nat) : Nat → XT
  | 0 => []
  | kf + 1 => [eF 96 [.v (kR 2)] [.o (kR 2)] (fun t => (fun (e : Tm) => runF (G_impl_cloneTerm nf kf ++ B_impl_cloneTerm nf) nf [.v (kR 2)] [.c 2 (.o (kR 2))] ir_impl_cloneTerm (e, ())) t.1)]
noncomputable abbrev T_impl_cloneTerm (nf kf : Nat) : XT := G_impl_cloneTerm nf kf ++ B_impl_cloneTerm nf
noncomputable def m_impl_cloneTerm (nf kf : Nat) (e : Tm) : Option (Tm) := runF (T_impl_cloneTerm nf kf) nf [.v (kR 2)] [.c 2 (.o (kR 2))] ir_impl_cloneTerm (e, ())
noncomputable def X_impl_cloneTerm {R : Type} (nf kf : Nat) : C → Env → (Xt → Env → Option R) → Option R := xc (R := R) (T_impl_cloneTerm nf kf).S nf
noncomputable def l8_impl_cloneTerm (nf kf : Nat) (m8 : Nat) (e : Tm) (r13 : Ty) (r16 : (List Str)) (x21_8 : Int) (y3_7_8 : List Tm) : Option (Tm) := xit [1, 2, 3, 20, 21] [[1], [2], [3], [3, 7], [13, 1], [13, 2], [16]] (X_impl_cloneTerm nf kf c9_impl_cloneTerm) (qB 0 (qS (X_impl_cloneTerm nf kf c21_impl_cloneTerm) (KF [.c 2 (.o (kR 2))]))) m8 ⟨[(1, .pt [1] 0), (2, .pt [2] 0), (3, .pt [3] 0), (20, .v kI (List.length e.args : Int)), (21, .v kI x21_8)], [([1], .box [.v kI e.kind, .v kS e.name, .v kI e.n, .v kI e.type.kind, .v (kL kS) e.type.labels, .v (kL (kR 0)) e.type.args, .v (kL kS) e.labels, .v (kL (kR 2)) e.args]), ([2], .box [.v kI (0 : Int), .v kS ([] : Str), .v kI (0 : Int), .v kI (0 : Int), .nl kS, .nl (kR 0), .nl kS, .nl (kR 2)]), ([3], .box [.v kI e.kind, .v kS e.name, .v kI e.n, .v kI r13.kind, .sl [13, 1], .sl [13, 2], .sl [16], .sl [3, 7]]), ([3, 7], .row true false (kR 2) y3_7_8), ([13, 1], .row true false kS r13.labels), ([13, 2], .row true false (kR 0) r13.args), ([16], .row true false kS r16)]⟩
theorem l8_impl_cloneTerm_eq (nf kf : Nat) (m8 : Nat) (e : Tm) (r13 : Ty) (r16 : (List Str)) (x21_8 : Int) (y3_7_8 : List Tm) : l8_impl_cloneTerm nf (kf + 1) (m8 + 1) e r13 r16 x21_8 y3_7_8 = (
  br (decide (x21_8 < (List.length e.args : Int))) (
    gg (0 ≤ x21_8 ∧ x21_8 < (List.length e.args : Int)) <|
      cb (m_impl_cloneTerm nf kf (gt e.args x21_8 Tm.zero)) fun r31 =>
        gg (List.length y3_7_8 + List.length ([(Tm.h r31)] : List Tm) ≤ 33554432) <|
          mark (l8_impl_cloneTerm nf (kf + 1) m8 e r13 r16 (w64 (x21_8 + (1 : Int))) (y3_7_8 ++ ([(Tm.h r31)] : List Tm)))) (
    some (Tm.mk e.kind e.name e.n (Ty.h r13) r16 y3_7_8))) := by kernel_rfl
theorem m_impl_cloneTerm_eq (nf kf : Nat) (e : Tm) : m_impl_cloneTerm nf (kf + 1) e = (
  cb (m_impl_cloneType nf nf (Ty.h e.type)) fun r13 =>
    cb (m_slices_Clone_string_string nf e.labels) fun r16 =>
      mark (l8_impl_cloneTerm nf (kf + 1) nf e r13 r16 (0 : Int) ([] : List Tm))) := by kernel_rfl
noncomputable def e_impl_cloneTerm (nf : Nat) : XE := eF 96 [.v (kR 2)] [.o (kR 2)] (fun t => m_impl_cloneTerm nf nf t.1)
theorem gok_impl_cloneTerm (nf : Nat) : ∀ kf : Nat, XT.ok Try.prog (G_impl_cloneTerm nf kf ++ B_impl_cloneTerm nf)
  | 0 => by exact ⟨o_impl_cloneType nf, o_slices_Clone_string_string nf, trivial⟩
  | kf + 1 => by
    have ih := gok_impl_cloneTerm nf kf
    refine ⟨?_, (by exact ⟨o_impl_cloneType nf, o_slices_Clone_string_string nf, trivial⟩)⟩
    · refine eF_ok fun t x h => ?_
      obtain ⟨e, _⟩ := t
      exact runF_ok (N := 37) ih Try.func96 (by kernel_rfl) rfl h
theorem o_impl_cloneTerm (nf : Nat) : conOK Try.prog 96 (e_impl_cloneTerm nf).con := by
  have ih := gok_impl_cloneTerm nf nf
  refine eF_ok fun t x h => ?_
  obtain ⟨e, _⟩ := t
  exact runF_ok (N := 37) ih Try.func96 (by kernel_rfl) rfl h
def c21_impl_cloneTerms : C := .sq (.rg [.mv 19 (.t 3), .mv 2 (.t 19)]) .rt
def c9_impl_cloneTerms : C := .sq (.rg [.bi 10 .lss (.t 9) (.t 8)]) (.sq (.cd (.t 10) .skip (.ex 0)) (.sq (.bk 1 (.sq (.rg [.ia 11 (.t 7) (.t 9) (kR 2), .ld 12 (.t 11) (kR 2), .al 5 (kR 2), .st (.t 5) (.t 12) (kR 2)]) (.gt 3 true (kR 2) (.rg [.mv 13 (.t 3), .ld 14 (.t 5) (kR 2), .ca (some 15) 96 [((.t 14), .v (kR 2))], .bl 16 (kR 2) [(.t 15)], .apl 17 [3] (kR 2) (.t 13) 16, .mv 3 (.t 17)])))) (.rg [.bi 18 .add (.t 9) (.i 1), .mv 9 (.t 18)])))
def ir_impl_cloneTerms : C := .sq (.rg [.mv 2 (.nl (kR 2))]) (.sq (.rg [.bs 6 true (kR 2) [], .mv 3 (.t 6)]) (.sq (.sq (.rg [.mv 7 (.t 0), .ln 8 false (.t 7), .mv 9 (.i 0)]) (.bk 0 (.gt 3 true (kR 2) (.lk [3, 7, 8, 9] [[3]] c9_impl_cloneTerms)))) c21_impl_cloneTerms))
noncomputable abbrev T_impl_cloneTerms (nf : Nat) : XT := [e_impl_cloneTerm nf]
noncomputable def m_impl_cloneTerms (nf : Nat) (list : List Tm) : Option (List Tm) := runF (T_impl_cloneTerms nf) nf [.v (kL (kR 2))] [.t 2 (.o (kL (kR 2)))] ir_impl_cloneTerms (list, ())
noncomputable def X_impl_cloneTerms {R : Type} (nf : Nat) : C → Env → (Xt → Env → Option R) → Option R := xc (R := R) (T_impl_cloneTerms nf).S nf
noncomputable def l8_impl_cloneTerms (nf : Nat) (m8 : Nat) (list : List Tm) (x9_8 : Int) (y3_8 : List Tm) : Option (List Tm) := xit [3, 7, 8, 9] [[3]] (X_impl_cloneTerms nf c9_impl_cloneTerms) (qB 0 (qS (X_impl_cloneTerms nf c21_impl_cloneTerms) (KF [.t 2 (.o (kL (kR 2)))]))) m8 ⟨[(3, .sl [3]), (7, .v (kL (kR 2)) list), (8, .v kI (List.length list : Int)), (9, .v kI x9_8)], [([3], .row true false (kR 2) y3_8)]⟩
theorem l8_impl_cloneTerms_eq (nf : Nat) (m8 : Nat) (list : List Tm) (x9_8 : Int) (y3_8 : List Tm) : l8_impl_cloneTerms nf (m8 + 1) list x9_8 y3_8 = (
  br (decide (x9_8 < (List.length list : Int))) (
    gg (0 ≤ x9_8 ∧ x9_8 < (List.length list : Int)) <|
      cb (m_impl_cloneTerm nf nf (Tm.h (gt list x9_8 Tm.zero))) fun r15 =>
        gg (List.length y3_8 + List.length ([(Tm.h r15)] : List Tm) ≤ 33554432) <|
          mark (l8_impl_cloneTerms nf m8 list (w64 (x9_8 + (1 : Int))) (y3_8 ++ ([(Tm.h r15)] : List Tm)))) (
    some y3_8)) := by kernel_rfl
theorem m_impl_cloneTerms_eq (nf : Nat) (list : List Tm) : m_impl_cloneTerms nf list = (
  mark (l8_impl_cloneTerms nf nf list (0 : Int) ([] : List Tm))) := by kernel_rfl
noncomputable def e_impl_cloneTerms (nf : Nat) : XE := eF 89 [.v (kL (kR 2))] [.o (kL (kR 2))] (fun t => m_impl_cloneTerms nf t.1)
theorem o_impl_cloneTerms (nf : Nat) : conOK Try.prog 89 (e_impl_cloneTerms nf).con := by
  have ih : XT.ok Try.prog (T_impl_cloneTerms nf) := by exact ⟨o_impl_cloneTerm nf, trivial⟩
  refine eF_ok fun t x h => ?_
  obtain ⟨list, _⟩ := t
  exact runF_ok (N := 20) ih Try.func89 (by kernel_rfl) rfl h
def ir_impl_isTrue : C := .sq (.rg [.bx 1 (.t 0) (kR 2), .mv 2 (.b false)]) (.sq (.rg [.fa 3 (.t 1) 2 0 0, .ld 4 (.t 3) kI, .bi 5 .eql (.t 4) (.i 3), .mv 6 (.t 5), .g 6 true (.fa 7 (.t 1) 2 2 2), .g 6 true (.ld 8 (.t 7) kI), .g 6 true (.bi 9 .eql (.t 8) (.i 1)), .pk 10 (.t 6) (.t 9) (.b false), .mv 2 (.t 10)]) .rt)
noncomputable abbrev T_impl_isTrue (nf : Nat) : XT := []
noncomputable def m_impl_isTrue (nf : Nat) (e : Tm) : Option (Bool) := runF (T_impl_isTrue nf) nf [.v (kR 2)] [.t 2 (.v .bool)] ir_impl_isTrue (e, ())
theorem m_impl_isTrue_eq (nf : Nat) (e : Tm) : m_impl_isTrue nf e = (
  br ((e.kind == (3 : Int)) == true) (
    some (e.n == (1 : Int))) (
    some false)) := by kernel_rfl
noncomputable def e_impl_isTrue (nf : Nat) : XE := eF 146 [.v (kR 2)] [.v .bool] (fun t => m_impl_isTrue nf t.1)
theorem o_impl_isTrue (nf : Nat) : conOK Try.prog 146 (e_impl_isTrue nf).con := by
  have ih : XT.ok Try.prog (T_impl_isTrue nf) := by exact trivial
  refine eF_ok fun t x h => ?_
  obtain ⟨e, _⟩ := t
  exact runF_ok (N := 11) ih Try.func146 (by kernel_rfl) rfl h
def c19_spec_l3Copy : C := .sq (.rg [.ld 30 (.t 3) (kR 0), .st (.t 2) (.t 30) (kR 0)]) .rt
def c9_spec_l3Copy : C := .sq (.sq (.rg [.mv 12 (.t 4), .fa 13 (.t 1) 0 2 2, .ld 14 (.t 13) (kL (kR 0)), .ln 15 false (.t 14), .bi 16 .lss (.t 12) (.t 15)]) (.cd (.t 16) .skip (.ex 0))) (.sq (.bk 1 (.gb 3 2 true (kR 0) (.dr [26, 27] [.fa 19 (.t 3) 0 2 2, .ld 20 (.t 19) (kL (kR 0)), .fa 21 (.t 1) 0 2 2, .ld 22 (.t 21) (kL (kR 0)), .mv 23 (.t 4), .ia 24 (.t 22) (.t 23) (kR 0), .ld 25 (.t 24) (kR 0), .ca (some 26) 99 [((.t 25), .v (kR 0))], .bl 27 (kR 0) [(.t 26)]] [.apl 28 [3, 2] (kR 0) (.t 20) 27, .fa 29 (.t 3) 0 2 2, .st (.t 29) (.t 28) (kL (kR 0))]))) (.rg [.mv 17 (.t 4), .bi 18 .add (.t 17) (.i 1), .mv 4 (.t 18)]))
def ir_spec_l3Copy : C := .sq (.rg [.bx 1 (.t 0) (kR 0), .al 2 (kR 0)]) (.sq (.dr [10, 3] [.fa 5 (.t 1) 0 0 0, .ld 6 (.t 5) kI, .bs 7 true kS [], .fa 8 (.t 1) 0 1 1, .ld 9 (.t 8) (kL kS), .an 10 true kS (.t 7) (.t 9), .bd 11 0 [(0, 1, (.t 6)), (1, 1, (.t 10))], .al 3 (kR 0)] [.st (.t 3) (.t 11) (kR 0)]) (.sq (.sq (.rg [.mv 4 (.i 0)]) (.bk 0 (.gb 3 2 true (kR 0) (.lk [1, 2, 3, 4] [[1], [2], [3], [3, 2], [10]] c9_spec_l3Copy)))) c19_spec_l3Copy))
noncomputable def B_spec_l3Copy (nf : Nat) : XT := []
noncomputable def G_spec_l3Copy (nf : Nat) : Nat → XT
  | 0 => []
  | kf + 1 => [eF 99 [.v (kR 0)] [.o (kR 0)] (fun t => (fun (t : Ty) => runF (G_spec_l3Copy nf kf ++ B_spec_l3Copy nf) nf [.v (kR 0)] [.c 2 (.o (kR 0))] ir_spec_l3Copy (t, ())) t.1)]
noncomputable abbrev T_spec_l3Copy (nf kf : Nat) : XT := G_spec_l3Copy nf kf ++ B_spec_l3Copy nf
noncomputable def m_spec_l3Copy (nf kf : Nat) (t : Ty) : Option (Ty) := runF (T_spec_l3Copy nf kf) nf [.v (kR 0)] [.c 2 (.o (kR 0))] ir_spec_l3Copy (t, ())
noncomputable def X_spec_l3Copy {R : Type} (nf kf : Nat) : C → Env → (Xt → Env → Option R) → Option R := xc (R := R) (T_spec_l3Copy nf kf).S nf
noncomputable def l8_spec_l3Copy (nf kf : Nat) (m8 : Nat) (t : Ty) (x4_8 : Int) (y3_2_8 : List Ty) : Option (Ty) := xit [1, 2, 3, 4] [[1], [2], [3], [3, 2], [10]] (X_spec_l3Copy nf kf c9_spec_l3Copy) (qB 0 (qS (X_spec_l3Copy nf kf c19_spec_l3Copy) (KF [.c 2 (.o (kR 0))]))) m8 ⟨[(1, .pt [1] 0), (2, .pt [2] 0), (3, .pt [3] 0), (4, .v kI x4_8)], [([1], .box [.v kI t.kind, .v (kL kS) t.labels, .v (kL (kR 0)) t.args]), ([2], .box [.v kI (0 : Int), .nl kS, .nl (kR 0)]), ([3], .box [.v kI t.kind, .sl [10], .sl [3, 2]]), ([3, 2], .row true false (kR 0) y3_2_8), ([10], .row true false kS t.labels)]⟩
theorem l8_spec_l3Copy_eq (nf kf : Nat) (m8 : Nat) (t : Ty) (x4_8 : Int) (y3_2_8 : List Ty) : l8_spec_l3Copy nf (kf + 1) (m8 + 1) t x4_8 y3_2_8 = (
  br (decide (x4_8 < (List.length t.args : Int))) (
    gg (0 ≤ x4_8 ∧ x4_8 < (List.length t.args : Int)) <|
      cb (m_spec_l3Copy nf kf (gt t.args x4_8 Ty.zero)) fun r26 =>
        gg (List.length y3_2_8 + List.length ([(Ty.h r26)] : List Ty) ≤ 33554432) <|
          mark (l8_spec_l3Copy nf (kf + 1) m8 t (w64 (x4_8 + (1 : Int))) (y3_2_8 ++ ([(Ty.h r26)] : List Ty)))) (
    some (Ty.mk t.kind t.labels y3_2_8))) := by kernel_rfl
theorem m_spec_l3Copy_eq (nf kf : Nat) (t : Ty) : m_spec_l3Copy nf (kf + 1) t = (
  gg (List.length t.labels ≤ 33554432) <|
    mark (l8_spec_l3Copy nf (kf + 1) nf t (0 : Int) ([] : List Ty))) := by kernel_rfl
noncomputable def e_spec_l3Copy (nf : Nat) : XE := eF 99 [.v (kR 0)] [.o (kR 0)] (fun t => m_spec_l3Copy nf nf t.1)
theorem gok_spec_l3Copy (nf : Nat) : ∀ kf : Nat, XT.ok Try.prog (G_spec_l3Copy nf kf ++ B_spec_l3Copy nf)
  | 0 => by exact trivial
  | kf + 1 => by
    have ih := gok_spec_l3Copy nf kf
    refine ⟨?_, (by exact trivial)⟩
    · refine eF_ok fun t x h => ?_
      obtain ⟨t, _⟩ := t
      exact runF_ok (N := 31) ih Try.func99 (by kernel_rfl) rfl h
theorem o_spec_l3Copy (nf : Nat) : conOK Try.prog 99 (e_spec_l3Copy nf).con := by
  have ih := gok_spec_l3Copy nf nf
  refine eF_ok fun t x h => ?_
  obtain ⟨t, _⟩ := t
  exact runF_ok (N := 31) ih Try.func99 (by kernel_rfl) rfl h
def c19_spec_l7Copy : C := .sq (.rg [.ld 37 (.t 3) (kR 2), .st (.t 2) (.t 37) (kR 2)]) .rt
def c9_spec_l7Copy : C := .sq (.sq (.rg [.mv 19 (.t 4), .fa 20 (.t 1) 2 5 7, .ld 21 (.t 20) (kL (kR 2)), .ln 22 false (.t 21), .bi 23 .lss (.t 19) (.t 22)]) (.cd (.t 23) .skip (.ex 0))) (.sq (.bk 1 (.gb 3 7 true (kR 2) (.dr [33, 34] [.fa 26 (.t 3) 2 5 7, .ld 27 (.t 26) (kL (kR 2)), .fa 28 (.t 1) 2 5 7, .ld 29 (.t 28) (kL (kR 2)), .mv 30 (.t 4), .ia 31 (.t 29) (.t 30) (kR 2), .ld 32 (.t 31) (kR 2), .ca (some 33) 94 [((.t 32), .v (kR 2))], .bl 34 (kR 2) [(.t 33)]] [.apl 35 [3, 7] (kR 2) (.t 27) 34, .fa 36 (.t 3) 2 5 7, .st (.t 36) (.t 35) (kL (kR 2))]))) (.rg [.mv 24 (.t 4), .bi 25 .add (.t 24) (.i 1), .mv 4 (.t 25)]))
def ir_spec_l7Copy : C := .sq (.rg [.bx 1 (.t 0) (kR 2), .al 2 (kR 2)]) (.sq (.dr [13, 17, 3] [.fa 5 (.t 1) 2 0 0, .ld 6 (.t 5) kI, .fa 7 (.t 1) 2 1 1, .ld 8 (.t 7) kS, .fa 9 (.t 1) 2 2 2, .ld 10 (.t 9) kI, .fa 11 (.t 1) 2 3 3, .ld 12 (.t 11) (kR 0), .ca (some 13) 99 [((.t 12), .v (kR 0))], .bs 14 true kS [], .fa 15 (.t 1) 2 4 6, .ld 16 (.t 15) (kL kS), .an 17 true kS (.t 14) (.t 16), .bd 18 2 [(0, 1, (.t 6)), (1, 1, (.t 8)), (2, 1, (.t 10)), (3, 3, (.t 13)), (6, 1, (.t 17))], .al 3 (kR 2)] [.st (.t 3) (.t 18) (kR 2)]) (.sq (.sq (.rg [.mv 4 (.i 0)]) (.bk 0 (.gb 3 7 true (kR 2) (.lk [1, 2, 3, 4] [[1], [2], [3], [3, 7], [13, 1], [13, 2], [17]] c9_spec_l7Copy)))) c19_spec_l7Copy))
noncomputable def B_spec_l7Copy (nf : Nat) : XT := [e_spec_l3Copy nf]
noncomputable def G_spec_l7Copy (nf : Nat) : Nat → XT
  | 0 => []
  | kf + 1 => [eF 94 [.v (kR 2)] [.o (kR 2)] (fun t => (fun (e : Tm) => runF (G_spec_l7Copy nf kf ++ B_spec_l7Copy nf) nf [.v (kR 2)] [.c 2 (.o (kR 2))] ir_spec_l7Copy (e, ())) t.1)]
noncomputable abbrev T_spec_l7Copy (nf kf : Nat) : XT := G_spec_l7Copy nf kf ++ B_spec_l7Copy nf
noncomputable def m_spec_l7Copy (nf kf : Nat) (e : Tm) : Option (Tm) := runF (T_spec_l7Copy nf kf) nf [.v (kR 2)] [.c 2 (.o (kR 2))] ir_spec_l7Copy (e, ())
noncomputable def X_spec_l7Copy {R : Type} (nf kf : Nat) : C → Env → (Xt → Env → Option R) → Option R := xc (R := R) (T_spec_l7Copy nf kf).S nf
noncomputable def l8_spec_l7Copy (nf kf : Nat) (m8 : Nat) (e : Tm) (r13 : Ty) (x4_8 : Int) (y3_7_8 : List Tm) : Option (Tm) := xit [1, 2, 3, 4] [[1], [2], [3], [3, 7], [13, 1], [13, 2], [17]] (X_spec_l7Copy nf kf c9_spec_l7Copy) (qB 0 (qS (X_spec_l7Copy nf kf c19_spec_l7Copy) (KF [.c 2 (.o (kR 2))]))) m8 ⟨[(1, .pt [1] 0), (2, .pt [2] 0), (3, .pt [3] 0), (4, .v kI x4_8)], [([1], .box [.v kI e.kind, .v kS e.name, .v kI e.n, .v kI e.type.kind, .v (kL kS) e.type.labels, .v (kL (kR 0)) e.type.args, .v (kL kS) e.labels, .v (kL (kR 2)) e.args]), ([2], .box [.v kI (0 : Int), .v kS ([] : Str), .v kI (0 : Int), .v kI (0 : Int), .nl kS, .nl (kR 0), .nl kS, .nl (kR 2)]), ([3], .box [.v kI e.kind, .v kS e.name, .v kI e.n, .v kI r13.kind, .sl [13, 1], .sl [13, 2], .sl [17], .sl [3, 7]]), ([3, 7], .row true false (kR 2) y3_7_8), ([13, 1], .row true false kS r13.labels), ([13, 2], .row true false (kR 0) r13.args), ([17], .row true false kS e.labels)]⟩
theorem l8_spec_l7Copy_eq (nf kf : Nat) (m8 : Nat) (e : Tm) (r13 : Ty) (x4_8 : Int) (y3_7_8 : List Tm) : l8_spec_l7Copy nf (kf + 1) (m8 + 1) e r13 x4_8 y3_7_8 = (
  br (decide (x4_8 < (List.length e.args : Int))) (
    gg (0 ≤ x4_8 ∧ x4_8 < (List.length e.args : Int)) <|
      cb (m_spec_l7Copy nf kf (gt e.args x4_8 Tm.zero)) fun r33 =>
        gg (List.length y3_7_8 + List.length ([(Tm.h r33)] : List Tm) ≤ 33554432) <|
          mark (l8_spec_l7Copy nf (kf + 1) m8 e r13 (w64 (x4_8 + (1 : Int))) (y3_7_8 ++ ([(Tm.h r33)] : List Tm)))) (
    some (Tm.mk e.kind e.name e.n (Ty.h r13) e.labels y3_7_8))) := by kernel_rfl
theorem m_spec_l7Copy_eq (nf kf : Nat) (e : Tm) : m_spec_l7Copy nf (kf + 1) e = (
  cb (m_spec_l3Copy nf nf (Ty.h e.type)) fun r13 =>
    gg (List.length e.labels ≤ 33554432) <|
      mark (l8_spec_l7Copy nf (kf + 1) nf e r13 (0 : Int) ([] : List Tm))) := by kernel_rfl
noncomputable def e_spec_l7Copy (nf : Nat) : XE := eF 94 [.v (kR 2)] [.o (kR 2)] (fun t => m_spec_l7Copy nf nf t.1)
theorem gok_spec_l7Copy (nf : Nat) : ∀ kf : Nat, XT.ok Try.prog (G_spec_l7Copy nf kf ++ B_spec_l7Copy nf)
  | 0 => by exact ⟨o_spec_l3Copy nf, trivial⟩
  | kf + 1 => by
    have ih := gok_spec_l7Copy nf kf
    refine ⟨?_, (by exact ⟨o_spec_l3Copy nf, trivial⟩)⟩
    · refine eF_ok fun t x h => ?_
      obtain ⟨e, _⟩ := t
      exact runF_ok (N := 38) ih Try.func94 (by kernel_rfl) rfl h
theorem o_spec_l7Copy (nf : Nat) : conOK Try.prog 94 (e_spec_l7Copy nf).con := by
  have ih := gok_spec_l7Copy nf nf
  refine eF_ok fun t x h => ?_
  obtain ⟨e, _⟩ := t
  exact runF_ok (N := 38) ih Try.func94 (by kernel_rfl) rfl h
end Go.Q
