/- Terms and plans. -/
import Derived.Test.YtkbanchknllcnaaA2
import Derived.Test.YtkbanchknllcnaaProg
import Derived.KernelRfl
set_option linter.unusedVariables false
set_option linter.unusedSimpArgs false
namespace Go.Q
open Go.Proofs
set_option linter.unusedVariables false
set_option maxRecDepth 20000
set_option maxHeartbeats 4000000
def c10_slices_Clone_string_string : C := .sq (.rg [.bs 5 true kS [], .mv 6 (.t 0), .an 7 true kS (.t 5) (.t 6), .mv 2 (.t 7)]) .rt
def c5_slices_Clone_string_string : C := .cd (.t 4) (.sq (.rg [.mv 2 (.nl kS)]) .rt) .skip
def w5_slices_Clone_string_string : C := .kp [0, 4] [] c5_slices_Clone_string_string
def ir_slices_Clone_string_string : C := .sq (.rg [.mv 2 (.nl kS)]) (.sq (.sq (.rg [.mv 3 (.t 0), .nq 4 false false (.t 3)]) w5_slices_Clone_string_string) c10_slices_Clone_string_string)
noncomputable abbrev T_slices_Clone_string_string (nf : Nat) : XT := []
noncomputable def m_slices_Clone_string_string (nf : Nat) (a : List Str) : Option (List Str) := runF (T_slices_Clone_string_string nf) nf [.v (kL kS)] [.t 2 (.o (kL kS))] ir_slices_Clone_string_string (a, ())
noncomputable def X_slices_Clone_string_string {R : Type} (nf : Nat) : C → Env → (Xt → Env → Option R) → Option R := xc (R := R) (T_slices_Clone_string_string nf).S nf
noncomputable def j5_slices_Clone_string_string (nf : Nat) (a : List Str) (x4_5 : Bool) : Option (List Str) := X_slices_Clone_string_string nf c5_slices_Clone_string_string ⟨[(0, .v (kL kS) a), (4, .v .bool x4_5)], []⟩ (qS (X_slices_Clone_string_string nf c10_slices_Clone_string_string) (KF [.t 2 (.o (kL kS))]))
theorem j5_slices_Clone_string_string_eq (nf : Nat) (a : List Str) (x4_5 : Bool) : j5_slices_Clone_string_string nf a x4_5 = (
  br x4_5 (
    some ([] : List Str)) (
    gg (List.length a ≤ 33554432) <|
      some a)) := by kernel_rfl
theorem m_slices_Clone_string_string_eq (nf : Nat) (a : List Str) : m_slices_Clone_string_string nf a = (
  br (List.isEmpty a) (
    both (
      mark (j5_slices_Clone_string_string nf a false)) (
      mark (j5_slices_Clone_string_string nf a true))) (
    mark (j5_slices_Clone_string_string nf a false))) := by
  unfold m_slices_Clone_string_string j5_slices_Clone_string_string ir_slices_Clone_string_string w5_slices_Clone_string_string c10_slices_Clone_string_string
  generalize c5_slices_Clone_string_string = x0
  revert x0
  refine id ?_
  intro x0
  kernel_rfl
noncomputable def e_slices_Clone_string_string (nf : Nat) : XE := eF 144 [.v (kL kS)] [.o (kL kS)] (fun t => m_slices_Clone_string_string nf t.1)
theorem o_slices_Clone_string_string (nf : Nat) : conOK Try.prog 144 (e_slices_Clone_string_string nf).con := by
  have ih : XT.ok Try.prog (T_slices_Clone_string_string nf) := by exact trivial
  refine eF_ok fun t x h => ?_
  obtain ⟨a, _⟩ := t
  exact runF_ok (N := 8) ih Try.func144 (by kernel_rfl) rfl h
def c21_impl_cloneType : C := .sq (.rg [.ld 27 (.t 3) (kR 0), .st (.t 2) (.t 27) (kR 0)]) .rt
def c9_impl_cloneType : C := .sq (.rg [.bi 16 .lss (.t 15) (.t 14)]) (.sq (.cd (.t 16) .skip (.ex 0)) (.sq (.bk 1 (.sq (.rg [.ia 17 (.t 13) (.t 15) (kR 0), .ld 18 (.t 17) (kR 0), .al 5 (kR 0), .st (.t 5) (.t 18) (kR 0)]) (.gb 3 2 true (kR 0) (.dr [22, 23] [.fa 19 (.t 3) 0 2 2, .ld 20 (.t 19) (kL (kR 0)), .ld 21 (.t 5) (kR 0), .ca (some 22) 102 [((.t 21), .v (kR 0))], .bl 23 (kR 0) [(.t 22)]] [.apl 24 [3, 2] (kR 0) (.t 20) 23, .fa 25 (.t 3) 0 2 2, .st (.t 25) (.t 24) (kL (kR 0))])))) (.rg [.bi 26 .add (.t 15) (.i 1), .mv 15 (.t 26)])))
def ir_impl_cloneType : C := .sq (.rg [.bx 1 (.t 0) (kR 0), .al 2 (kR 0)]) (.sq (.dr [10, 3] [.fa 6 (.t 1) 0 0 0, .ld 7 (.t 6) kI, .fa 8 (.t 1) 0 1 1, .ld 9 (.t 8) (kL kS), .ca (some 10) 144 [((.t 9), .v (kL kS))], .bd 11 0 [(0, 1, (.t 7)), (1, 1, (.t 10))], .al 3 (kR 0)] [.st (.t 3) (.t 11) (kR 0)]) (.sq (.sq (.rg [.fa 12 (.t 1) 0 2 2, .ld 13 (.t 12) (kL (kR 0)), .ln 14 false (.t 13), .mv 15 (.i 0)]) (.bk 0 (.gb 3 2 true (kR 0) (.lk [2, 3, 13, 14, 15] [[2], [3], [3, 2], [10]] c9_impl_cloneType)))) c21_impl_cloneType))
noncomputable def B_impl_cloneType (nf : Nat) : XT := [e_slices_Clone_string_string nf]
noncomputable def G_impl_cloneType (nf : Nat) : Nat → XT
  | 0 => []
  | kf + 1 => [eF 102 [.v (kR 0)] [.o (kR 0)] (fun t => (fun (t : Ty) => runF (G_impl_cloneType nf kf ++ B_impl_cloneType nf) nf [.v (kR 0)] [.c 2 (.o (kR 0))] ir_impl_cloneType (t, ())) t.1)]
noncomputable abbrev T_impl_cloneType (nf kf : Nat) : XT := G_impl_cloneType nf kf ++ B_impl_cloneType nf
noncomputable def m_impl_cloneType (nf kf : Nat) (t : Ty) : Option (Ty) := runF (T_impl_cloneType nf kf) nf [.v (kR 0)] [.c 2 (.o (kR 0))] ir_impl_cloneType (t, ())
noncomputable def X_impl_cloneType {R : Type} (nf kf : Nat) : C → Env → (Xt → Env → Option R) → Option R := xc (R := R) (T_impl_cloneType nf kf).S nf
noncomputable def l8_impl_cloneType (nf kf : Nat) (m8 : Nat) (t : Ty) (r10 : (List Str)) (x15_8 : Int) (y3_2_8 : List Ty) : Option (Ty) := xit [2, 3, 13, 14, 15] [[2], [3], [3, 2], [10]] (X_impl_cloneType nf kf c9_impl_cloneType) (qB 0 (qS (X_impl_cloneType nf kf c21_impl_cloneType) (KF [.c 2 (.o (kR 0))]))) m8 ⟨[(2, .pt [2] 0), (3, .pt [3] 0), (13, .v (kL (kR 0)) t.args), (14, .v kI (List.length t.args : Int)), (15, .v kI x15_8)], [([2], .box [.v kI (0 : Int), .nl kS, .nl (kR 0)]), ([3], .box [.v kI t.kind, .sl [10], .sl [3, 2]]), ([3, 2], .row true false (kR 0) y3_2_8), ([10], .row true false kS r10)]⟩
theorem l8_impl_cloneType_eq (nf kf : Nat) (m8 : Nat) (t : Ty) (r10 : (List Str)) (x15_8 : Int) (y3_2_8 : List Ty) : l8_impl_cloneType nf (kf + 1) (m8 + 1) t r10 x15_8 y3_2_8 = (
  br (decide (x15_8 < (List.length t.args : Int))) (
    gg (0 ≤ x15_8 ∧ x15_8 < (List.length t.args : Int)) <|
      cb (m_impl_cloneType nf kf (Ty.h (gt t.args x15_8 Ty.zero))) fun r22 =>
        gg (List.length y3_2_8 + List.length ([(Ty.h r22)] : List Ty) ≤ 33554432) <|
          mark (l8_impl_cloneType nf (kf + 1) m8 t r10 (w64 (x15_8 + (1 : Int))) (y3_2_8 ++ ([(Ty.h r22)] : List Ty)))) (
    some (Ty.mk t.kind r10 y3_2_8))) := by kernel_rfl
theorem m_impl_cloneType_eq (nf kf : Nat) (t : Ty) : m_impl_cloneType nf (kf + 1) t = (
  cb (m_slices_Clone_string_string nf t.labels) fun r10 =>
    mark (l8_impl_cloneType nf (kf + 1) nf t r10 (0 : Int) ([] : List Ty))) := by kernel_rfl
noncomputable def e_impl_cloneType (nf : Nat) : XE := eF 102 [.v (kR 0)] [.o (kR 0)] (fun t => m_impl_cloneType nf nf t.1)
theorem gok_impl_cloneType (nf : Nat) : ∀ kf : Nat, XT.ok Try.prog (G_impl_cloneType nf kf ++ B_impl_cloneType nf)
  | 0 => by exact ⟨o_slices_Clone_string_string nf, trivial⟩
  | kf + 1 => by
    have ih := gok_impl_cloneType nf kf
    refine ⟨?_, (by exact ⟨o_slices_Clone_string_string nf, trivial⟩)⟩
    · refine eF_ok fun t x h => ?_
      obtain ⟨t, _⟩ := t
      exact runF_ok (N := 28) ih Try.func102 (by kernel_rfl) rfl h
theorem o_impl_cloneType (nf : Nat) : conOK Try.prog 102 (e_impl_cloneType nf).con := by
  have ih := gok_impl_cloneType nf nf
  refine eF_ok fun t x h => ?_
  obtain ⟨t, _⟩ := t
  exact runF_ok (N := 28) ih Try.func102 (by kernel_rfl) rfl h
def c19_spec_l3Copy : C := .sq (.rg [.ld 30 (.t 3) (kR 0), .st (.t 2) (.t 30) (kR 0)]) .rt
def c9_spec_l3Copy : C := .sq (.sq (.rg [.mv 12 (.t 4), .fa 13 (.t 1) 0 2 2, .ld 14 (.t 13) (kL (kR 0)), .ln 15 false (.t 14), .bi 16 .lss (.t 12) (.t 15)]) (.cd (.t 16) .skip (.ex 0))) (.sq (.bk 1 (.gb 3 2 true (kR 0) (.dr [26, 27] [.fa 19 (.t 3) 0 2 2, .ld 20 (.t 19) (kL (kR 0)), .fa 21 (.t 1) 0 2 2, .ld 22 (.t 21) (kL (kR 0)), .mv 23 (.t 4), .ia 24 (.t 22) (.t 23) (kR 0), .ld 25 (.t 24) (kR 0), .ca (some 26) 99 [((.t 25), .v (kR 0))], .bl 27 (kR 0) [(.t 26)]] [.apl 28 [3, 2] (kR 0) (.t 20) 27, .fa 29 (.t 3) 0 2 2, .st (.t 29) (.t 28) (kL (kR 0))]))) (.rg [.mv 17 (.t 4), .bi 18 .add (.t 17) (.i 1), .mv 4 (.t 18)]))
def ir_spec_l3Copy : C := .sq (.rg [.bx 1 (.t 0) (kR 0), .al 2 (kR 0)]) (.sq (.dr [10, 3] [.fa 5 (.t 1) 0 0 0, .ld 6 (.t 5) kI, .bs 7 true kS [], .fa 8 (.t 1) 0 1 1, .ld 9 (.t 8) (kL kS), .an 10 true kS (.t 7) (.t 9), .bd 11 0 [(0, 1, (.t 6)), (1, 1, (.t 10))], .al 3 (kR 0)] [.st (.t 3) (.t 11) (kR 0)]) (.sq (.sq (.rg [.mv 4 (.i 0)]) (.bk 0 (.gb 3 2 true (kR 0) (.lk [1, 2, 3, 4] [[1], [2], [3], [3, 2], [10]] c9_spec_l3Copy)))) c19_spec_l3Copy))
noncomputable def B_spec_l3Copy (nf : Nat) : XT := []
noncomputable def G_spec_l3Copy (nf : Nat) : Nat → XT
  | 0 => []
  | kf + 1 => [eF 99 [.v (kR 0)] [.o (kR 0)] (fun t => (fun (t : Ty) => runF (G_spec_l3Copy nf kf ++ B_spec_l3Copy nf) nf [.v (kR 0)] [.c 2 (.o (kR 0))] ir_spec_l3Copy (t, ())) t.1)]
noncomputable abbrev T_spec_l3Copy (nf kf : Nat) : XT := G_spec_l3Copy nf kf ++ B_spec_l3Copy nf
noncomputable def m_spec_l3Copy (nf kf : Nat) (t : Ty) : Option (Ty) := runF (T_spec_l3Copy nf kf) nf [.v (kR 0)] [.c 2 (.o (kR 0))] ir_spec_l3Copy (t, ())
noncomputable def X_spec_l3Copy {R : Type} (nf kf : Nat) : C → Env → (Xt → Env → Option R) → Option R := xc (R := R) (T_spec_l3Copy nf kf).S nf
noncomputable def l8_spec_l3Copy (nf kf : Nat) (m8 : Nat) (t : Ty) (x4_8 : Int) (y3_2_8 : List Ty) : Option (Ty) := xit [1, 2, 3, 4] [[1], [2], [3], [3, 2], [10]] (X_spec_l3Copy nf kf c9_spec_l3Copy) (qB 0 (qS (X_spec_l3Copy nf kf c19_spec_l3Copy) (KF [.c 2 (.o (kR 0))]))) m8 ⟨[(1, .pt [1] 0), (2, .pt [2] 0), (3, .pt [3] 0), (4, .v kI x4_8)], [([1], .box [.v kI t.kind, .v (kL kS) t.labels, .v (kL (kR 0)) t.args]), ([2], .box [.v kI (0 : Int), .nl kS, .nl (kR 0)]), ([3], .box [.v kI t.kind, .sl [10], .sl [3, 2]]), ([3, 2], .row true false (kR 0) y3_2_8), ([10], .row true false kS t.labels)]⟩
theorem l8_spec_l3Copy_eq (nf kf : Nat) (m8 : Nat) (t : Ty) (x4_8 : Int) (y3_2_8 : List Ty) : l8_spec_l3Copy nf (kf + 1) (m8 + 1) t x4_8 y3_2_8 = (
  br (decide (x4_8 < (List.length t.args : Int))) (
    gg (0 ≤ x4_8 ∧ x4_8 < (List.length t.args : Int)) <|
      cb (m_spec_l3Copy nf kf (gt t.args x4_8 Ty.zero)) fun r26 =>
        gg (List.length y3_2_8 + List.length ([(Ty.h r26)] : List Ty) ≤ 33554432) <|
          mark (l8_spec_l3Copy nf (kf + 1) m8 t (w64 (x4_8 + (1 : Int))) (y3_2_8 ++ ([(Ty.h r26)] : List Ty)))) (
    some (Ty.mk t.kind t.labels y3_2_8))) := by kernel_rfl
theorem m_spec_l3Copy_eq (nf kf : Nat) (t : Ty) : m_spec_l3Copy nf (kf + 1) t = (
  gg (List.length t.labels ≤ 33554432) <|
    mark (l8_spec_l3Copy nf (kf + 1) nf t (0 : Int) ([] : List Ty))) := by kernel_rfl
noncomputable def e_spec_l3Copy (nf : Nat) : XE := eF 99 [.v (kR 0)] [.o (kR 0)] (fun t => m_spec_l3Copy nf nf t.1)
theorem gok_spec_l3Copy (nf : Nat) : ∀ kf : Nat, XT.ok Try.prog (G_spec_l3Copy nf kf ++ B_spec_l3Copy nf)
  | 0 => by exact trivial
  | kf + 1 => by
    have ih := gok_spec_l3Copy nf kf
    refine ⟨?_, (by exact trivial)⟩
    · refine eF_ok fun t x h => ?_
      obtain ⟨t, _⟩ := t
      exact runF_ok (N := 31) ih Try.func99 (by kernel_rfl) rfl h
theorem o_spec_l3Copy (nf : Nat) : conOK Try.prog 99 (e_spec_l3Copy nf).con := by
  have ih := gok_spec_l3Copy nf nf
  refine eF_ok fun t x h => ?_
  obtain ⟨t, _⟩ := t
  exact runF_ok (N := 31) ih Try.func99 (by kernel_rfl) rfl h
end Go.Q
