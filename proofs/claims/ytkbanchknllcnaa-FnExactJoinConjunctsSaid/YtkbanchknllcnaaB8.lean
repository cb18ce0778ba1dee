/- Conditions joined. -/
import Derived.Test.YtkbanchknllcnaaB7
import Derived.Test.YtkbanchknllcnaaProg
import Derived.KernelRfl
set_option linter.unusedVariables false
set_option linter.unusedSimpArgs false
namespace Go.Q
open Go.Proofs
set_option linter.unusedVariables false
set_option maxRecDepth 20000
set_option maxHeartbeats 4000000
def ir_impl_opTerm : C := .sq (.rg [.al 4 (kR 2)]) (.sq (.rg [.mv 5 (.t 0), .mv 6 (.t 1), .bd 7 2 [(0, 1, (.i 4)), (1, 1, (.t 5)), (7, 1, (.t 6))], .st (.t 4) (.t 7) (kR 2)]) .rt)
noncomputable abbrev T_impl_opTerm (nf : Nat) : XT := []
noncomputable def m_impl_opTerm (nf : Nat) (op : Str) (args : List Tm) : Option (Tm) := runF (T_impl_opTerm nf) nf [.v kS, .v (kL (kR 2))] [.c 4 (.v (kR 2))] ir_impl_opTerm (op, args, ())
theorem m_impl_opTerm_eq (nf : Nat) (op : Str) (args : List Tm) : m_impl_opTerm nf op args = (
  some (Tm.mk (4 : Int) op (0 : Int) (Ty.mk (0 : Int) ([] : List Str) ([] : List Ty)) ([] : List Str) args)) := by kernel_rfl
noncomputable def e_impl_opTerm (nf : Nat) : XE := eF 149 [.v kS, .v (kL (kR 2))] [.v (kR 2)] (fun t => m_impl_opTerm nf t.1 t.2.1)
theorem o_impl_opTerm (nf : Nat) : conOK Try.prog 149 (e_impl_opTerm nf).con := by
  have ih : XT.ok Try.prog (T_impl_opTerm nf) := by exact trivial
  refine eF_ok fun t x h => ?_
  obtain ⟨op, args, _⟩ := t
  exact runF_ok (N := 8) ih Try.func149 (by kernel_rfl) rfl h
def c29_impl_joined : C := .sq (.rg [.ld 25 (.t 3) (kR 2), .st (.t 2) (.t 25) (kR 2)]) .rt
def c17_impl_joined : C := .sq (.rg [.bi 17 .lss (.t 16) (.t 15)]) (.sq (.cd (.t 17) .skip (.ex 0)) (.sq (.bk 1 (.sq (.rg [.ia 18 (.t 14) (.t 16) (kR 2), .ld 19 (.t 18) (kR 2), .al 5 (kR 2), .st (.t 5) (.t 19) (kR 2)]) (.rg [.ld 20 (.t 3) (kR 2), .ld 21 (.t 5) (kR 2), .bf 22 (kR 2) [(.t 20), (.t 21)], .cv (some 23) 149 [((.s [38]), .v kS), ((.t 22), .v (kL (kR 2)))], .st (.t 3) (.t 23) (kR 2)]))) (.rg [.bi 24 .add (.t 16) (.i 1), .mv 16 (.t 24)])))
def ir_impl_joined : C := .sq (.rg [.al 2 (kR 2)]) (.sq (.sq (.rg [.mv 6 (.t 0), .ln 7 false (.t 6), .bi 8 .eql (.t 7) (.i 0)]) (.cd (.t 8) (.sq (.rg [.cv (some 9) 148 [], .st (.t 2) (.t 9) (kR 2)]) .rt) .skip)) (.sq (.rg [.mv 10 (.t 0), .ia 11 (.t 10) (.i 0) (kR 2), .ld 12 (.t 11) (kR 2), .al 3 (kR 2), .st (.t 3) (.t 12) (kR 2)]) (.sq (.sq (.rg [.mv 13 (.t 0), .ss 14 (.t 13) (some (.i 1)) none (kR 2), .ln 15 false (.t 14), .mv 16 (.i 0)]) (.bk 0 (.lk [2, 3, 14, 15, 16] [[2], [3]] c17_impl_joined))) c29_impl_joined)))
noncomputable abbrev T_impl_joined (nf : Nat) : XT := [e_impl_truth nf, e_impl_opTerm nf]
noncomputable def m_impl_joined (nf : Nat) (list : List Tm) : Option (Tm) := runF (T_impl_joined nf) nf [.v (kL (kR 2))] [.c 2 (.v (kR 2))] ir_impl_joined (list, ())
noncomputable def X_impl_joined {R : Type} (nf : Nat) : C → Env → (Xt → Env → Option R) → Option R := xc (R := R) (T_impl_joined nf).S nf
noncomputable def l16_impl_joined (nf : Nat) (m16 : Nat) (list : List Tm) (x16_16 : Int) (y3_16_0 : Int) (y3_16_1 : Str) (y3_16_2 : Int) (y3_16_3 : Int) (y3_16_4 : List Str) (y3_16_5 : List Ty) (y3_16_6 : List Str) (y3_16_7 : List Tm) : Option (Tm) := xit [2, 3, 14, 15, 16] [[2], [3]] (X_impl_joined nf c17_impl_joined) (qB 0 (qS (X_impl_joined nf c29_impl_joined) (KF [.c 2 (.v (kR 2))]))) m16 ⟨[(2, .pt [2] 0), (3, .pt [3] 0), (14, .v (kL (kR 2)) (List.drop (Int.toNat (1 : Int)) (List.take (Int.toNat (List.length list : Int)) list))), (15, .v kI (List.length (List.drop (Int.toNat (1 : Int)) (List.take (Int.toNat (List.length list : Int)) list)) : Int)), (16, .v kI x16_16)], [([2], .box [.v kI (0 : Int), .v kS ([] : Str), .v kI (0 : Int), .v kI (0 : Int), .nl kS, .nl (kR 0), .nl kS, .nl (kR 2)]), ([3], .box [.v kI y3_16_0, .v kS y3_16_1, .v kI y3_16_2, .v kI y3_16_3, .v (kL kS) y3_16_4, .v (kL (kR 0)) y3_16_5, .v (kL kS) y3_16_6, .v (kL (kR 2)) y3_16_7])]⟩
theorem l16_impl_joined_eq (nf : Nat) (m16 : Nat) (list : List Tm) (x16_16 : Int) (y3_16_0 : Int) (y3_16_1 : Str) (y3_16_2 : Int) (y3_16_3 : Int) (y3_16_4 : List Str) (y3_16_5 : List Ty) (y3_16_6 : List Str) (y3_16_7 : List Tm) : l16_impl_joined nf (m16 + 1) list x16_16 y3_16_0 y3_16_1 y3_16_2 y3_16_3 y3_16_4 y3_16_5 y3_16_6 y3_16_7 = (
  br (decide (x16_16 < (List.length (List.drop (Int.toNat (1 : Int)) (List.take (Int.toNat (List.length list : Int)) list)) : Int))) (
    gg (0 ≤ x16_16 ∧ x16_16 < (List.length (List.drop (Int.toNat (1 : Int)) (List.take (Int.toNat (List.length list : Int)) list)) : Int)) <|
      cb (m_impl_opTerm nf ([38] : Str) ([(Tm.mk y3_16_0 y3_16_1 y3_16_2 (Ty.mk y3_16_3 y3_16_4 y3_16_5) y3_16_6 y3_16_7), (Tm.mk ((gt (List.drop (Int.toNat (1 : Int)) (List.take (Int.toNat (List.length list : Int)) list)) x16_16 Tm.zero).kind) ((gt (List.drop (Int.toNat (1 : Int)) (List.take (Int.toNat (List.length list : Int)) list)) x16_16 Tm.zero).name) ((gt (List.drop (Int.toNat (1 : Int)) (List.take (Int.toNat (List.length list : Int)) list)) x16_16 Tm.zero).n) (Ty.h ((gt (List.drop (Int.toNat (1 : Int)) (List.take (Int.toNat (List.length list : Int)) list)) x16_16 Tm.zero).type)) ((gt (List.drop (Int.toNat (1 : Int)) (List.take (Int.toNat (List.length list : Int)) list)) x16_16 Tm.zero).labels) ((gt (List.drop (Int.toNat (1 : Int)) (List.take (Int.toNat (List.length list : Int)) list)) x16_16 Tm.zero).args))] : List Tm)) fun r23 =>
        mark (l16_impl_joined nf m16 list (w64 (x16_16 + (1 : Int))) r23.kind r23.name r23.n r23.type.kind r23.type.labels r23.type.args r23.labels r23.args)) (
    some (Tm.mk y3_16_0 y3_16_1 y3_16_2 (Ty.mk y3_16_3 y3_16_4 y3_16_5) y3_16_6 y3_16_7))) := by kernel_rfl
theorem m_impl_joined_eq (nf : Nat) (list : List Tm) : m_impl_joined nf list = (
  br ((List.length list : Int) == (0 : Int)) (
    cb (m_impl_truth nf) fun r9 =>
      some (Tm.h r9)) (
    gg (0 ≤ (0 : Int) ∧ (0 : Int) < (List.length list : Int)) <|
      gg (0 ≤ (1 : Int) ∧ (1 : Int) ≤ (List.length list : Int) ∧ (List.length list : Int) ≤ (List.length list : Int)) <|
        mark (l16_impl_joined nf nf list (0 : Int) ((gt list (0 : Int) Tm.zero).kind) ((gt list (0 : Int) Tm.zero).name) ((gt list (0 : Int) Tm.zero).n) (((gt list (0 : Int) Tm.zero).type).kind) (((gt list (0 : Int) Tm.zero).type).labels) (((gt list (0 : Int) Tm.zero).type).args) ((gt list (0 : Int) Tm.zero).labels) ((gt list (0 : Int) Tm.zero).args)))) := by kernel_rfl
noncomputable def e_impl_joined (nf : Nat) : XE := eF 97 [.v (kL (kR 2))] [.v (kR 2)] (fun t => m_impl_joined nf t.1)
theorem o_impl_joined (nf : Nat) : conOK Try.prog 97 (e_impl_joined nf).con := by
  have ih : XT.ok Try.prog (T_impl_joined nf) := by exact ⟨o_impl_truth nf, o_impl_opTerm nf, trivial⟩
  refine eF_ok fun t x h => ?_
  obtain ⟨list, _⟩ := t
  exact runF_ok (N := 26) ih Try.func97 (by kernel_rfl) rfl h
def ir_impl_JoinConjuncts : C := .sq (.rg [.al 2 (kR 2)]) (.sq (.rg [.mv 3 (.t 0), .cv (some 4) 97 [((.t 3), .v (kL (kR 2)))], .ca (some 5) 96 [((.t 4), .v (kR 2))], .st (.t 2) (.t 5) (kR 2)]) .rt)
noncomputable abbrev T_impl_JoinConjuncts (nf : Nat) : XT := [e_impl_joined nf, e_impl_cloneTerm nf]
noncomputable def m_impl_JoinConjuncts (nf : Nat) (list : List Tm) : Option (Tm) := runF (T_impl_JoinConjuncts nf) nf [.v (kL (kR 2))] [.c 2 (.o (kR 2))] ir_impl_JoinConjuncts (list, ())
theorem m_impl_JoinConjuncts_eq (nf : Nat) (list : List Tm) : m_impl_JoinConjuncts nf list = (
  cb (m_impl_joined nf list) fun r4 =>
    cb (m_impl_cloneTerm nf nf r4) fun r5 =>
      some (Tm.h r5)) := by kernel_rfl
noncomputable def e_impl_JoinConjuncts (nf : Nat) : XE := eF 36 [.v (kL (kR 2))] [.o (kR 2)] (fun t => m_impl_JoinConjuncts nf t.1)
theorem o_impl_JoinConjuncts (nf : Nat) : conOK Try.prog 36 (e_impl_JoinConjuncts nf).con := by
  have ih : XT.ok Try.prog (T_impl_JoinConjuncts nf) := by exact ⟨o_impl_joined nf, o_impl_cloneTerm nf, trivial⟩
  refine eF_ok fun t x h => ?_
  obtain ⟨list, _⟩ := t
  exact runF_ok (N := 6) ih Try.func36 (by kernel_rfl) rfl h
def c27_spec_JoinConjuncts : C := .sq (.rg [.ld 27 (.t 3) (kR 2), .st (.t 2) (.t 27) (kR 2)]) .rt
def c17_spec_JoinConjuncts : C := .sq (.sq (.rg [.mv 13 (.t 4), .mv 14 (.t 0), .ln 15 false (.t 14), .bi 16 .lss (.t 13) (.t 15)]) (.cd (.t 16) .skip (.ex 0))) (.sq (.bk 1 (.dr [] [.ld 19 (.t 3) (kR 2), .mv 20 (.t 0), .mv 21 (.t 4), .ia 22 (.t 20) (.t 21) (kR 2), .ld 23 (.t 22) (kR 2), .cv (some 24) 94 [((.t 23), .v (kR 2))]] [.bf 25 (kR 2) [(.t 19), (.t 24)], .cv (some 26) 95 [((.s [38]), .v kS), ((.t 25), .v (kL (kR 2)))], .st (.t 3) (.t 26) (kR 2)])) (.rg [.mv 17 (.t 4), .bi 18 .add (.t 17) (.i 1), .mv 4 (.t 18)]))
def ir_spec_JoinConjuncts : C := .sq (.rg [.al 2 (kR 2)]) (.sq (.sq (.rg [.mv 5 (.t 0), .ln 6 false (.t 5), .bi 7 .eql (.t 6) (.i 0)]) (.cd (.t 7) (.sq (.rg [.cv (some 8) 93 [], .st (.t 2) (.t 8) (kR 2)]) .rt) .skip)) (.sq (.rg [.mv 9 (.t 0), .ia 10 (.t 9) (.i 0) (kR 2), .ld 11 (.t 10) (kR 2), .cv (some 12) 94 [((.t 11), .v (kR 2))], .al 3 (kR 2), .st (.t 3) (.t 12) (kR 2)]) (.sq (.sq (.rg [.mv 4 (.i 1)]) (.bk 0 (.lk [0, 2, 3, 4] [[2], [3]] c17_spec_JoinConjuncts))) c27_spec_JoinConjuncts)))
noncomputable abbrev T_spec_JoinConjuncts (nf : Nat) : XT := [e_spec_l7True nf, e_spec_l7Copy nf, e_spec_l7Op nf]
noncomputable def m_spec_JoinConjuncts (nf : Nat) (list : List Tm) : Option (Tm) := runF (T_spec_JoinConjuncts nf) nf [.v (kL (kR 2))] [.c 2 (.v (kR 2))] ir_spec_JoinConjuncts (list, ())
noncomputable def X_spec_JoinConjuncts {R : Type} (nf : Nat) : C → Env → (Xt → Env → Option R) → Option R := xc (R := R) (T_spec_JoinConjuncts nf).S nf
noncomputable def l16_spec_JoinConjuncts (nf : Nat) (m16 : Nat) (list : List Tm) (x4_16 : Int) (y3_16_0 : Int) (y3_16_1 : Str) (y3_16_2 : Int) (y3_16_3 : Int) (y3_16_4 : List Str) (y3_16_5 : List Ty) (y3_16_6 : List Str) (y3_16_7 : List Tm) : Option (Tm) := xit [0, 2, 3, 4] [[2], [3]] (X_spec_JoinConjuncts nf c17_spec_JoinConjuncts) (qB 0 (qS (X_spec_JoinConjuncts nf c27_spec_JoinConjuncts) (KF [.c 2 (.v (kR 2))]))) m16 ⟨[(0, .v (kL (kR 2)) list), (2, .pt [2] 0), (3, .pt [3] 0), (4, .v kI x4_16)], [([2], .box [.v kI (0 : Int), .v kS ([] : Str), .v kI (0 : Int), .v kI (0 : Int), .nl kS, .nl (kR 0), .nl kS, .nl (kR 2)]), ([3], .box [.v kI y3_16_0, .v kS y3_16_1, .v kI y3_16_2, .v kI y3_16_3, .v (kL kS) y3_16_4, .v (kL (kR 0)) y3_16_5, .v (kL kS) y3_16_6, .v (kL (kR 2)) y3_16_7])]⟩
theorem l16_spec_JoinConjuncts_eq (nf : Nat) (m16 : Nat) (list : List Tm) (x4_16 : Int) (y3_16_0 : Int) (y3_16_1 : Str) (y3_16_2 : Int) (y3_16_3 : Int) (y3_16_4 : List Str) (y3_16_5 : List Ty) (y3_16_6 : List Str) (y3_16_7 : List Tm) : l16_spec_JoinConjuncts nf (m16 + 1) list x4_16 y3_16_0 y3_16_1 y3_16_2 y3_16_3 y3_16_4 y3_16_5 y3_16_6 y3_16_7 = (
  br (decide (x4_16 < (List.length list : Int))) (
    gg (0 ≤ x4_16 ∧ x4_16 < (List.length list : Int)) <|
      cb (m_spec_l7Copy nf nf (gt list x4_16 Tm.zero)) fun r24 =>
        cb (m_spec_l7Op nf ([38] : Str) ([(Tm.mk y3_16_0 y3_16_1 y3_16_2 (Ty.mk y3_16_3 y3_16_4 y3_16_5) y3_16_6 y3_16_7), r24] : List Tm)) fun r26 =>
          mark (l16_spec_JoinConjuncts nf m16 list (w64 (x4_16 + (1 : Int))) r26.kind r26.name r26.n r26.type.kind r26.type.labels r26.type.args r26.labels r26.args)) (
    some (Tm.mk y3_16_0 y3_16_1 y3_16_2 (Ty.mk y3_16_3 y3_16_4 y3_16_5) y3_16_6 y3_16_7))) := by kernel_rfl
theorem m_spec_JoinConjuncts_eq (nf : Nat) (list : List Tm) : m_spec_JoinConjuncts nf list = (
  br ((List.length list : Int) == (0 : Int)) (
    cb (m_spec_l7True nf) fun r8 =>
      some (Tm.h r8)) (
    gg (0 ≤ (0 : Int) ∧ (0 : Int) < (List.length list : Int)) <|
      cb (m_spec_l7Copy nf nf (gt list (0 : Int) Tm.zero)) fun r12 =>
        mark (l16_spec_JoinConjuncts nf nf list (1 : Int) r12.kind r12.name r12.n r12.type.kind r12.type.labels r12.type.args r12.labels r12.args))) := by kernel_rfl
noncomputable def e_spec_JoinConjuncts (nf : Nat) : XE := eF 34 [.v (kL (kR 2))] [.v (kR 2)] (fun t => m_spec_JoinConjuncts nf t.1)
theorem o_spec_JoinConjuncts (nf : Nat) : conOK Try.prog 34 (e_spec_JoinConjuncts nf).con := by
  have ih : XT.ok Try.prog (T_spec_JoinConjuncts nf) := by exact ⟨o_spec_l7True nf, o_spec_l7Copy nf, o_spec_l7Op nf, trivial⟩
  refine eF_ok fun t x h => ?_
  obtain ⟨list, _⟩ := t
  exact runF_ok (N := 28) ih Try.func34 (by kernel_rfl) rfl h
def c48_laws_FnExactJoinConjuncts : C := .sq (.rg [.mv 8 (.i 1)]) (.sq (.rg [.ld 43 (.t 6) (kR 2), .mv 44 (.t 8), .cq (some 45) 30 [((.t 43), .q), ((.t 44), .v kI)], .mv 8 (.t 45)]) (.sq (.rg [.mv 9 (.i 1)]) (.sq (.rg [.ld 46 (.t 6) (kR 2), .mv 47 (.t 9), .cv (some 48) 37 [((.t 46), .v (kR 2)), ((.t 47), .v kI)], .mv 9 (.t 48)]) (.sq (.sq (.rg [.mv 49 (.t 9), .bi 50 .lss (.t 49) (.i 0)]) (.cd (.t 50) (.sq (.rg [.mv 2 (.b false)]) .rt) .skip)) (.sq (.sq (.rg [.mv 51 (.t 9), .mv 52 (.t 8), .bi 53 .neq (.t 51) (.t 52)]) (.cd (.t 53) (.sq (.rg [.mv 2 (.b false)]) .rt) .skip)) (.sq (.rg [.mv 54 (.t 0), .cv (some 55) 35 [((.t 54), .v (kL (kR 2)))], .cv (some 56) 36 [((.t 55), .v (kL (kR 2)))], .al 10 (kR 2), .st (.t 10) (.t 56) (kR 2)]) (.sq (.sq (.rg [.ld 57 (.t 10) (kR 2), .ld 58 (.t 4) (kR 2), .cv (some 59) 29 [((.t 57), .v (kR 2)), ((.t 58), .v (kR 2))], .un 60 .not (.t 59)]) (.cd (.t 60) (.sq (.rg [.mv 2 (.b false)]) .rt) .skip)) (.sq (.rg [.mv 9 (.i 1)]) (.sq (.rg [.ld 61 (.t 6) (kR 2), .mv 62 (.t 9), .cv (some 63) 37 [((.t 61), .v (kR 2)), ((.t 62), .v kI)], .mv 9 (.t 63)]) (.sq (.sq (.rg [.mv 64 (.t 9), .bi 65 .lss (.t 64) (.i 0)]) (.cd (.t 65) (.sq (.rg [.mv 2 (.b false)]) .rt) .skip)) (.sq (.sq (.rg [.mv 66 (.t 9), .mv 67 (.t 8), .bi 68 .neq (.t 66) (.t 67)]) (.cd (.t 68) (.sq (.rg [.mv 2 (.b false)]) .rt) .skip)) (.sq (.rg [.mv 2 (.b true)]) .rt))))))))))))
def c43_laws_FnExactJoinConjuncts : C := .cd (.t 42) (.sq (.rg [.mv 2 (.b false)]) .rt) .skip
def w43_laws_FnExactJoinConjuncts : C := .kp [0, 4, 6, 42] [[4], [6], [22, 4], [22, 5], [22, 6], [22, 7]] c43_laws_FnExactJoinConjuncts
def ir_laws_FnExactJoinConjuncts : C := .sq (.rg [.mv 2 (.b false)]) (.sq (.rg [.mv 3 (.i 1048576)]) (.sq (.rg [.mv 11 (.t 0), .mv 12 (.t 3), .cv (some 13) 33 [((.t 11), .v (kL (kR 2))), ((.t 12), .v kI)], .mv 3 (.t 13)]) (.sq (.sq (.rg [.mv 14 (.t 3), .bi 15 .lss (.t 14) (.i 0)]) (.cd (.t 15) (.sq (.rg [.mv 2 (.b true)]) .rt) .skip)) (.sq (.rg [.mv 16 (.t 0), .cv (some 17) 35 [((.t 16), .v (kL (kR 2)))], .cv (some 18) 34 [((.t 17), .v (kL (kR 2)))], .al 4 (kR 2), .st (.t 4) (.t 18) (kR 2)]) (.sq (.rg [.mv 19 (.t 0), .ca (some 20) 35 [((.t 19), .v (kL (kR 2)))], .mv 5 (.t 20)]) (.sq (.rg [.mv 21 (.t 5), .ca (some 22) 36 [((.t 21), .v (kL (kR 2)))], .al 6 (kR 2), .st (.t 6) (.t 22) (kR 2)]) (.sq (.sq (.rg [.ld 23 (.t 6) (kR 2), .ld 24 (.t 4) (kR 2), .cv (some 25) 29 [((.t 23), .v (kR 2)), ((.t 24), .v (kR 2))], .un 26 .not (.t 25)]) (.cd (.t 26) (.sq (.rg [.mv 2 (.b false)]) .rt) .skip)) (.sq (.sq (.rg [.mv 27 (.t 5), .mv 28 (.t 0), .cv (some 29) 35 [((.t 28), .v (kL (kR 2)))], .cv (some 30) 28 [((.t 27), .v (kL (kR 2))), ((.t 29), .v (kL (kR 2)))], .un 31 .not (.t 30)]) (.cd (.t 31) (.sq (.rg [.mv 2 (.b false)]) .rt) .skip)) (.sq (.rg [.mv 7 (.i 1)]) (.sq (.rg [.mv 32 (.t 5), .mv 33 (.t 7), .cw (some 34) 31 (kR 2) (.t 32) (.t 33), .mv 7 (.t 34)]) (.sq (.sq (.rg [.mv 35 (.t 7), .bi 36 .lss (.t 35) (.i 0), .mv 37 (.t 36), .g 37 false (.ld 38 (.t 6) (kR 2)), .g 37 false (.ld 39 (.t 4) (kR 2)), .g 37 false (.cv (some 40) 29 [((.t 38), .v (kR 2)), ((.t 39), .v (kR 2))]), .g 37 false (.un 41 .not (.t 40)), .pk 42 (.t 37) (.b true) (.t 41)]) w43_laws_FnExactJoinConjuncts) c48_laws_FnExactJoinConjuncts)))))))))))
noncomputable abbrev T_laws_FnExactJoinConjuncts (nf : Nat) : XT := [e_laws_szTermS nf, e_laws_toTermS nf, e_spec_JoinConjuncts nf, e_impl_JoinConjuncts nf, e_laws_eqTerm nf, e_laws_eqTermS nf, e_laws_markTermS nf, e_laws_markTerm nf, e_laws_heldTerm nf]
noncomputable def m_laws_FnExactJoinConjuncts (nf : Nat) (a : List Tm) : Option (Bool) := runF (T_laws_FnExactJoinConjuncts nf) nf [.v (kL (kR 2))] [.t 2 (.v .bool)] ir_laws_FnExactJoinConjuncts (a, ())
noncomputable def X_laws_FnExactJoinConjuncts {R : Type} (nf : Nat) : C → Env → (Xt → Env → Option R) → Option R := xc (R := R) (T_laws_FnExactJoinConjuncts nf).S nf
noncomputable def j43_laws_FnExactJoinConjuncts (nf : Nat) (a : List Tm) (r18 : Tm) (r22 : Tm) (x42_43 : Bool) : Option (Bool) := X_laws_FnExactJoinConjuncts nf c43_laws_FnExactJoinConjuncts ⟨[(0, .v (kL (kR 2)) a), (4, .pt [4] 0), (6, .pt [6] 0), (42, .v .bool x42_43)], [([4], .box [.v kI r18.kind, .v kS r18.name, .v kI r18.n, .v kI r18.type.kind, .v (kL kS) r18.type.labels, .v (kL (kR 0)) r18.type.args, .v (kL kS) r18.labels, .v (kL (kR 2)) r18.args]), ([6], .box [.v kI r22.kind, .v kS r22.name, .v kI r22.n, .v kI r22.type.kind, .sl [22, 4], .sl [22, 5], .sl [22, 6], .sl [22, 7]]), ([22, 4], .row true false kS r22.type.labels), ([22, 5], .row true false (kR 0) r22.type.args), ([22, 6], .row true false kS r22.labels), ([22, 7], .row true false (kR 2) r22.args)]⟩ (qS (X_laws_FnExactJoinConjuncts nf c48_laws_FnExactJoinConjuncts) (KF [.t 2 (.v .bool)]))
theorem j43_laws_FnExactJoinConjuncts_eq (nf : Nat) (a : List Tm) (r18 : Tm) (r22 : Tm) (x42_43 : Bool) : j43_laws_FnExactJoinConjuncts nf a r18 r22 x42_43 = (
  br x42_43 (
    some false) (
    cb (m_laws_markTerm nf r22.kind r22.name r22.n r22.type.kind (1 : Int) r22.type.labels r22.type.args r22.labels r22.args) fun r45 =>
      cb (m_laws_heldTerm nf (Tm.mk r22.kind r22.name r22.n (Ty.mk r22.type.kind r45.2.1 r45.2.2.1) r45.2.2.2.1 r45.2.2.2.2) (1 : Int)) fun r48 =>
        br (decide (r48 < (0 : Int))) (
          some false) (
          br (!(r48 == r45.1)) (
            some false) (
            cb (m_laws_toTermS nf nf a) fun r55 =>
              cb (m_impl_JoinConjuncts nf r55) fun r56 =>
                cb (m_laws_eqTerm nf nf (Tm.h r56) (Tm.h r18)) fun r59 =>
                  br (!r59) (
                    some false) (
                    cb (m_laws_heldTerm nf (Tm.mk r22.kind r22.name r22.n (Ty.mk r22.type.kind r45.2.1 r45.2.2.1) r45.2.2.2.1 r45.2.2.2.2) (1 : Int)) fun r63 =>
                      br (decide (r63 < (0 : Int))) (
                        some false) (
                        br (!(r63 == r45.1)) (
                          some false) (
                          some true))))))) := by kernel_rfl
theorem m_laws_FnExactJoinConjuncts_eq (nf : Nat) (a : List Tm) : m_laws_FnExactJoinConjuncts nf a = (
  cb (m_laws_szTermS nf nf a (1048576 : Int)) fun r13 =>
    br (decide (r13 < (0 : Int))) (
      some true) (
      cb (m_laws_toTermS nf nf a) fun r17 =>
        cb (m_spec_JoinConjuncts nf r17) fun r18 =>
          cb (m_laws_toTermS nf nf a) fun r20 =>
            cb (m_impl_JoinConjuncts nf r20) fun r22 =>
              cb (m_laws_eqTerm nf nf (Tm.h r22) (Tm.h r18)) fun r25 =>
                br (!r25) (
                  some false) (
                  cb (m_laws_toTermS nf nf a) fun r29 =>
                    cb (m_laws_eqTermS nf nf r20 r29) fun r30 =>
                      br (!r30) (
                        some false) (
                        cb (m_laws_markTermS nf nf r20 (1 : Int)) fun r34 =>
                          br ((decide (r34.2 < (0 : Int))) == false) (
                            cb (m_laws_eqTerm nf nf (Tm.h r22) (Tm.h r18)) fun r40 =>
                              mark (j43_laws_FnExactJoinConjuncts nf a r18 r22 (!r40))) (
                            mark (j43_laws_FnExactJoinConjuncts nf a r18 r22 true)))))) := by
  unfold m_laws_FnExactJoinConjuncts j43_laws_FnExactJoinConjuncts ir_laws_FnExactJoinConjuncts w43_laws_FnExactJoinConjuncts c48_laws_FnExactJoinConjuncts
  generalize c43_laws_FnExactJoinConjuncts = x0
  revert x0
  refine id ?_
  intro x0
  kernel_rfl
noncomputable def e_laws_FnExactJoinConjuncts (nf : Nat) : XE := eF 6 [.v (kL (kR 2))] [.v .bool] (fun t => m_laws_FnExactJoinConjuncts nf t.1)
theorem o_laws_FnExactJoinConjuncts (nf : Nat) : conOK Try.prog 6 (e_laws_FnExactJoinConjuncts nf).con := by
  have ih : XT.ok Try.prog (T_laws_FnExactJoinConjuncts nf) := by exact ⟨o_laws_szTermS nf, o_laws_toTermS nf, o_spec_JoinConjuncts nf, o_impl_JoinConjuncts nf, o_laws_eqTerm nf, o_laws_eqTermS nf, o_laws_markTermS nf, o_laws_markTerm nf, o_laws_heldTerm nf, trivial⟩
  refine eF_ok fun t x h => ?_
  obtain ⟨a, _⟩ := t
  exact runF_ok (N := 69) ih Try.func6 (by kernel_rfl) rfl h
end Go.Q
