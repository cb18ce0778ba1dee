/- The parts of a condition. -/
import Derived.Test.YtkbanchknllcnaaB10
import Derived.Test.YtkbanchknllcnaaProg
import Derived.KernelRfl
set_option linter.unusedVariables false
set_option linter.unusedSimpArgs false
namespace Go.Q
open Go.Proofs
set_option linter.unusedVariables false
set_option maxRecDepth 20000
set_option maxHeartbeats 4000000
def c10_impl_conjuncts : C := .sq (.rg [.mv 30 (.t 1), .ld 31 (.t 2) (kR 2), .bs 32 false (kR 2) [(.t 31)], .ap 33 [4] false (kR 2) (.t 30) (.t 32), .mv 4 (.t 33)]) .rt
def c5_impl_conjuncts : C := .cd (.t 18) (.sq (.dq [1] [1, 2] 28 [.fa 19 (.t 2) 2 5 7, .ld 20 (.t 19) (kL (kR 2)), .ia 21 (.t 20) (.i 1) (kR 2), .ld 22 (.t 21) (kR 2), .fa 23 (.t 2) 2 5 7, .ld 24 (.t 23) (kL (kR 2)), .ia 25 (.t 24) (.i 0) (kR 2), .ld 26 (.t 25) (kR 2), .mv 27 (.t 1), .cq (some 28) 147 [((.t 26), .v (kR 2)), ((.t 27), .rw false (kR 2))]] [.cq (some 29) 147 [((.t 22), .v (kR 2)), ((.t 28), .rw false (kR 2))], .mv 4 (.t 29)]) .rt) .skip
def w5_impl_conjuncts : C := .kp [1, 2, 18] [[2], [1000]] c5_impl_conjuncts
def ir_impl_conjuncts : C := .sq (.rg [.bx 2 (.t 0) (kR 2), .mv 4 (.nl (kR 2))]) (.sq (.sq (.rg [.fa 5 (.t 2) 2 0 0, .ld 6 (.t 5) kI, .bi 7 .eql (.t 6) (.i 4), .mv 8 (.t 7), .g 8 true (.fa 9 (.t 2) 2 1 1), .g 8 true (.ld 10 (.t 9) kS), .g 8 true (.bi 11 .eql (.t 10) (.s [38])), .pk 12 (.t 8) (.t 11) (.b false), .mv 13 (.t 12), .g 13 true (.fa 14 (.t 2) 2 5 7), .g 13 true (.ld 15 (.t 14) (kL (kR 2))), .g 13 true (.ln 16 false (.t 15)), .g 13 true (.bi 17 .eql (.t 16) (.i 2)), .pk 18 (.t 13) (.t 17) (.b false)]) w5_impl_conjuncts) c10_impl_conjuncts)
noncomputable def B_impl_conjuncts (nf : Nat) : XT := []
noncomputable def G_impl_conjuncts (nf : Nat) : Nat → XT
  | 0 => []
  | kf + 1 => [eQ 147 [.v (kR 2), .sl 0] [.s (kR 2)] [.row false (kR 2)] [.gone] (fun t u => (fun (e : Tm) (out : List Tm) => runQ (G_impl_conjuncts nf kf ++ B_impl_conjuncts nf) nf [.v (kR 2), .sl 0] [.row false (kR 2)] [.gone] [.t 4 (.s (kR 2))] ir_impl_conjuncts (e, (), ()) out) t.1 u)]
noncomputable abbrev T_impl_conjuncts (nf kf : Nat) : XT := G_impl_conjuncts nf kf ++ B_impl_conjuncts nf
noncomputable def m_impl_conjuncts (nf kf : Nat) (e : Tm) (out : List Tm) : Option ((List Tm) × Unit) := runQ (T_impl_conjuncts nf kf) nf [.v (kR 2), .sl 0] [.row false (kR 2)] [.gone] [.t 4 (.s (kR 2))] ir_impl_conjuncts (e, (), ()) out
noncomputable def X_impl_conjuncts {R : Type} (nf kf : Nat) : C → Env → (Xt → Env → Option R) → Option R := xc (R := R) (T_impl_conjuncts nf kf).S nf
noncomputable def j5_impl_conjuncts (nf kf : Nat) (out : List Tm) (e : Tm) (x18_5 : Bool) : Option ((List Tm) × Unit) := X_impl_conjuncts nf kf c5_impl_conjuncts ⟨[(1, .sl [1000]), (2, .pt [2] 0), (18, .v .bool x18_5)], [([2], .box [.v kI e.kind, .v kS e.name, .v kI e.n, .v kI e.type.kind, .v (kL kS) e.type.labels, .v (kL (kR 0)) e.type.args, .v (kL kS) e.labels, .v (kL (kR 2)) e.args]), ([1000], .row false false (kR 2) out)]⟩ (qS (X_impl_conjuncts nf kf c10_impl_conjuncts) (KQ [.t 4 (.s (kR 2))] [.gone]))
theorem j5_impl_conjuncts_eq (nf kf : Nat) (out : List Tm) (e : Tm) (x18_5 : Bool) : j5_impl_conjuncts nf (kf + 1) out e x18_5 = (
  br x18_5 (
    gg (0 ≤ (1 : Int) ∧ (1 : Int) < (List.length e.args : Int)) <|
      gg (0 ≤ (0 : Int) ∧ (0 : Int) < (List.length e.args : Int)) <|
        cb (m_impl_conjuncts nf kf (gt e.args (0 : Int) Tm.zero) out) fun r28 =>
          cb (m_impl_conjuncts nf kf (gt e.args (1 : Int) Tm.zero) r28.1) fun r29 =>
            some (r29.1, ())) (
    gg (List.length out + List.length ([(Tm.h e)] : List Tm) ≤ 33554432) <|
      some ((out ++ ([(Tm.h e)] : List Tm)), ()))) := by kernel_rfl
theorem m_impl_conjuncts_eq (nf kf : Nat) (e : Tm) (out : List Tm) : m_impl_conjuncts nf (kf + 1) e out = (
  br ((e.kind == (4 : Int)) == true) (
    br ((e.name == ([38] : Str)) == true) (
      mark (j5_impl_conjuncts nf (kf + 1) out e ((List.length e.args : Int) == (2 : Int)))) (
      mark (j5_impl_conjuncts nf (kf + 1) out e false))) (
    mark (j5_impl_conjuncts nf (kf + 1) out e false))) := by
  unfold m_impl_conjuncts j5_impl_conjuncts ir_impl_conjuncts w5_impl_conjuncts c10_impl_conjuncts
  generalize c5_impl_conjuncts = x0
  revert x0
  refine id ?_
  intro x0
  kernel_rfl
noncomputable def e_impl_conjuncts (nf : Nat) : XE := eQ 147 [.v (kR 2), .sl 0] [.s (kR 2)] [.row false (kR 2)] [.gone] (fun t u => m_impl_conjuncts nf nf t.1 u)
theorem gok_impl_conjuncts (nf : Nat) : ∀ kf : Nat, XT.ok Try.prog (G_impl_conjuncts nf kf ++ B_impl_conjuncts nf)
  | 0 => by exact trivial
  | kf + 1 => by
    have ih := gok_impl_conjuncts nf kf
    refine ⟨?_, (by exact trivial)⟩
    · refine eQ_ok fun t u x h => ?_
      obtain ⟨e, _, _⟩ := t
      exact runQ_ok (N := 34) ih Try.func147 (by kernel_rfl) rfl rfl rfl rfl rfl h
theorem o_impl_conjuncts (nf : Nat) : conOK Try.prog 147 (e_impl_conjuncts nf).con := by
  have ih := gok_impl_conjuncts nf nf
  refine eQ_ok fun t u x h => ?_
  obtain ⟨e, _, _⟩ := t
  exact runQ_ok (N := 34) ih Try.func147 (by kernel_rfl) rfl rfl rfl rfl rfl h
def ir_impl_partsOf : C := .sq (.rg [.bx 1 (.t 0) (kR 2), .mv 2 (.nl (kR 2))]) (.sq (.sq (.rg [.ld 3 (.t 1) (kR 2), .cv (some 4) 146 [((.t 3), .v (kR 2))]]) (.cd (.t 4) (.sq (.rg [.mv 2 (.nl (kR 2))]) .rt) .skip)) (.sq (.rg [.ld 5 (.t 1) (kR 2), .cq (some 6) 147 [((.t 5), .v (kR 2)), ((.nl (kR 2)), .rw false (kR 2))], .mv 2 (.t 6)]) .rt))
noncomputable abbrev T_impl_partsOf (nf : Nat) : XT := [e_impl_isTrue nf, e_impl_conjuncts nf]
noncomputable def m_impl_partsOf (nf : Nat) (e : Tm) : Option (List Tm) := runF (T_impl_partsOf nf) nf [.v (kR 2)] [.t 2 (.v (kL (kR 2)))] ir_impl_partsOf (e, ())
theorem m_impl_partsOf_eq (nf : Nat) (e : Tm) : m_impl_partsOf nf e = (
  cb (m_impl_isTrue nf (Tm.h e)) fun r4 =>
    br r4 (
      some ([] : List Tm)) (
      cb (m_impl_conjuncts nf nf (Tm.h e) ([] : List Tm)) fun r6 =>
        some r6.1)) := by kernel_rfl
noncomputable def e_impl_partsOf (nf : Nat) : XE := eF 90 [.v (kR 2)] [.v (kL (kR 2))] (fun t => m_impl_partsOf nf t.1)
theorem o_impl_partsOf (nf : Nat) : conOK Try.prog 90 (e_impl_partsOf nf).con := by
  have ih : XT.ok Try.prog (T_impl_partsOf nf) := by exact ⟨o_impl_isTrue nf, o_impl_conjuncts nf, trivial⟩
  refine eF_ok fun t x h => ?_
  obtain ⟨e, _⟩ := t
  exact runF_ok (N := 7) ih Try.func90 (by kernel_rfl) rfl h
def ir_impl_ConjunctsOf : C := .sq (.rg [.bx 1 (.t 0) (kR 2), .mv 2 (.nl (kR 2))]) (.sq (.rg [.ld 3 (.t 1) (kR 2), .cv (some 4) 90 [((.t 3), .v (kR 2))], .ca (some 5) 89 [((.t 4), .v (kL (kR 2)))], .mv 2 (.t 5)]) .rt)
noncomputable abbrev T_impl_ConjunctsOf (nf : Nat) : XT := [e_impl_partsOf nf, e_impl_cloneTerms nf]
noncomputable def m_impl_ConjunctsOf (nf : Nat) (e : Tm) : Option (List Tm) := runF (T_impl_ConjunctsOf nf) nf [.v (kR 2)] [.t 2 (.o (kL (kR 2)))] ir_impl_ConjunctsOf (e, ())
theorem m_impl_ConjunctsOf_eq (nf : Nat) (e : Tm) : m_impl_ConjunctsOf nf e = (
  cb (m_impl_partsOf nf (Tm.h e)) fun r4 =>
    cb (m_impl_cloneTerms nf r4) fun r5 =>
      some r5) := by kernel_rfl
noncomputable def e_impl_ConjunctsOf (nf : Nat) : XE := eF 27 [.v (kR 2)] [.o (kL (kR 2))] (fun t => m_impl_ConjunctsOf nf t.1)
theorem o_impl_ConjunctsOf (nf : Nat) : conOK Try.prog 27 (e_impl_ConjunctsOf nf).con := by
  have ih : XT.ok Try.prog (T_impl_ConjunctsOf nf) := by exact ⟨o_impl_partsOf nf, o_impl_cloneTerms nf, trivial⟩
  refine eF_ok fun t x h => ?_
  obtain ⟨e, _⟩ := t
  exact runF_ok (N := 6) ih Try.func27 (by kernel_rfl) rfl h
def c10_spec_l17Parts : C := .sq (.rg [.ld 28 (.t 1) (kR 2), .ca (some 29) 94 [((.t 28), .v (kR 2))], .bo 30 (kR 2) [(.t 29)], .mv 2 (.t 30)]) .rt
def c5_spec_l17Parts : C := .cd (.t 16) (.sq (.dr [21] [.fa 17 (.t 1) 2 5 7, .ld 18 (.t 17) (kL (kR 2)), .ia 19 (.t 18) (.i 0) (kR 2), .ld 20 (.t 19) (kR 2), .ca (some 21) 88 [((.t 20), .v (kR 2))], .fa 22 (.t 1) 2 5 7, .ld 23 (.t 22) (kL (kR 2)), .ia 24 (.t 23) (.i 1) (kR 2), .ld 25 (.t 24) (kR 2)] [.ca (some 26) 88 [((.t 25), .v (kR 2))], .ap 27 [2] true (kR 2) (.t 21) (.t 26), .mv 2 (.t 27)]) .rt) .skip
def w5_spec_l17Parts : C := .kp [1, 16] [[1]] c5_spec_l17Parts
def ir_spec_l17Parts : C := .sq (.rg [.bx 1 (.t 0) (kR 2), .mv 2 (.nl (kR 2))]) (.sq (.sq (.rg [.fa 3 (.t 1) 2 0 0, .ld 4 (.t 3) kI, .bi 5 .eql (.t 4) (.i 4), .mv 6 (.t 5), .g 6 true (.fa 7 (.t 1) 2 1 1), .g 6 true (.ld 8 (.t 7) kS), .g 6 true (.bi 9 .eql (.t 8) (.s [38])), .pk 10 (.t 6) (.t 9) (.b false), .mv 11 (.t 10), .g 11 true (.fa 12 (.t 1) 2 5 7), .g 11 true (.ld 13 (.t 12) (kL (kR 2))), .g 11 true (.ln 14 false (.t 13)), .g 11 true (.bi 15 .eql (.t 14) (.i 2)), .pk 16 (.t 11) (.t 15) (.b false)]) w5_spec_l17Parts) c10_spec_l17Parts)
noncomputable def B_spec_l17Parts (nf : Nat) : XT := [e_spec_l7Copy nf]
noncomputable def G_spec_l17Parts (nf : Nat) : Nat → XT
  | 0 => []
  | kf + 1 => [eF 88 [.v (kR 2)] [.o (kL (kR 2))] (fun t => (fun (e : Tm) => runF (G_spec_l17Parts nf kf ++ B_spec_l17Parts nf) nf [.v (kR 2)] [.t 2 (.o (kL (kR 2)))] ir_spec_l17Parts (e, ())) t.1)]
noncomputable abbrev T_spec_l17Parts (nf kf : Nat) : XT := G_spec_l17Parts nf kf ++ B_spec_l17Parts nf
noncomputable def m_spec_l17Parts (nf kf : Nat) (e : Tm) : Option (List Tm) := runF (T_spec_l17Parts nf kf) nf [.v (kR 2)] [.t 2 (.o (kL (kR 2)))] ir_spec_l17Parts (e, ())
noncomputable def X_spec_l17Parts {R : Type} (nf kf : Nat) : C → Env → (Xt → Env → Option R) → Option R := xc (R := R) (T_spec_l17Parts nf kf).S nf
noncomputable def j5_spec_l17Parts (nf kf : Nat) (e : Tm) (x16_5 : Bool) : Option (List Tm) := X_spec_l17Parts nf kf c5_spec_l17Parts ⟨[(1, .pt [1] 0), (16, .v .bool x16_5)], [([1], .box [.v kI e.kind, .v kS e.name, .v kI e.n, .v kI e.type.kind, .v (kL kS) e.type.labels, .v (kL (kR 0)) e.type.args, .v (kL kS) e.labels, .v (kL (kR 2)) e.args])]⟩ (qS (X_spec_l17Parts nf kf c10_spec_l17Parts) (KF [.t 2 (.o (kL (kR 2)))]))
theorem j5_spec_l17Parts_eq (nf kf : Nat) (e : Tm) (x16_5 : Bool) : j5_spec_l17Parts nf (kf + 1) e x16_5 = (
  br x16_5 (
    gg (0 ≤ (0 : Int) ∧ (0 : Int) < (List.length e.args : Int)) <|
      cb (m_spec_l17Parts nf kf (gt e.args (0 : Int) Tm.zero)) fun r21 =>
        gg (0 ≤ (1 : Int) ∧ (1 : Int) < (List.length e.args : Int)) <|
          cb (m_spec_l17Parts nf kf (gt e.args (1 : Int) Tm.zero)) fun r26 =>
            gg (List.length r21 + List.length r26 ≤ 33554432) <|
              some (r21 ++ r26)) (
    cb (m_spec_l7Copy nf nf (Tm.h e)) fun r29 =>
      some ([(Tm.h r29)] : List Tm))) := by kernel_rfl
theorem m_spec_l17Parts_eq (nf kf : Nat) (e : Tm) : m_spec_l17Parts nf (kf + 1) e = (
  br ((e.kind == (4 : Int)) == true) (
    br ((e.name == ([38] : Str)) == true) (
      mark (j5_spec_l17Parts nf (kf + 1) e ((List.length e.args : Int) == (2 : Int)))) (
      mark (j5_spec_l17Parts nf (kf + 1) e false))) (
    mark (j5_spec_l17Parts nf (kf + 1) e false))) := by
  unfold m_spec_l17Parts j5_spec_l17Parts ir_spec_l17Parts w5_spec_l17Parts c10_spec_l17Parts
  generalize c5_spec_l17Parts = x0
  revert x0
  refine id ?_
  intro x0
  kernel_rfl
noncomputable def e_spec_l17Parts (nf : Nat) : XE := eF 88 [.v (kR 2)] [.o (kL (kR 2))] (fun t => m_spec_l17Parts nf nf t.1)
theorem gok_spec_l17Parts (nf : Nat) : ∀ kf : Nat, XT.ok Try.prog (G_spec_l17Parts nf kf ++ B_spec_l17Parts nf)
  | 0 => by exact ⟨o_spec_l7Copy nf, trivial⟩
  | kf + 1 => by
    have ih := gok_spec_l17Parts nf kf
    refine ⟨?_, (by exact ⟨o_spec_l7Copy nf, trivial⟩)⟩
    · refine eF_ok fun t x h => ?_
      obtain ⟨e, _⟩ := t
      exact runF_ok (N := 31) ih Try.func88 (by kernel_rfl) rfl h
theorem o_spec_l17Parts (nf : Nat) : conOK Try.prog 88 (e_spec_l17Parts nf).con := by
  have ih := gok_spec_l17Parts nf nf
  refine eF_ok fun t x h => ?_
  obtain ⟨e, _⟩ := t
  exact runF_ok (N := 31) ih Try.func88 (by kernel_rfl) rfl h
def ir_spec_ConjunctsOf : C := .sq (.rg [.bx 1 (.t 0) (kR 2), .mv 2 (.nl (kR 2))]) (.sq (.sq (.rg [.ld 3 (.t 1) (kR 2), .cv (some 4) 87 [((.t 3), .v (kR 2)), ((.i 1), .v kI)]]) (.cd (.t 4) (.sq (.rg [.bs 5 true (kR 2) [], .mv 2 (.t 5)]) .rt) .skip)) (.sq (.rg [.ld 6 (.t 1) (kR 2), .ca (some 7) 88 [((.t 6), .v (kR 2))], .mv 2 (.t 7)]) .rt))
noncomputable abbrev T_spec_ConjunctsOf (nf : Nat) : XT := [e_spec_l14Is nf, e_spec_l17Parts nf]
noncomputable def m_spec_ConjunctsOf (nf : Nat) (e : Tm) : Option (List Tm) := runF (T_spec_ConjunctsOf nf) nf [.v (kR 2)] [.t 2 (.o (kL (kR 2)))] ir_spec_ConjunctsOf (e, ())
theorem m_spec_ConjunctsOf_eq (nf : Nat) (e : Tm) : m_spec_ConjunctsOf nf e = (
  cb (m_spec_l14Is nf (Tm.h e) (1 : Int)) fun r4 =>
    br r4 (
      some ([] : List Tm)) (
      cb (m_spec_l17Parts nf nf (Tm.h e)) fun r7 =>
        some r7)) := by kernel_rfl
noncomputable def e_spec_ConjunctsOf (nf : Nat) : XE := eF 25 [.v (kR 2)] [.o (kL (kR 2))] (fun t => m_spec_ConjunctsOf nf t.1)
theorem o_spec_ConjunctsOf (nf : Nat) : conOK Try.prog 25 (e_spec_ConjunctsOf nf).con := by
  have ih : XT.ok Try.prog (T_spec_ConjunctsOf nf) := by exact ⟨o_spec_l14Is nf, o_spec_l17Parts nf, trivial⟩
  refine eF_ok fun t x h => ?_
  obtain ⟨e, _⟩ := t
  exact runF_ok (N := 8) ih Try.func25 (by kernel_rfl) rfl h
def c48_laws_FnExactConjunctsOf : C := .sq (.rg [.mv 8 (.i 1)]) (.sq (.rg [.mv 43 (.t 6), .mv 44 (.t 8), .cw (some 45) 31 (kR 2) (.t 43) (.t 44), .mv 8 (.t 45)]) (.sq (.rg [.mv 9 (.i 1)]) (.sq (.rg [.mv 46 (.t 6), .mv 47 (.t 9), .cv (some 48) 32 [((.t 46), .v (kL (kR 2))), ((.t 47), .v kI)], .mv 9 (.t 48)]) (.sq (.sq (.rg [.mv 49 (.t 9), .bi 50 .lss (.t 49) (.i 0)]) (.cd (.t 50) (.sq (.rg [.mv 2 (.b false)]) .rt) .skip)) (.sq (.sq (.rg [.mv 51 (.t 9), .mv 52 (.t 8), .bi 53 .neq (.t 51) (.t 52)]) (.cd (.t 53) (.sq (.rg [.mv 2 (.b false)]) .rt) .skip)) (.sq (.rg [.ld 54 (.t 1) (kR 2), .cv (some 55) 26 [((.t 54), .v (kR 2))], .cv (some 56) 27 [((.t 55), .v (kR 2))], .mv 10 (.t 56)]) (.sq (.sq (.rg [.mv 57 (.t 10), .mv 58 (.t 4), .cv (some 59) 28 [((.t 57), .v (kL (kR 2))), ((.t 58), .v (kL (kR 2)))], .un 60 .not (.t 59)]) (.cd (.t 60) (.sq (.rg [.mv 2 (.b false)]) .rt) .skip)) (.sq (.rg [.mv 9 (.i 1)]) (.sq (.rg [.mv 61 (.t 6), .mv 62 (.t 9), .cv (some 63) 32 [((.t 61), .v (kL (kR 2))), ((.t 62), .v kI)], .mv 9 (.t 63)]) (.sq (.sq (.rg [.mv 64 (.t 9), .bi 65 .lss (.t 64) (.i 0)]) (.cd (.t 65) (.sq (.rg [.mv 2 (.b false)]) .rt) .skip)) (.sq (.sq (.rg [.mv 66 (.t 9), .mv 67 (.t 8), .bi 68 .neq (.t 66) (.t 67)]) (.cd (.t 68) (.sq (.rg [.mv 2 (.b false)]) .rt) .skip)) (.sq (.rg [.mv 2 (.b true)]) .rt))))))))))))
def c43_laws_FnExactConjunctsOf : C := .cd (.t 42) (.sq (.rg [.mv 2 (.b false)]) .rt) .skip
def w43_laws_FnExactConjunctsOf : C := .kp [1, 4, 6, 42] [[1], [22]] c43_laws_FnExactConjunctsOf
def ir_laws_FnExactConjunctsOf : C := .sq (.rg [.bx 1 (.t 0) (kR 2), .mv 2 (.b false)]) (.sq (.rg [.mv 3 (.i 1048576)]) (.sq (.rg [.ld 11 (.t 1) (kR 2), .mv 12 (.t 3), .cv (some 13) 24 [((.t 11), .v (kR 2)), ((.t 12), .v kI)], .mv 3 (.t 13)]) (.sq (.sq (.rg [.mv 14 (.t 3), .bi 15 .lss (.t 14) (.i 0)]) (.cd (.t 15) (.sq (.rg [.mv 2 (.b true)]) .rt) .skip)) (.sq (.rg [.ld 16 (.t 1) (kR 2), .cv (some 17) 26 [((.t 16), .v (kR 2))], .cv (some 18) 25 [((.t 17), .v (kR 2))], .mv 4 (.t 18)]) (.sq (.rg [.ld 19 (.t 1) (kR 2), .ca (some 20) 26 [((.t 19), .v (kR 2))], .al 5 (kR 2), .st (.t 5) (.t 20) (kR 2)]) (.sq (.rg [.ld 21 (.t 5) (kR 2), .ca (some 22) 27 [((.t 21), .v (kR 2))], .mv 6 (.t 22)]) (.sq (.sq (.rg [.mv 23 (.t 6), .mv 24 (.t 4), .cv (some 25) 28 [((.t 23), .v (kL (kR 2))), ((.t 24), .v (kL (kR 2)))], .un 26 .not (.t 25)]) (.cd (.t 26) (.sq (.rg [.mv 2 (.b false)]) .rt) .skip)) (.sq (.sq (.dr [] [.ld 27 (.t 5) (kR 2), .ld 28 (.t 1) (kR 2), .cv (some 29) 26 [((.t 28), .v (kR 2))]] [.cv (some 30) 29 [((.t 27), .v (kR 2)), ((.t 29), .v (kR 2))], .un 31 .not (.t 30)]) (.cd (.t 31) (.sq (.rg [.mv 2 (.b false)]) .rt) .skip)) (.sq (.rg [.mv 7 (.i 1)]) (.sq (.rg [.ld 32 (.t 5) (kR 2), .mv 33 (.t 7), .cq (some 34) 30 [((.t 32), .q), ((.t 33), .v kI)], .mv 7 (.t 34)]) (.sq (.sq (.rg [.mv 35 (.t 7), .bi 36 .lss (.t 35) (.i 0), .mv 37 (.t 36), .g 37 false (.mv 38 (.t 6)), .g 37 false (.mv 39 (.t 4)), .g 37 false (.cv (some 40) 28 [((.t 38), .v (kL (kR 2))), ((.t 39), .v (kL (kR 2)))]), .g 37 false (.un 41 .not (.t 40)), .pk 42 (.t 37) (.b true) (.t 41)]) w43_laws_FnExactConjunctsOf) c48_laws_FnExactConjunctsOf)))))))))))
noncomputable abbrev T_laws_FnExactConjunctsOf (nf : Nat) : XT := [e_laws_szTerm nf, e_laws_toTerm nf, e_spec_ConjunctsOf nf, e_impl_ConjunctsOf nf, e_laws_eqTermS nf, e_laws_eqTerm nf, e_laws_markTerm nf, e_laws_markTermS nf, e_laws_heldTermS nf]
noncomputable def m_laws_FnExactConjunctsOf (nf : Nat) (a : Tm) : Option (Bool) := runF (T_laws_FnExactConjunctsOf nf) nf [.v (kR 2)] [.t 2 (.v .bool)] ir_laws_FnExactConjunctsOf (a, ())
noncomputable def X_laws_FnExactConjunctsOf {R : Type} (nf : Nat) : C → Env → (Xt → Env → Option R) → Option R := xc (R := R) (T_laws_FnExactConjunctsOf nf).S nf
noncomputable def j43_laws_FnExactConjunctsOf (nf : Nat) (r18 : (List Tm)) (a : Tm) (r22 : (List Tm)) (x42_43 : Bool) : Option (Bool) := X_laws_FnExactConjunctsOf nf c43_laws_FnExactConjunctsOf ⟨[(1, .pt [1] 0), (4, .v (kL (kR 2)) r18), (6, .sl [22]), (42, .v .bool x42_43)], [([1], .box [.v kI a.kind, .v kS a.name, .v kI a.n, .v kI a.type.kind, .v (kL kS) a.type.labels, .v (kL (kR 0)) a.type.args, .v (kL kS) a.labels, .v (kL (kR 2)) a.args]), ([22], .row true false (kR 2) r22)]⟩ (qS (X_laws_FnExactConjunctsOf nf c48_laws_FnExactConjunctsOf) (KF [.t 2 (.v .bool)]))
theorem j43_laws_FnExactConjunctsOf_eq (nf : Nat) (r18 : (List Tm)) (a : Tm) (r22 : (List Tm)) (x42_43 : Bool) : j43_laws_FnExactConjunctsOf nf r18 a r22 x42_43 = (
  br x42_43 (
    some false) (
    cb (m_laws_markTermS nf nf r22 (1 : Int)) fun r45 =>
      cb (m_laws_heldTermS nf nf r45.1 (1 : Int)) fun r48 =>
        br (decide (r48 < (0 : Int))) (
          some false) (
          br (!(r48 == r45.2)) (
            some false) (
            cb (m_laws_toTerm nf nf (Tm.h a)) fun r55 =>
              cb (m_impl_ConjunctsOf nf r55) fun r56 =>
                cb (m_laws_eqTermS nf nf r56 r18) fun r59 =>
                  br (!r59) (
                    some false) (
                    cb (m_laws_heldTermS nf nf r45.1 (1 : Int)) fun r63 =>
                      br (decide (r63 < (0 : Int))) (
                        some false) (
                        br (!(r63 == r45.2)) (
                          some false) (
                          some true))))))) := by kernel_rfl
theorem m_laws_FnExactConjunctsOf_eq (nf : Nat) (a : Tm) : m_laws_FnExactConjunctsOf nf a = (
  cb (m_laws_szTerm nf nf (Tm.h a) (1048576 : Int)) fun r13 =>
    br (decide (r13 < (0 : Int))) (
      some true) (
      cb (m_laws_toTerm nf nf (Tm.h a)) fun r17 =>
        cb (m_spec_ConjunctsOf nf r17) fun r18 =>
          cb (m_laws_toTerm nf nf (Tm.h a)) fun r20 =>
            cb (m_impl_ConjunctsOf nf (Tm.h r20)) fun r22 =>
              cb (m_laws_eqTermS nf nf r22 r18) fun r25 =>
                br (!r25) (
                  some false) (
                  cb (m_laws_toTerm nf nf (Tm.h a)) fun r29 =>
                    cb (m_laws_eqTerm nf nf (Tm.h r20) r29) fun r30 =>
                      br (!r30) (
                        some false) (
                        cb (m_laws_markTerm nf r20.kind r20.name r20.n r20.type.kind (1 : Int) r20.type.labels r20.type.args r20.labels r20.args) fun r34 =>
                          br ((decide (r34.1 < (0 : Int))) == false) (
                            cb (m_laws_eqTermS nf nf r22 r18) fun r40 =>
                              mark (j43_laws_FnExactConjunctsOf nf r18 a r22 (!r40))) (
                            mark (j43_laws_FnExactConjunctsOf nf r18 a r22 true)))))) := by
  unfold m_laws_FnExactConjunctsOf j43_laws_FnExactConjunctsOf ir_laws_FnExactConjunctsOf w43_laws_FnExactConjunctsOf c48_laws_FnExactConjunctsOf
  generalize c43_laws_FnExactConjunctsOf = x0
  revert x0
  refine id ?_
  intro x0
  kernel_rfl
noncomputable def e_laws_FnExactConjunctsOf (nf : Nat) : XE := eF 5 [.v (kR 2)] [.v .bool] (fun t => m_laws_FnExactConjunctsOf nf t.1)
theorem o_laws_FnExactConjunctsOf (nf : Nat) : conOK Try.prog 5 (e_laws_FnExactConjunctsOf nf).con := by
  have ih : XT.ok Try.prog (T_laws_FnExactConjunctsOf nf) := by exact ⟨o_laws_szTerm nf, o_laws_toTerm nf, o_spec_ConjunctsOf nf, o_impl_ConjunctsOf nf, o_laws_eqTermS nf, o_laws_eqTerm nf, o_laws_markTerm nf, o_laws_markTermS nf, o_laws_heldTermS nf, trivial⟩
  refine eF_ok fun t x h => ?_
  obtain ⟨a, _⟩ := t
  exact runF_ok (N := 69) ih Try.func5 (by kernel_rfl) rfl h
end Go.Q
