/- Plans of comprehensions. -/
import Derived.Test.YtkbanchknllcnaaB7
import Derived.Test.YtkbanchknllcnaaProg
import Derived.KernelRfl
set_option linter.unusedVariables false
set_option linter.unusedSimpArgs false
namespace Go.Q
open Go.Proofs
set_option linter.unusedVariables false
set_option maxRecDepth 20000
set_option maxHeartbeats 4000000
def ir_spec_l14Is : C := .sq (.rg [.bx 2 (.t 0) (kR 2), .mv 4 (.b false)]) (.sq (.rg [.fa 5 (.t 2) 2 0 0, .ld 6 (.t 5) kI, .bi 7 .eql (.t 6) (.i 3), .mv 8 (.t 7), .g 8 true (.fa 9 (.t 2) 2 2 2), .g 8 true (.ld 10 (.t 9) kI), .g 8 true (.mv 11 (.t 1)), .g 8 true (.bi 12 .eql (.t 10) (.t 11)), .pk 13 (.t 8) (.t 12) (.b false), .mv 4 (.t 13)]) .rt)
noncomputable abbrev T_spec_l14Is (nf : Nat) : XT := []
noncomputable def m_spec_l14Is (nf : Nat) (e : Tm) (n : Int) : Option (Bool) := runF (T_spec_l14Is nf) nf [.v (kR 2), .v kI] [.t 4 (.v .bool)] ir_spec_l14Is (e, n, ())
theorem m_spec_l14Is_eq (nf : Nat) (e : Tm) (n : Int) : m_spec_l14Is nf e n = (
  br ((e.kind == (3 : Int)) == true) (
    some (e.n == n)) (
    some false)) := by kernel_rfl
noncomputable def e_spec_l14Is (nf : Nat) : XE := eF 87 [.v (kR 2), .v kI] [.v .bool] (fun t => m_spec_l14Is nf t.1 t.2.1)
theorem o_spec_l14Is (nf : Nat) : conOK Try.prog 87 (e_spec_l14Is nf).con := by
  have ih : XT.ok Try.prog (T_spec_l14Is nf) := by exact trivial
  refine eF_ok fun t x h => ?_
  obtain ⟨e, n, _⟩ := t
  exact runF_ok (N := 14) ih Try.func87 (by kernel_rfl) rfl h
def ir_spec_l25Scan : C := .sq (.rg [.bx 1 (.t 0) (kR 3), .al 2 (kR 17)]) (.sq (.rg [.fa 3 (.t 1) 3 0 0, .ld 4 (.t 3) kS, .fa 5 (.t 1) 3 1 1, .ld 6 (.t 5) kS, .bd 7 17 [(0, 1, (.i 2)), (1, 1, (.t 4)), (2, 1, (.t 6))], .st (.t 2) (.t 7) (kR 17)]) .rt)
noncomputable abbrev T_spec_l25Scan (nf : Nat) : XT := []
noncomputable def m_spec_l25Scan (nf : Nat) (g : Gen) : Option (Plan) := runF (T_spec_l25Scan nf) nf [.v (kR 3)] [.c 2 (.v (kR 17))] ir_spec_l25Scan (g, ())
theorem m_spec_l25Scan_eq (nf : Nat) (g : Gen) : m_spec_l25Scan nf g = (
  some (Plan.mk (2 : Int) g.var g.table (Tm.mk (0 : Int) ([] : Str) (0 : Int) (Ty.mk (0 : Int) ([] : List Str) ([] : List Ty)) ([] : List Str) ([] : List Tm)) ([] : List Tm) ([] : List Plan))) := by kernel_rfl
noncomputable def e_spec_l25Scan (nf : Nat) : XE := eF 127 [.v (kR 3)] [.v (kR 17)] (fun t => m_spec_l25Scan nf t.1)
theorem o_spec_l25Scan (nf : Nat) : conOK Try.prog 127 (e_spec_l25Scan nf).con := by
  have ih : XT.ok Try.prog (T_spec_l25Scan nf) := by exact trivial
  refine eF_ok fun t x h => ?_
  obtain ⟨g, _⟩ := t
  exact runF_ok (N := 8) ih Try.func127 (by kernel_rfl) rfl h
def ir_spec_l25Select : C := .sq (.rg [.bx 2 (.t 0) (kR 17), .bx 3 (.t 1) (kR 2), .al 4 (kR 17)]) (.sq (.sq (.rg [.ld 5 (.t 3) (kR 2), .cv (some 6) 87 [((.t 5), .v (kR 2)), ((.i 1), .v kI)]]) (.cd (.t 6) (.sq (.rg [.ld 7 (.t 2) (kR 17), .st (.t 4) (.t 7) (kR 17)]) .rt) .skip)) (.sq (.dr [11] [.ld 8 (.t 3) (kR 2), .cv (some 9) 94 [((.t 8), .v (kR 2))], .ld 10 (.t 2) (kR 17), .bs 11 false (kR 17) [(.t 10)]] [.bd 12 17 [(0, 1, (.i 4)), (3, 8, (.t 9)), (12, 1, (.t 11))], .st (.t 4) (.t 12) (kR 17)]) .rt))
noncomputable abbrev T_spec_l25Select (nf : Nat) : XT := [e_spec_l14Is nf, e_spec_l7Copy nf]
noncomputable def m_spec_l25Select (nf : Nat) (p : Plan) (cond : Tm) : Option (Plan) := runF (T_spec_l25Select nf) nf [.v (kR 17), .v (kR 2)] [.c 4 (.v (kR 17))] ir_spec_l25Select (p, cond, ())
theorem m_spec_l25Select_eq (nf : Nat) (p : Plan) (cond : Tm) : m_spec_l25Select nf p cond = (
  cb (m_spec_l14Is nf (Tm.h cond) (1 : Int)) fun r6 =>
    br r6 (
      some (Plan.h p)) (
      cb (m_spec_l7Copy nf nf (Tm.h cond)) fun r9 =>
        some (Plan.mk (4 : Int) ([] : Str) ([] : Str) (Tm.h r9) ([] : List Tm) ([(Plan.h p)] : List Plan)))) := by kernel_rfl
noncomputable def e_spec_l25Select (nf : Nat) : XE := eF 128 [.v (kR 17), .v (kR 2)] [.v (kR 17)] (fun t => m_spec_l25Select nf t.1 t.2.1)
theorem o_spec_l25Select (nf : Nat) : conOK Try.prog 128 (e_spec_l25Select nf).con := by
  have ih : XT.ok Try.prog (T_spec_l25Select nf) := by exact ⟨o_spec_l14Is nf, o_spec_l7Copy nf, trivial⟩
  refine eF_ok fun t x h => ?_
  obtain ⟨p, cond, _⟩ := t
  exact runF_ok (N := 13) ih Try.func128 (by kernel_rfl) rfl h
def c23_spec_PlanOf : C := .sq (.rg [.ld 30 (.t 3) (kR 17), .fa 31 (.t 1) 12 4 4, .ld 32 (.t 31) (kR 2), .cv (some 33) 128 [((.t 30), .v (kR 17)), ((.t 32), .v (kR 2))], .st (.t 2) (.t 33) (kR 17)]) .rt
def w23_spec_PlanOf : C := .kp [1, 2, 3] [[1], [2], [3]] c23_spec_PlanOf
def c9_spec_PlanOf : C := .sq (.sq (.rg [.mv 6 (.t 4), .fa 7 (.t 1) 12 3 3, .ld 8 (.t 7) (kL (kR 3)), .ln 9 false (.t 8), .bi 10 .lss (.t 6) (.t 9)]) (.cd (.t 10) .skip (.ex 0))) (.sq (.bk 1 (.sq (.rg [.mv 13 (.t 4), .bi 14 .eql (.t 13) (.i 0)]) (.cd (.t 14) (.rg [.fa 15 (.t 1) 12 3 3, .ld 16 (.t 15) (kL (kR 3)), .mv 17 (.t 4), .ia 18 (.t 16) (.t 17) (kR 3), .ld 19 (.t 18) (kR 3), .cv (some 20) 127 [((.t 19), .v (kR 3))], .st (.t 3) (.t 20) (kR 17)]) (.dr [] [.ld 21 (.t 3) (kR 17), .fa 22 (.t 1) 12 3 3, .ld 23 (.t 22) (kL (kR 3)), .mv 24 (.t 4), .ia 25 (.t 23) (.t 24) (kR 3), .ld 26 (.t 25) (kR 3), .cv (some 27) 127 [((.t 26), .v (kR 3))]] [.bf 28 (kR 17) [(.t 21), (.t 27)], .bd 29 17 [(0, 1, (.i 3)), (12, 1, (.t 28))], .st (.t 3) (.t 29) (kR 17)])))) (.pb 3 7 (kL kS) (.pb 3 8 (kL (kR 0)) (.pb 3 9 (kL kS) (.pb 3 10 (kL (kR 2)) (.pb 3 11 (kL (kR 2)) (.rg [.mv 11 (.t 4), .bi 12 .add (.t 11) (.i 1), .mv 4 (.t 12)])))))))
def ir_spec_PlanOf : C := .sq (.rg [.bx 1 (.t 0) (kR 12), .al 2 (kR 17)]) (.sq (.rg [.bd 5 17 [(0, 1, (.i 1))], .al 3 (kR 17), .st (.t 3) (.t 5) (kR 17)]) (.sq (.sq (.rg [.mv 4 (.i 0)]) (.bk 0 (.pb 3 7 (kL kS) (.pb 3 8 (kL (kR 0)) (.pb 3 9 (kL kS) (.pb 3 10 (kL (kR 2)) (.pb 3 11 (kL (kR 2)) (.pb 3 12 (kL (kR 17)) (.lk [1, 2, 3, 4] [[1], [2], [3]] c9_spec_PlanOf))))))))) w23_spec_PlanOf))
noncomputable abbrev T_spec_PlanOf (nf : Nat) : XT := [e_spec_l25Scan nf, e_spec_l25Select nf]
noncomputable def m_spec_PlanOf (nf : Nat) (x : FComp) : Option (Plan) := runF (T_spec_PlanOf nf) nf [.v (kR 12)] [.c 2 (.v (kR 17))] ir_spec_PlanOf (x, ())
noncomputable def X_spec_PlanOf {R : Type} (nf : Nat) : C → Env → (Xt → Env → Option R) → Option R := xc (R := R) (T_spec_PlanOf nf).S nf
noncomputable def l8_spec_PlanOf (nf : Nat) (m8 : Nat) (x : FComp) (x4_8 : Int) (y3_8_0 : Int) (y3_8_1 : Str) (y3_8_2 : Str) (y3_8_3 : Int) (y3_8_4 : Str) (y3_8_5 : Int) (y3_8_6 : Int) (y3_8_7 : List Str) (y3_8_8 : List Ty) (y3_8_9 : List Str) (y3_8_10 : List Tm) (y3_8_11 : List Tm) (y3_8_12 : List Plan) : Option (Plan) := xit [1, 2, 3, 4] [[1], [2], [3]] (X_spec_PlanOf nf c9_spec_PlanOf) (qB 0 (qS (X_spec_PlanOf nf w23_spec_PlanOf) (KF [.c 2 (.v (kR 17))]))) m8 ⟨[(1, .pt [1] 0), (2, .pt [2] 0), (3, .pt [3] 0), (4, .v kI x4_8)], [([1], .box [.v kI x.outer, .v kI x.outerGens, .v kI x.tag, .v (kL (kR 3)) x.gens, .v kI x.whr.kind, .v kS x.whr.name, .v kI x.whr.n, .v kI x.whr.type.kind, .v (kL kS) x.whr.type.labels, .v (kL (kR 0)) x.whr.type.args, .v (kL kS) x.whr.labels, .v (kL (kR 2)) x.whr.args, .v (kL (kR 2)) x.cols]), ([2], .box [.v kI (0 : Int), .v kS ([] : Str), .v kS ([] : Str), .v kI (0 : Int), .v kS ([] : Str), .v kI (0 : Int), .v kI (0 : Int), .nl kS, .nl (kR 0), .nl kS, .nl (kR 2), .nl (kR 2), .nl (kR 17)]), ([3], .box [.v kI y3_8_0, .v kS y3_8_1, .v kS y3_8_2, .v kI y3_8_3, .v kS y3_8_4, .v kI y3_8_5, .v kI y3_8_6, .v (kL kS) y3_8_7, .v (kL (kR 0)) y3_8_8, .v (kL kS) y3_8_9, .v (kL (kR 2)) y3_8_10, .v (kL (kR 2)) y3_8_11, .v (kL (kR 17)) y3_8_12])]⟩
noncomputable def j23_spec_PlanOf (nf : Nat) (x : FComp) (y3_8_0 : Int) (y3_8_1 : Str) (y3_8_2 : Str) (y3_8_3 : Int) (y3_8_4 : Str) (y3_8_5 : Int) (y3_8_6 : Int) (y3_8_7 : List Str) (y3_8_8 : List Ty) (y3_8_9 : List Str) (y3_8_10 : List Tm) (y3_8_11 : List Tm) (y3_8_12 : List Plan) : Option (Plan) := X_spec_PlanOf nf c23_spec_PlanOf ⟨[(1, .pt [1] 0), (2, .pt [2] 0), (3, .pt [3] 0)], [([1], .box [.v kI x.outer, .v kI x.outerGens, .v kI x.tag, .v (kL (kR 3)) x.gens, .v kI x.whr.kind, .v kS x.whr.name, .v kI x.whr.n, .v kI x.whr.type.kind, .v (kL kS) x.whr.type.labels, .v (kL (kR 0)) x.whr.type.args, .v (kL kS) x.whr.labels, .v (kL (kR 2)) x.whr.args, .v (kL (kR 2)) x.cols]), ([2], .box [.v kI (0 : Int), .v kS ([] : Str), .v kS ([] : Str), .v kI (0 : Int), .v kS ([] : Str), .v kI (0 : Int), .v kI (0 : Int), .nl kS, .nl (kR 0), .nl kS, .nl (kR 2), .nl (kR 2), .nl (kR 17)]), ([3], .box [.v kI y3_8_0, .v kS y3_8_1, .v kS y3_8_2, .v kI y3_8_3, .v kS y3_8_4, .v kI y3_8_5, .v kI y3_8_6, .v (kL kS) y3_8_7, .v (kL (kR 0)) y3_8_8, .v (kL kS) y3_8_9, .v (kL (kR 2)) y3_8_10, .v (kL (kR 2)) y3_8_11, .v (kL (kR 17)) y3_8_12])]⟩ (KF [.c 2 (.v (kR 17))])
theorem l8_spec_PlanOf_eq (nf : Nat) (m8 : Nat) (x : FComp) (x4_8 : Int) (y3_8_0 : Int) (y3_8_1 : Str) (y3_8_2 : Str) (y3_8_3 : Int) (y3_8_4 : Str) (y3_8_5 : Int) (y3_8_6 : Int) (y3_8_7 : List Str) (y3_8_8 : List Ty) (y3_8_9 : List Str) (y3_8_10 : List Tm) (y3_8_11 : List Tm) (y3_8_12 : List Plan) : l8_spec_PlanOf nf (m8 + 1) x x4_8 y3_8_0 y3_8_1 y3_8_2 y3_8_3 y3_8_4 y3_8_5 y3_8_6 y3_8_7 y3_8_8 y3_8_9 y3_8_10 y3_8_11 y3_8_12 = (
  br (decide (x4_8 < (List.length x.gens : Int))) (
    br (x4_8 == (0 : Int)) (
      gg (0 ≤ x4_8 ∧ x4_8 < (List.length x.gens : Int)) <|
        cb (m_spec_l25Scan nf (gt x.gens x4_8 Gen.zero)) fun r20 =>
          mark (l8_spec_PlanOf nf m8 x (w64 (x4_8 + (1 : Int))) r20.kind r20.var r20.table r20.cond.kind r20.cond.name r20.cond.n r20.cond.type.kind r20.cond.type.labels r20.cond.type.args r20.cond.labels r20.cond.args r20.keys r20.args)) (
      gg (0 ≤ x4_8 ∧ x4_8 < (List.length x.gens : Int)) <|
        cb (m_spec_l25Scan nf (gt x.gens x4_8 Gen.zero)) fun r27 =>
          mark (l8_spec_PlanOf nf m8 x (w64 (x4_8 + (1 : Int))) (3 : Int) ([] : Str) ([] : Str) (0 : Int) ([] : Str) (0 : Int) (0 : Int) ([] : List Str) ([] : List Ty) ([] : List Str) ([] : List Tm) ([] : List Tm) ([(Plan.mk y3_8_0 y3_8_1 y3_8_2 (Tm.mk y3_8_3 y3_8_4 y3_8_5 (Ty.mk y3_8_6 y3_8_7 y3_8_8) y3_8_9 y3_8_10) y3_8_11 y3_8_12), r27] : List Plan)))) (
    mark (j23_spec_PlanOf nf x y3_8_0 y3_8_1 y3_8_2 y3_8_3 y3_8_4 y3_8_5 y3_8_6 y3_8_7 y3_8_8 y3_8_9 y3_8_10 y3_8_11 y3_8_12))) := by
  unfold l8_spec_PlanOf j23_spec_PlanOf c9_spec_PlanOf w23_spec_PlanOf
  generalize c23_spec_PlanOf = x0
  revert x0
  refine id ?_
  intro x0
  kernel_rfl
theorem j23_spec_PlanOf_eq (nf : Nat) (x : FComp) (y3_8_0 : Int) (y3_8_1 : Str) (y3_8_2 : Str) (y3_8_3 : Int) (y3_8_4 : Str) (y3_8_5 : Int) (y3_8_6 : Int) (y3_8_7 : List Str) (y3_8_8 : List Ty) (y3_8_9 : List Str) (y3_8_10 : List Tm) (y3_8_11 : List Tm) (y3_8_12 : List Plan) : j23_spec_PlanOf nf x y3_8_0 y3_8_1 y3_8_2 y3_8_3 y3_8_4 y3_8_5 y3_8_6 y3_8_7 y3_8_8 y3_8_9 y3_8_10 y3_8_11 y3_8_12 = (
  cb (m_spec_l25Select nf (Plan.mk y3_8_0 y3_8_1 y3_8_2 (Tm.mk y3_8_3 y3_8_4 y3_8_5 (Ty.mk y3_8_6 y3_8_7 y3_8_8) y3_8_9 y3_8_10) y3_8_11 y3_8_12) (Tm.h x.whr)) fun r33 =>
    some (Plan.h r33)) := by kernel_rfl
theorem m_spec_PlanOf_eq (nf : Nat) (x : FComp) : m_spec_PlanOf nf x = (
  mark (l8_spec_PlanOf nf nf x (0 : Int) (1 : Int) ([] : Str) ([] : Str) (0 : Int) ([] : Str) (0 : Int) (0 : Int) ([] : List Str) ([] : List Ty) ([] : List Str) ([] : List Tm) ([] : List Tm) ([] : List Plan))) := by
  unfold m_spec_PlanOf l8_spec_PlanOf ir_spec_PlanOf w23_spec_PlanOf
  generalize c23_spec_PlanOf = x0
  revert x0
  refine id ?_
  intro x0
  kernel_rfl
noncomputable def e_spec_PlanOf (nf : Nat) : XE := eF 65 [.v (kR 12)] [.v (kR 17)] (fun t => m_spec_PlanOf nf t.1)
theorem o_spec_PlanOf (nf : Nat) : conOK Try.prog 65 (e_spec_PlanOf nf).con := by
  have ih : XT.ok Try.prog (T_spec_PlanOf nf) := by exact ⟨o_spec_l25Scan nf, o_spec_l25Select nf, trivial⟩
  refine eF_ok fun t x h => ?_
  obtain ⟨x, _⟩ := t
  exact runF_ok (N := 34) ih Try.func65 (by kernel_rfl) rfl h
def ir_impl_selected : C := .sq (.rg [.bx 2 (.t 0) (kR 17), .bx 3 (.t 1) (kR 2), .al 4 (kR 17)]) (.sq (.sq (.rg [.ld 5 (.t 3) (kR 2), .cv (some 6) 146 [((.t 5), .v (kR 2))]]) (.cd (.t 6) (.sq (.rg [.ld 7 (.t 2) (kR 17), .st (.t 4) (.t 7) (kR 17)]) .rt) .skip)) (.sq (.rg [.ld 8 (.t 3) (kR 2), .ld 9 (.t 2) (kR 17), .bs 10 false (kR 17) [(.t 9)], .bd 11 17 [(0, 1, (.i 4)), (3, 8, (.t 8)), (12, 1, (.t 10))], .st (.t 4) (.t 11) (kR 17)]) .rt))
noncomputable abbrev T_impl_selected (nf : Nat) : XT := [e_impl_isTrue nf]
noncomputable def m_impl_selected (nf : Nat) (p : Plan) (cond : Tm) : Option (Plan) := runF (T_impl_selected nf) nf [.v (kR 17), .v (kR 2)] [.c 4 (.v (kR 17))] ir_impl_selected (p, cond, ())
theorem m_impl_selected_eq (nf : Nat) (p : Plan) (cond : Tm) : m_impl_selected nf p cond = (
  cb (m_impl_isTrue nf (Tm.h cond)) fun r6 =>
    br r6 (
      some (Plan.h p)) (
      some (Plan.mk (4 : Int) ([] : Str) ([] : Str) (Tm.h cond) ([] : List Tm) ([(Plan.h p)] : List Plan)))) := by kernel_rfl
noncomputable def e_impl_selected (nf : Nat) : XE := eF 174 [.v (kR 17), .v (kR 2)] [.v (kR 17)] (fun t => m_impl_selected nf t.1 t.2.1)
theorem o_impl_selected (nf : Nat) : conOK Try.prog 174 (e_impl_selected nf).con := by
  have ih : XT.ok Try.prog (T_impl_selected nf) := by exact ⟨o_impl_isTrue nf, trivial⟩
  refine eF_ok fun t x h => ?_
  obtain ⟨p, cond, _⟩ := t
  exact runF_ok (N := 12) ih Try.func174 (by kernel_rfl) rfl h
def c27_impl_planOf : C := .sq (.dr [] [.ld 31 (.t 3) (kR 17), .mv 32 (.t 0), .nck 33 (.t 32), .fa 34 (.t 33) 12 4 4, .ld 35 (.t 34) (kR 2)] [.cv (some 36) 174 [((.t 31), .v (kR 17)), ((.t 35), .v (kR 2))], .st (.t 2) (.t 36) (kR 17)]) .rt
def w27_impl_planOf : C := .kp [0, 2, 3] [[2], [3]] c27_impl_planOf
def c9_impl_planOf : C := .sq (.rg [.bi 14 .lss (.t 13) (.t 12)]) (.sq (.cd (.t 14) .skip (.ex 0)) (.sq (.bk 1 (.sq (.rg [.mv 15 (.t 13), .ia 16 (.t 11) (.t 13) (kR 3), .ld 17 (.t 16) (kR 3), .al 5 (kR 3), .mv 4 (.t 15), .st (.t 5) (.t 17) (kR 3)]) (.sq (.rg [.fa 18 (.t 5) 3 0 0, .ld 19 (.t 18) kS, .fa 20 (.t 5) 3 1 1, .ld 21 (.t 20) kS, .bd 22 17 [(0, 1, (.i 2)), (1, 1, (.t 19)), (2, 1, (.t 21))], .al 6 (kR 17), .st (.t 6) (.t 22) (kR 17)]) (.sq (.rg [.mv 23 (.t 4), .bi 24 .eql (.t 23) (.i 0)]) (.cd (.t 24) (.rg [.ld 25 (.t 6) (kR 17), .st (.t 3) (.t 25) (kR 17)]) (.rg [.ld 26 (.t 3) (kR 17), .ld 27 (.t 6) (kR 17), .bf 28 (kR 17) [(.t 26), (.t 27)], .bd 29 17 [(0, 1, (.i 3)), (12, 1, (.t 28))], .st (.t 3) (.t 29) (kR 17)])))))) (.pb 3 12 (kL (kR 17)) (.rg [.bi 30 .add (.t 13) (.i 1), .mv 13 (.t 30)]))))
def ir_impl_planOf : C := .sq (.rg [.al 2 (kR 17)]) (.sq (.rg [.bd 7 17 [(0, 1, (.i 1))], .al 3 (kR 17), .st (.t 3) (.t 7) (kR 17)]) (.sq (.sq (.rg [.mv 8 (.t 0), .nck 9 (.t 8), .fa 10 (.t 9) 12 3 3, .ld 11 (.t 10) (kL (kR 3)), .ln 12 false (.t 11), .mv 13 (.i 0)]) (.bk 0 (.pb 3 12 (kL (kR 17)) (.lk [0, 2, 3, 11, 12, 13] [[2], [3]] c9_impl_planOf)))) w27_impl_planOf))
noncomputable abbrev T_impl_planOf (nf : Nat) : XT := [e_impl_selected nf]
noncomputable def m_impl_planOf (nf : Nat) (x : FComp) : Option (Plan) := runF (T_impl_planOf nf) nf [.p (kR 12)] [.c 2 (.v (kR 17))] ir_impl_planOf (x, ())
noncomputable def X_impl_planOf {R : Type} (nf : Nat) : C → Env → (Xt → Env → Option R) → Option R := xc (R := R) (T_impl_planOf nf).S nf
noncomputable def l8_impl_planOf (nf : Nat) (m8 : Nat) (x : FComp) (x13_8 : Int) (y3_8_0 : Int) (y3_8_1 : Str) (y3_8_2 : Str) (y3_8_12 : List Plan) : Option (Plan) := xit [0, 2, 3, 11, 12, 13] [[2], [3]] (X_impl_planOf nf c9_impl_planOf) (qB 0 (qS (X_impl_planOf nf w27_impl_planOf) (KF [.c 2 (.v (kR 17))]))) m8 ⟨[(0, .v (.ptr (kR 12)) (some x)), (2, .pt [2] 0), (3, .pt [3] 0), (11, .v (kL (kR 3)) x.gens), (12, .v kI (List.length x.gens : Int)), (13, .v kI x13_8)], [([2], .box [.v kI (0 : Int), .v kS ([] : Str), .v kS ([] : Str), .v kI (0 : Int), .v kS ([] : Str), .v kI (0 : Int), .v kI (0 : Int), .nl kS, .nl (kR 0), .nl kS, .nl (kR 2), .nl (kR 2), .nl (kR 17)]), ([3], .box [.v kI y3_8_0, .v kS y3_8_1, .v kS y3_8_2, .v kI (0 : Int), .v kS ([] : Str), .v kI (0 : Int), .v kI (0 : Int), .nl kS, .nl (kR 0), .nl kS, .nl (kR 2), .nl (kR 2), .v (kL (kR 17)) y3_8_12])]⟩
noncomputable def j27_impl_planOf (nf : Nat) (x : FComp) (y3_8_0 : Int) (y3_8_1 : Str) (y3_8_2 : Str) (y3_8_12 : List Plan) : Option (Plan) := X_impl_planOf nf c27_impl_planOf ⟨[(0, .v (.ptr (kR 12)) (some x)), (2, .pt [2] 0), (3, .pt [3] 0)], [([2], .box [.v kI (0 : Int), .v kS ([] : Str), .v kS ([] : Str), .v kI (0 : Int), .v kS ([] : Str), .v kI (0 : Int), .v kI (0 : Int), .nl kS, .nl (kR 0), .nl kS, .nl (kR 2), .nl (kR 2), .nl (kR 17)]), ([3], .box [.v kI y3_8_0, .v kS y3_8_1, .v kS y3_8_2, .v kI (0 : Int), .v kS ([] : Str), .v kI (0 : Int), .v kI (0 : Int), .nl kS, .nl (kR 0), .nl kS, .nl (kR 2), .nl (kR 2), .v (kL (kR 17)) y3_8_12])]⟩ (KF [.c 2 (.v (kR 17))])
theorem l8_impl_planOf_eq (nf : Nat) (m8 : Nat) (x : FComp) (x13_8 : Int) (y3_8_0 : Int) (y3_8_1 : Str) (y3_8_2 : Str) (y3_8_12 : List Plan) : l8_impl_planOf nf (m8 + 1) x x13_8 y3_8_0 y3_8_1 y3_8_2 y3_8_12 = (
  br (decide (x13_8 < (List.length x.gens : Int))) (
    gg (0 ≤ x13_8 ∧ x13_8 < (List.length x.gens : Int)) <|
      br (x13_8 == (0 : Int)) (
        mark (l8_impl_planOf nf m8 x (w64 (x13_8 + (1 : Int))) (2 : Int) ((gt x.gens x13_8 Gen.zero).var) ((gt x.gens x13_8 Gen.zero).table) ([] : List Plan))) (
        mark (l8_impl_planOf nf m8 x (w64 (x13_8 + (1 : Int))) (3 : Int) ([] : Str) ([] : Str) ([(Plan.mk y3_8_0 y3_8_1 y3_8_2 (Tm.mk (0 : Int) ([] : Str) (0 : Int) (Ty.mk (0 : Int) ([] : List Str) ([] : List Ty)) ([] : List Str) ([] : List Tm)) ([] : List Tm) y3_8_12), (Plan.mk (2 : Int) ((gt x.gens x13_8 Gen.zero).var) ((gt x.gens x13_8 Gen.zero).table) (Tm.mk (0 : Int) ([] : Str) (0 : Int) (Ty.mk (0 : Int) ([] : List Str) ([] : List Ty)) ([] : List Str) ([] : List Tm)) ([] : List Tm) ([] : List Plan))] : List Plan)))) (
    mark (j27_impl_planOf nf x y3_8_0 y3_8_1 y3_8_2 y3_8_12))) := by
  unfold l8_impl_planOf j27_impl_planOf c9_impl_planOf w27_impl_planOf
  generalize c27_impl_planOf = x0
  revert x0
  refine id ?_
  intro x0
  kernel_rfl
theorem j27_impl_planOf_eq (nf : Nat) (x : FComp) (y3_8_0 : Int) (y3_8_1 : Str) (y3_8_2 : Str) (y3_8_12 : List Plan) : j27_impl_planOf nf x y3_8_0 y3_8_1 y3_8_2 y3_8_12 = (
  cb (m_impl_selected nf (Plan.mk y3_8_0 y3_8_1 y3_8_2 (Tm.mk (0 : Int) ([] : Str) (0 : Int) (Ty.mk (0 : Int) ([] : List Str) ([] : List Ty)) ([] : List Str) ([] : List Tm)) ([] : List Tm) y3_8_12) x.whr) fun r36 =>
    some (Plan.h r36)) := by kernel_rfl
theorem m_impl_planOf_eq (nf : Nat) (x : FComp) : m_impl_planOf nf x = (
  mark (l8_impl_planOf nf nf x (0 : Int) (1 : Int) ([] : Str) ([] : Str) ([] : List Plan))) := by
  unfold m_impl_planOf l8_impl_planOf ir_impl_planOf w27_impl_planOf
  generalize c27_impl_planOf = x0
  revert x0
  refine id ?_
  intro x0
  kernel_rfl
noncomputable def e_impl_planOf (nf : Nat) : XE := eF 131 [.p (kR 12)] [.v (kR 17)] (fun t => m_impl_planOf nf t.1)
theorem o_impl_planOf (nf : Nat) : conOK Try.prog 131 (e_impl_planOf nf).con := by
  have ih : XT.ok Try.prog (T_impl_planOf nf) := by exact ⟨o_impl_selected nf, trivial⟩
  refine eF_ok fun t x h => ?_
  obtain ⟨x, _⟩ := t
  exact runF_ok (N := 37) ih Try.func131 (by kernel_rfl) rfl h
def c21_impl_clonePlan : C := .sq (.rg [.ld 34 (.t 3) (kR 17), .st (.t 2) (.t 34) (kR 17)]) .rt
def c9_impl_clonePlan : C := .sq (.rg [.bi 23 .lss (.t 22) (.t 21)]) (.sq (.cd (.t 23) .skip (.ex 0)) (.sq (.bk 1 (.sq (.rg [.ia 24 (.t 20) (.t 22) (kR 17), .ld 25 (.t 24) (kR 17), .al 5 (kR 17), .st (.t 5) (.t 25) (kR 17)]) (.gb 3 12 true (kR 17) (.dr [29, 30] [.fa 26 (.t 3) 17 5 12, .ld 27 (.t 26) (kL (kR 17)), .ld 28 (.t 5) (kR 17), .ca (some 29) 130 [((.t 28), .v (kR 17))], .bl 30 (kR 17) [(.t 29)]] [.apl 31 [3, 12] (kR 17) (.t 27) 30, .fa 32 (.t 3) 17 5 12, .st (.t 32) (.t 31) (kL (kR 17))])))) (.rg [.bi 33 .add (.t 22) (.i 1), .mv 22 (.t 33)])))
def ir_impl_clonePlan : C := .sq (.rg [.bx 1 (.t 0) (kR 17), .al 2 (kR 17)]) (.sq (.dr [14, 17, 3] [.fa 6 (.t 1) 17 0 0, .ld 7 (.t 6) kI, .fa 8 (.t 1) 17 1 1, .ld 9 (.t 8) kS, .fa 10 (.t 1) 17 2 2, .ld 11 (.t 10) kS, .fa 12 (.t 1) 17 3 3, .ld 13 (.t 12) (kR 2), .ca (some 14) 96 [((.t 13), .v (kR 2))], .fa 15 (.t 1) 17 4 11, .ld 16 (.t 15) (kL (kR 2)), .ca (some 17) 89 [((.t 16), .v (kL (kR 2)))], .bd 18 17 [(0, 1, (.t 7)), (1, 1, (.t 9)), (2, 1, (.t 11)), (3, 8, (.t 14)), (11, 1, (.t 17))], .al 3 (kR 17)] [.st (.t 3) (.t 18) (kR 17)]) (.sq (.sq (.rg [.fa 19 (.t 1) 17 5 12, .ld 20 (.t 19) (kL (kR 17)), .ln 21 false (.t 20), .mv 22 (.i 0)]) (.bk 0 (.gb 3 12 true (kR 17) (.lk [2, 3, 20, 21, 22] [[2], [3], [3, 12], [14, 4], [14, 5], [14, 6], [14, 7], [17]] c9_impl_clonePlan)))) c21_impl_clonePlan))
noncomputable def B_impl_clonePlan (nf : Nat) : XT := [e_impl_cloneTerm nf, e_impl_cloneTerms nf]
noncomputable def G_impl_clonePlan (nf : Nat) : Nat → XT
  | 0 => []
  | kf + 1 => [eF 130 [.v (kR 17)] [.o (kR 17)] (fun t => (fun (p : Plan) => runF (G_impl_clonePlan nf kf ++ B_impl_clonePlan nf) nf [.v (kR 17)] [.c 2 (.o (kR 17))] ir_impl_clonePlan (p, ())) t.1)]
noncomputable abbrev T_impl_clonePlan (nf kf : Nat) : XT := G_impl_clonePlan nf kf ++ B_impl_clonePlan nf
noncomputable def m_impl_clonePlan (nf kf : Nat) (p : Plan) : Option (Plan) := runF (T_impl_clonePlan nf kf) nf [.v (kR 17)] [.c 2 (.o (kR 17))] ir_impl_clonePlan (p, ())
noncomputable def X_impl_clonePlan {R : Type} (nf kf : Nat) : C → Env → (Xt → Env → Option R) → Option R := xc (R := R) (T_impl_clonePlan nf kf).S nf
noncomputable def l8_impl_clonePlan (nf kf : Nat) (m8 : Nat) (p : Plan) (r14 : Tm) (r17 : (List Tm)) (x22_8 : Int) (y3_12_8 : List Plan) : Option (Plan) := xit [2, 3, 20, 21, 22] [[2], [3], [3, 12], [14, 4], [14, 5], [14, 6], [14, 7], [17]] (X_impl_clonePlan nf kf c9_impl_clonePlan) (qB 0 (qS (X_impl_clonePlan nf kf c21_impl_clonePlan) (KF [.c 2 (.o (kR 17))]))) m8 ⟨[(2, .pt [2] 0), (3, .pt [3] 0), (20, .v (kL (kR 17)) p.args), (21, .v kI (List.length p.args : Int)), (22, .v kI x22_8)], [([2], .box [.v kI (0 : Int), .v kS ([] : Str), .v kS ([] : Str), .v kI (0 : Int), .v kS ([] : Str), .v kI (0 : Int), .v kI (0 : Int), .nl kS, .nl (kR 0), .nl kS, .nl (kR 2), .nl (kR 2), .nl (kR 17)]), ([3], .box [.v kI p.kind, .v kS p.var, .v kS p.table, .v kI r14.kind, .v kS r14.name, .v kI r14.n, .v kI r14.type.kind, .sl [14, 4], .sl [14, 5], .sl [14, 6], .sl [14, 7], .sl [17], .sl [3, 12]]), ([3, 12], .row true false (kR 17) y3_12_8), ([14, 4], .row true false kS r14.type.labels), ([14, 5], .row true false (kR 0) r14.type.args), ([14, 6], .row true false kS r14.labels), ([14, 7], .row true false (kR 2) r14.args), ([17], .row true false (kR 2) r17)]⟩
theorem l8_impl_clonePlan_eq (nf kf : Nat) (m8 : Nat) (p : Plan) (r14 : Tm) (r17 : (List Tm)) (x22_8 : Int) (y3_12_8 : List Plan) : l8_impl_clonePlan nf (kf + 1) (m8 + 1) p r14 r17 x22_8 y3_12_8 = (
  br (decide (x22_8 < (List.length p.args : Int))) (
    gg (0 ≤ x22_8 ∧ x22_8 < (List.length p.args : Int)) <|
      cb (m_impl_clonePlan nf kf (Plan.h (gt p.args x22_8 Plan.zero))) fun r29 =>
        gg (List.length y3_12_8 + List.length ([(Plan.h r29)] : List Plan) ≤ 33554432) <|
          mark (l8_impl_clonePlan nf (kf + 1) m8 p r14 r17 (w64 (x22_8 + (1 : Int))) (y3_12_8 ++ ([(Plan.h r29)] : List Plan)))) (
    some (Plan.mk p.kind p.var p.table (Tm.h r14) r17 y3_12_8))) := by kernel_rfl
theorem m_impl_clonePlan_eq (nf kf : Nat) (p : Plan) : m_impl_clonePlan nf (kf + 1) p = (
  cb (m_impl_cloneTerm nf nf (Tm.h p.cond)) fun r14 =>
    cb (m_impl_cloneTerms nf p.keys) fun r17 =>
      mark (l8_impl_clonePlan nf (kf + 1) nf p r14 r17 (0 : Int) ([] : List Plan))) := by kernel_rfl
noncomputable def e_impl_clonePlan (nf : Nat) : XE := eF 130 [.v (kR 17)] [.o (kR 17)] (fun t => m_impl_clonePlan nf nf t.1)
theorem gok_impl_clonePlan (nf : Nat) : ∀ kf : Nat, XT.ok Try.prog (G_impl_clonePlan nf kf ++ B_impl_clonePlan nf)
  | 0 => by exact ⟨o_impl_cloneTerm nf, o_impl_cloneTerms nf, trivial⟩
  | kf + 1 => by
    have ih := gok_impl_clonePlan nf kf
    refine ⟨?_, (by exact ⟨o_impl_cloneTerm nf, o_impl_cloneTerms nf, trivial⟩)⟩
    · refine eF_ok fun t x h => ?_
      obtain ⟨p, _⟩ := t
      exact runF_ok (N := 35) ih Try.func130 (by kernel_rfl) rfl h
theorem o_impl_clonePlan (nf : Nat) : conOK Try.prog 130 (e_impl_clonePlan nf).con := by
  have ih := gok_impl_clonePlan nf nf
  refine eF_ok fun t x h => ?_
  obtain ⟨p, _⟩ := t
  exact runF_ok (N := 35) ih Try.func130 (by kernel_rfl) rfl h
def ir_impl_PlanOf : C := .sq (.rg [.bz 1 (.t 0) (kR 12), .al 2 (kR 17)]) (.sq (.rg [.cv (some 3) 131 [((.t 1), .v (.ptr (kR 12)))], .ca (some 4) 130 [((.t 3), .v (kR 17))], .st (.t 2) (.t 4) (kR 17)]) .rt)
noncomputable abbrev T_impl_PlanOf (nf : Nat) : XT := [e_impl_planOf nf, e_impl_clonePlan nf]
noncomputable def m_impl_PlanOf (nf : Nat) (x : FComp) : Option (Plan) := runF (T_impl_PlanOf nf) nf [.v (kR 12)] [.c 2 (.o (kR 17))] ir_impl_PlanOf (x, ())
theorem m_impl_PlanOf_eq (nf : Nat) (x : FComp) : m_impl_PlanOf nf x = (
  cb (m_impl_planOf nf x) fun r3 =>
    cb (m_impl_clonePlan nf nf r3) fun r4 =>
      some (Plan.h r4)) := by kernel_rfl
noncomputable def e_impl_PlanOf (nf : Nat) : XE := eF 67 [.v (kR 12)] [.o (kR 17)] (fun t => m_impl_PlanOf nf t.1)
theorem o_impl_PlanOf (nf : Nat) : conOK Try.prog 67 (e_impl_PlanOf nf).con := by
  have ih : XT.ok Try.prog (T_impl_PlanOf nf) := by exact ⟨o_impl_planOf nf, o_impl_clonePlan nf, trivial⟩
  refine eF_ok fun t x h => ?_
  obtain ⟨x, _⟩ := t
  exact runF_ok (N := 5) ih Try.func67 (by kernel_rfl) rfl h
def c48_laws_FnExactPlanOf : C := .sq (.rg [.mv 8 (.i 1)]) (.sq (.rg [.ld 43 (.t 6) (kR 17), .mv 44 (.t 8), .cq (some 45) 71 [((.t 43), .q), ((.t 44), .v kI)], .mv 8 (.t 45)]) (.sq (.rg [.mv 9 (.i 1)]) (.sq (.rg [.ld 46 (.t 6) (kR 17), .mv 47 (.t 9), .cv (some 48) 72 [((.t 46), .v (kR 17)), ((.t 47), .v kI)], .mv 9 (.t 48)]) (.sq (.sq (.rg [.mv 49 (.t 9), .bi 50 .lss (.t 49) (.i 0)]) (.cd (.t 50) (.sq (.rg [.mv 2 (.b false)]) .rt) .skip)) (.sq (.sq (.rg [.mv 51 (.t 9), .mv 52 (.t 8), .bi 53 .neq (.t 51) (.t 52)]) (.cd (.t 53) (.sq (.rg [.mv 2 (.b false)]) .rt) .skip)) (.sq (.rg [.ld 54 (.t 1) (kR 12), .cv (some 55) 66 [((.t 54), .v (kR 12))], .cv (some 56) 67 [((.t 55), .v (kR 12))], .al 10 (kR 17), .st (.t 10) (.t 56) (kR 17)]) (.sq (.sq (.rg [.ld 57 (.t 10) (kR 17), .ld 58 (.t 4) (kR 17), .cv (some 59) 68 [((.t 57), .v (kR 17)), ((.t 58), .v (kR 17))], .un 60 .not (.t 59)]) (.cd (.t 60) (.sq (.rg [.mv 2 (.b false)]) .rt) .skip)) (.sq (.rg [.mv 9 (.i 1)]) (.sq (.rg [.ld 61 (.t 6) (kR 17), .mv 62 (.t 9), .cv (some 63) 72 [((.t 61), .v (kR 17)), ((.t 62), .v kI)], .mv 9 (.t 63)]) (.sq (.sq (.rg [.mv 64 (.t 9), .bi 65 .lss (.t 64) (.i 0)]) (.cd (.t 65) (.sq (.rg [.mv 2 (.b false)]) .rt) .skip)) (.sq (.sq (.rg [.mv 66 (.t 9), .mv 67 (.t 8), .bi 68 .neq (.t 66) (.t 67)]) (.cd (.t 68) (.sq (.rg [.mv 2 (.b false)]) .rt) .skip)) (.sq (.rg [.mv 2 (.b true)]) .rt))))))))))))
def c43_laws_FnExactPlanOf : C := .cd (.t 42) (.sq (.rg [.mv 2 (.b false)]) .rt) .skip
def w43_laws_FnExactPlanOf : C := .kp [1, 4, 6, 42] [[1], [4], [6], [22, 7], [22, 8], [22, 9], [22, 10], [22, 11], [22, 12]] c43_laws_FnExactPlanOf
def ir_laws_FnExactPlanOf : C := .sq (.rg [.bx 1 (.t 0) (kR 12), .mv 2 (.b false)]) (.sq (.rg [.mv 3 (.i 1048576)]) (.sq (.rg [.ld 11 (.t 1) (kR 12), .mv 12 (.t 3), .cv (some 13) 64 [((.t 11), .v (kR 12)), ((.t 12), .v kI)], .mv 3 (.t 13)]) (.sq (.sq (.rg [.mv 14 (.t 3), .bi 15 .lss (.t 14) (.i 0)]) (.cd (.t 15) (.sq (.rg [.mv 2 (.b true)]) .rt) .skip)) (.sq (.rg [.ld 16 (.t 1) (kR 12), .cv (some 17) 66 [((.t 16), .v (kR 12))], .cv (some 18) 65 [((.t 17), .v (kR 12))], .al 4 (kR 17), .st (.t 4) (.t 18) (kR 17)]) (.sq (.rg [.ld 19 (.t 1) (kR 12), .ca (some 20) 66 [((.t 19), .v (kR 12))], .al 5 (kR 12), .st (.t 5) (.t 20) (kR 12)]) (.sq (.rg [.ld 21 (.t 5) (kR 12), .ca (some 22) 67 [((.t 21), .v (kR 12))], .al 6 (kR 17), .st (.t 6) (.t 22) (kR 17)]) (.sq (.sq (.rg [.ld 23 (.t 6) (kR 17), .ld 24 (.t 4) (kR 17), .cv (some 25) 68 [((.t 23), .v (kR 17)), ((.t 24), .v (kR 17))], .un 26 .not (.t 25)]) (.cd (.t 26) (.sq (.rg [.mv 2 (.b false)]) .rt) .skip)) (.sq (.sq (.dr [] [.ld 27 (.t 5) (kR 12), .ld 28 (.t 1) (kR 12), .cv (some 29) 66 [((.t 28), .v (kR 12))]] [.cv (some 30) 69 [((.t 27), .v (kR 12)), ((.t 29), .v (kR 12))], .un 31 .not (.t 30)]) (.cd (.t 31) (.sq (.rg [.mv 2 (.b false)]) .rt) .skip)) (.sq (.rg [.mv 7 (.i 1)]) (.sq (.rg [.ld 32 (.t 5) (kR 12), .mv 33 (.t 7), .cq (some 34) 70 [((.t 32), .q), ((.t 33), .v kI)], .mv 7 (.t 34)]) (.sq (.sq (.rg [.mv 35 (.t 7), .bi 36 .lss (.t 35) (.i 0), .mv 37 (.t 36), .g 37 false (.ld 38 (.t 6) (kR 17)), .g 37 false (.ld 39 (.t 4) (kR 17)), .g 37 false (.cv (some 40) 68 [((.t 38), .v (kR 17)), ((.t 39), .v (kR 17))]), .g 37 false (.un 41 .not (.t 40)), .pk 42 (.t 37) (.b true) (.t 41)]) w43_laws_FnExactPlanOf) c48_laws_FnExactPlanOf)))))))))))
noncomputable abbrev T_laws_FnExactPlanOf (nf : Nat) : XT := [e_laws_szFlatComp nf, e_laws_toFlatComp nf, e_spec_PlanOf nf, e_impl_PlanOf nf, e_laws_eqPlan nf, e_laws_eqFlatComp nf, e_laws_markFlatComp nf, e_laws_markPlan nf, e_laws_heldPlan nf]
noncomputable def m_laws_FnExactPlanOf (nf : Nat) (a : FComp) : Option (Bool) := runF (T_laws_FnExactPlanOf nf) nf [.v (kR 12)] [.t 2 (.v .bool)] ir_laws_FnExactPlanOf (a, ())
noncomputable def X_laws_FnExactPlanOf {R : Type} (nf : Nat) : C → Env → (Xt → Env → Option R) → Option R := xc (R := R) (T_laws_FnExactPlanOf nf).S nf
noncomputable def j43_laws_FnExactPlanOf (nf : Nat) (a : FComp) (r18 : Plan) (r22 : Plan) (x42_43 : Bool) : Option (Bool) := X_laws_FnExactPlanOf nf c43_laws_FnExactPlanOf ⟨[(1, .pt [1] 0), (4, .pt [4] 0), (6, .pt [6] 0), (42, .v .bool x42_43)], [([1], .box [.v kI a.outer, .v kI a.outerGens, .v kI a.tag, .v (kL (kR 3)) a.gens, .v kI a.whr.kind, .v kS a.whr.name, .v kI a.whr.n, .v kI a.whr.type.kind, .v (kL kS) a.whr.type.labels, .v (kL (kR 0)) a.whr.type.args, .v (kL kS) a.whr.labels, .v (kL (kR 2)) a.whr.args, .v (kL (kR 2)) a.cols]), ([4], .box [.v kI r18.kind, .v kS r18.var, .v kS r18.table, .v kI r18.cond.kind, .v kS r18.cond.name, .v kI r18.cond.n, .v kI r18.cond.type.kind, .v (kL kS) r18.cond.type.labels, .v (kL (kR 0)) r18.cond.type.args, .v (kL kS) r18.cond.labels, .v (kL (kR 2)) r18.cond.args, .v (kL (kR 2)) r18.keys, .v (kL (kR 17)) r18.args]), ([6], .box [.v kI r22.kind, .v kS r22.var, .v kS r22.table, .v kI r22.cond.kind, .v kS r22.cond.name, .v kI r22.cond.n, .v kI r22.cond.type.kind, .sl [22, 7], .sl [22, 8], .sl [22, 9], .sl [22, 10], .sl [22, 11], .sl [22, 12]]), ([22, 7], .row true false kS r22.cond.type.labels), ([22, 8], .row true false (kR 0) r22.cond.type.args), ([22, 9], .row true false kS r22.cond.labels), ([22, 10], .row true false (kR 2) r22.cond.args), ([22, 11], .row true false (kR 2) r22.keys), ([22, 12], .row true false (kR 17) r22.args)]⟩ (qS (X_laws_FnExactPlanOf nf c48_laws_FnExactPlanOf) (KF [.t 2 (.v .bool)]))
theorem j43_laws_FnExactPlanOf_eq (nf : Nat) (a : FComp) (r18 : Plan) (r22 : Plan) (x42_43 : Bool) : j43_laws_FnExactPlanOf nf a r18 r22 x42_43 = (
  br x42_43 (
    some false) (
    cb (m_laws_markPlan nf r22.kind r22.var r22.table r22.cond.kind r22.cond.name r22.cond.n r22.cond.type.kind (1 : Int) r22.cond.type.labels r22.cond.type.args r22.cond.labels r22.cond.args r22.keys r22.args) fun r45 =>
      cb (m_laws_heldPlan nf (Plan.mk r22.kind r22.var r22.table (Tm.mk r22.cond.kind r22.cond.name r22.cond.n (Ty.mk r22.cond.type.kind r45.2.1 r45.2.2.1) r45.2.2.2.1 r45.2.2.2.2.1) r45.2.2.2.2.2.1 r45.2.2.2.2.2.2) (1 : Int)) fun r48 =>
        br (decide (r48 < (0 : Int))) (
          some false) (
          br (!(r48 == r45.1)) (
            some false) (
            cb (m_laws_toFlatComp nf (FComp.h a)) fun r55 =>
              cb (m_impl_PlanOf nf r55) fun r56 =>
                cb (m_laws_eqPlan nf nf (Plan.h r56) (Plan.h r18)) fun r59 =>
                  br (!r59) (
                    some false) (
                    cb (m_laws_heldPlan nf (Plan.mk r22.kind r22.var r22.table (Tm.mk r22.cond.kind r22.cond.name r22.cond.n (Ty.mk r22.cond.type.kind r45.2.1 r45.2.2.1) r45.2.2.2.1 r45.2.2.2.2.1) r45.2.2.2.2.2.1 r45.2.2.2.2.2.2) (1 : Int)) fun r63 =>
                      br (decide (r63 < (0 : Int))) (
                        some false) (
                        br (!(r63 == r45.1)) (
                          some false) (
                          some true))))))) := by kernel_rfl
theorem m_laws_FnExactPlanOf_eq (nf : Nat) (a : FComp) : m_laws_FnExactPlanOf nf a = (
  cb (m_laws_szFlatComp nf (FComp.h a) (1048576 : Int)) fun r13 =>
    br (decide (r13 < (0 : Int))) (
      some true) (
      cb (m_laws_toFlatComp nf (FComp.h a)) fun r17 =>
        cb (m_spec_PlanOf nf r17) fun r18 =>
          cb (m_laws_toFlatComp nf (FComp.h a)) fun r20 =>
            cb (m_impl_PlanOf nf (FComp.h r20)) fun r22 =>
              cb (m_laws_eqPlan nf nf (Plan.h r22) (Plan.h r18)) fun r25 =>
                br (!r25) (
                  some false) (
                  cb (m_laws_toFlatComp nf (FComp.h a)) fun r29 =>
                    cb (m_laws_eqFlatComp nf (FComp.h r20) r29) fun r30 =>
                      br (!r30) (
                        some false) (
                        cb (m_laws_markFlatComp nf r20.outer r20.outerGens r20.tag r20.whr.kind r20.whr.name r20.whr.n r20.whr.type.kind (1 : Int) r20.gens r20.whr.type.labels r20.whr.type.args r20.whr.labels r20.whr.args r20.cols) fun r34 =>
                          br ((decide (r34.1 < (0 : Int))) == false) (
                            cb (m_laws_eqPlan nf nf (Plan.h r22) (Plan.h r18)) fun r40 =>
                              mark (j43_laws_FnExactPlanOf nf a r18 r22 (!r40))) (
                            mark (j43_laws_FnExactPlanOf nf a r18 r22 true)))))) := by
  unfold m_laws_FnExactPlanOf j43_laws_FnExactPlanOf ir_laws_FnExactPlanOf w43_laws_FnExactPlanOf c48_laws_FnExactPlanOf
  generalize c43_laws_FnExactPlanOf = x0
  revert x0
  refine id ?_
  intro x0
  kernel_rfl
noncomputable def e_laws_FnExactPlanOf (nf : Nat) : XE := eF 11 [.v (kR 12)] [.v .bool] (fun t => m_laws_FnExactPlanOf nf t.1)
theorem o_laws_FnExactPlanOf (nf : Nat) : conOK Try.prog 11 (e_laws_FnExactPlanOf nf).con := by
  have ih : XT.ok Try.prog (T_laws_FnExactPlanOf nf) := by exact ⟨o_laws_szFlatComp nf, o_laws_toFlatComp nf, o_spec_PlanOf nf, o_impl_PlanOf nf, o_laws_eqPlan nf, o_laws_eqFlatComp nf, o_laws_markFlatComp nf, o_laws_markPlan nf, o_laws_heldPlan nf, trivial⟩
  refine eF_ok fun t x h => ?_
  obtain ⟨a, _⟩ := t
  exact runF_ok (N := 69) ih Try.func11 (by kernel_rfl) rfl h
end Go.Q
