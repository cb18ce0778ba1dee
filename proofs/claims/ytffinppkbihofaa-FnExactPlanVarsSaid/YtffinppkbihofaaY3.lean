/- The law. -/
import Derived.Test.YtffinppkbihofaaY2
import Derived.Test.YtffinppkbihofaaProg
import Derived.KernelRfl
set_option linter.unusedVariables false
set_option linter.unusedSimpArgs false
namespace Go.Q
open Go.Proofs
set_option linter.unusedVariables false
set_option maxRecDepth 20000
set_option maxHeartbeats 4000000
def c48_laws_FnExactPlanVars : C := .sq (.rg [.mv 8 (.i 1)]) (.sq (.rg [.mv 43 (.t 6), .mv 44 (.t 8), .cw (some 45) 54 (kR 3) (.t 43) (.t 44), .mv 8 (.t 45)]) (.sq (.rg [.mv 9 (.i 1)]) (.sq (.rg [.mv 46 (.t 6), .mv 47 (.t 9), .cv (some 48) 55 [((.t 46), .v (kL (kR 3))), ((.t 47), .v kI)], .mv 9 (.t 48)]) (.sq (.sq (.rg [.mv 49 (.t 9), .bi 50 .lss (.t 49) (.i 0)]) (.cd (.t 50) (.sq (.rg [.mv 2 (.b false)]) .rt) .skip)) (.sq (.sq (.rg [.mv 51 (.t 9), .mv 52 (.t 8), .bi 53 .neq (.t 51) (.t 52)]) (.cd (.t 53) (.sq (.rg [.mv 2 (.b false)]) .rt) .skip)) (.sq (.rg [.ld 54 (.t 1) (kR 17), .cv (some 55) 41 [((.t 54), .v (kR 17))], .cv (some 56) 52 [((.t 55), .v (kR 17))], .mv 10 (.t 56)]) (.sq (.sq (.rg [.mv 57 (.t 10), .mv 58 (.t 4), .cv (some 59) 38 [((.t 57), .v (kL (kR 3))), ((.t 58), .v (kL (kR 3)))], .un 60 .not (.t 59)]) (.cd (.t 60) (.sq (.rg [.mv 2 (.b false)]) .rt) .skip)) (.sq (.rg [.mv 9 (.i 1)]) (.sq (.rg [.mv 61 (.t 6), .mv 62 (.t 9), .cv (some 63) 55 [((.t 61), .v (kL (kR 3))), ((.t 62), .v kI)], .mv 9 (.t 63)]) (.sq (.sq (.rg [.mv 64 (.t 9), .bi 65 .lss (.t 64) (.i 0)]) (.cd (.t 65) (.sq (.rg [.mv 2 (.b false)]) .rt) .skip)) (.sq (.sq (.rg [.mv 66 (.t 9), .mv 67 (.t 8), .bi 68 .neq (.t 66) (.t 67)]) (.cd (.t 68) (.sq (.rg [.mv 2 (.b false)]) .rt) .skip)) (.sq (.rg [.mv 2 (.b true)]) .rt))))))))))))
def c43_laws_FnExactPlanVars : C := .cd (.t 42) (.sq (.rg [.mv 2 (.b false)]) .rt) .skip
def w43_laws_FnExactPlanVars : C := .kp [1, 4, 6, 42] [[1], [22]] c43_laws_FnExactPlanVars
def ir_laws_FnExactPlanVars : C := .sq (.rg [.bx 1 (.t 0) (kR 17), .mv 2 (.b false)]) (.sq (.rg [.mv 3 (.i 1048576)]) (.sq (.rg [.ld 11 (.t 1) (kR 17), .mv 12 (.t 3), .cv (some 13) 39 [((.t 11), .v (kR 17)), ((.t 12), .v kI)], .mv 3 (.t 13)]) (.sq (.sq (.rg [.mv 14 (.t 3), .bi 15 .lss (.t 14) (.i 0)]) (.cd (.t 15) (.sq (.rg [.mv 2 (.b true)]) .rt) .skip)) (.sq (.rg [.ld 16 (.t 1) (kR 17), .cv (some 17) 41 [((.t 16), .v (kR 17))], .cv (some 18) 51 [((.t 17), .v (kR 17))], .mv 4 (.t 18)]) (.sq (.rg [.ld 19 (.t 1) (kR 17), .ca (some 20) 41 [((.t 19), .v (kR 17))], .al 5 (kR 17), .st (.t 5) (.t 20) (kR 17)]) (.sq (.rg [.ld 21 (.t 5) (kR 17), .ca (some 22) 52 [((.t 21), .v (kR 17))], .mv 6 (.t 22)]) (.sq (.sq (.rg [.mv 23 (.t 6), .mv 24 (.t 4), .cv (some 25) 38 [((.t 23), .v (kL (kR 3))), ((.t 24), .v (kL (kR 3)))], .un 26 .not (.t 25)]) (.cd (.t 26) (.sq (.rg [.mv 2 (.b false)]) .rt) .skip)) (.sq (.sq (.dr [] [.ld 27 (.t 5) (kR 17), .ld 28 (.t 1) (kR 17), .cv (some 29) 41 [((.t 28), .v (kR 17))]] [.cv (some 30) 43 [((.t 27), .v (kR 17)), ((.t 29), .v (kR 17))], .un 31 .not (.t 30)]) (.cd (.t 31) (.sq (.rg [.mv 2 (.b false)]) .rt) .skip)) (.sq (.rg [.mv 7 (.i 1)]) (.sq (.rg [.ld 32 (.t 5) (kR 17), .mv 33 (.t 7), .cq (some 34) 53 [((.t 32), .q), ((.t 33), .v kI)], .mv 7 (.t 34)]) (.sq (.sq (.rg [.mv 35 (.t 7), .bi 36 .lss (.t 35) (.i 0), .mv 37 (.t 36), .g 37 false (.mv 38 (.t 6)), .g 37 false (.mv 39 (.t 4)), .g 37 false (.cv (some 40) 38 [((.t 38), .v (kL (kR 3))), ((.t 39), .v (kL (kR 3)))]), .g 37 false (.un 41 .not (.t 40)), .pk 42 (.t 37) (.b true) (.t 41)]) w43_laws_FnExactPlanVars) c48_laws_FnExactPlanVars)))))))))))
noncomputable abbrev T_laws_FnExactPlanVars (nf : Nat) : XT := [e_laws_szPlan nf, e_laws_toPlan nf, e_spec_PlanVars nf, e_impl_PlanVars nf, e_laws_eqGenS nf, e_laws_eqPlan nf, e_laws_markPlan nf, e_laws_markGenS nf, e_laws_heldGenS nf]
noncomputable def m_laws_FnExactPlanVars (nf : Nat) (aP : Plan) : Option (Bool) := runF (T_laws_FnExactPlanVars nf) nf [.v (kR 17)] [.t 2 (.v .bool)] ir_laws_FnExactPlanVars (aP, ())
noncomputable def X_laws_FnExactPlanVars {R : Type} (nf : Nat) : C → Env → (Xt → Env → Option R) → Option R := xc (R := R) (T_laws_FnExactPlanVars nf).S nf
noncomputable def j43_laws_FnExactPlanVars (nf : Nat) (r18 : (List Gen)) (aP : Plan) (r22 : (List Gen)) (x42_43 : Bool) : Option (Bool) := X_laws_FnExactPlanVars nf c43_laws_FnExactPlanVars ⟨[(1, .pt [1] 0), (4, .v (kL (kR 3)) r18), (6, .sl [22]), (42, .v .bool x42_43)], [([1], .box [.v kI aP.kind, .v kS aP.var, .v kS aP.table, .v kI aP.cond.kind, .v kS aP.cond.name, .v kI aP.cond.n, .v kI aP.cond.type.kind, .v (kL kS) aP.cond.type.labels, .v (kL (kR 0)) aP.cond.type.args, .v (kL kS) aP.cond.labels, .v (kL (kR 2)) aP.cond.args, .v (kL (kR 2)) aP.keys, .v (kL (kR 17)) aP.args]), ([22], .row true false (kR 3) r22)]⟩ (qS (X_laws_FnExactPlanVars nf c48_laws_FnExactPlanVars) (KF [.t 2 (.v .bool)]))
theorem j43_laws_FnExactPlanVars_eq (nf : Nat) (r18 : (List Gen)) (aP : Plan) (r22 : (List Gen)) (x42_43 : Bool) : j43_laws_FnExactPlanVars nf r18 aP r22 x42_43 = (
  br x42_43 (
    some false) (
    cb (m_laws_markGenS nf r22 (1 : Int)) fun r45 =>
      cb (m_laws_heldGenS nf r45.1 (1 : Int)) fun r48 =>
        br (decide (r48 < (0 : Int))) (
          some false) (
          br (!(r48 == r45.2)) (
            some false) (
            cb (m_laws_toPlan nf nf (Plan.h aP)) fun r55 =>
              cb (m_impl_PlanVars nf r55) fun r56 =>
                cb (m_laws_eqGenS nf r56 r18) fun r59 =>
                  br (!r59) (
                    some false) (
                    cb (m_laws_heldGenS nf r45.1 (1 : Int)) fun r63 =>
                      br (decide (r63 < (0 : Int))) (
                        some false) (
                        br (!(r63 == r45.2)) (
                          some false) (
                          some true))))))) := by kernel_rfl
theorem m_laws_FnExactPlanVars_eq (nf : Nat) (aP : Plan) : m_laws_FnExactPlanVars nf aP = (
  cb (m_laws_szPlan nf nf (Plan.h aP) (1048576 : Int)) fun r13 =>
    br (decide (r13 < (0 : Int))) (
      some true) (
      cb (m_laws_toPlan nf nf (Plan.h aP)) fun r17 =>
        cb (m_spec_PlanVars nf nf r17) fun r18 =>
          cb (m_laws_toPlan nf nf (Plan.h aP)) fun r20 =>
            cb (m_impl_PlanVars nf (Plan.h r20)) fun r22 =>
              cb (m_laws_eqGenS nf r22 r18) fun r25 =>
                br (!r25) (
                  some false) (
                  cb (m_laws_toPlan nf nf (Plan.h aP)) fun r29 =>
                    cb (m_laws_eqPlan nf nf (Plan.h r20) r29) fun r30 =>
                      br (!r30) (
                        some false) (
                        cb (m_laws_markPlan nf r20.kind r20.var r20.table r20.cond.kind r20.cond.name r20.cond.n r20.cond.type.kind (1 : Int) r20.cond.type.labels r20.cond.type.args r20.cond.labels r20.cond.args r20.keys r20.args) fun r34 =>
                          br ((decide (r34.1 < (0 : Int))) == false) (
                            cb (m_laws_eqGenS nf r22 r18) fun r40 =>
                              mark (j43_laws_FnExactPlanVars nf r18 aP r22 (!r40))) (
                            mark (j43_laws_FnExactPlanVars nf r18 aP r22 true)))))) := by
  unfold m_laws_FnExactPlanVars j43_laws_FnExactPlanVars ir_laws_FnExactPlanVars w43_laws_FnExactPlanVars c48_laws_FnExactPlanVars
  generalize c43_laws_FnExactPlanVars = x0
  revert x0
  refine id ?_
  intro x0
  kernel_rfl
noncomputable def e_laws_FnExactPlanVars (nf : Nat) : XE := eF 11 [.v (kR 17)] [.v .bool] (fun t => m_laws_FnExactPlanVars nf t.1)
theorem o_laws_FnExactPlanVars (nf : Nat) : conOK Try.prog 11 (e_laws_FnExactPlanVars nf).con := by
  have ih : XT.ok Try.prog (T_laws_FnExactPlanVars nf) := by exact ⟨o_laws_szPlan nf, o_laws_toPlan nf, o_spec_PlanVars nf, o_impl_PlanVars nf, o_laws_eqGenS nf, o_laws_eqPlan nf, o_laws_markPlan nf, o_laws_markGenS nf, o_laws_heldGenS nf, trivial⟩
  refine eF_ok fun t x h => ?_
  obtain ⟨aP, _⟩ := t
  exact runF_ok (N := 69) ih Try.func11 (by kernel_rfl) rfl h
end Go.Q
