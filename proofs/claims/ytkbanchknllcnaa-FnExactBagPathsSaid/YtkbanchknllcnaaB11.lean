/- Laws of types. -/
import Derived.Test.YtkbanchknllcnaaB2
import Derived.Test.YtkbanchknllcnaaB9
import Derived.Test.YtkbanchknllcnaaProg
import Derived.KernelRfl
set_option linter.unusedVariables false
set_option linter.unusedSimpArgs false
namespace Go.Q
open Go.Proofs
set_option linter.unusedVariables false
set_option maxRecDepth 20000
set_option maxHeartbeats 4000000
def c48_laws_FnExactBagPaths : C := .sq (.rg [.mv 8 (.i 1)]) (.sq (.rg [.mv 43 (.t 6), .mv 44 (.t 8), .cw (some 45) 20 (kL kS) (.t 43) (.t 44), .mv 8 (.t 45)]) (.sq (.rg [.mv 9 (.i 1)]) (.sq (.rg [.mv 46 (.t 6), .mv 47 (.t 9), .cv (some 48) 21 [((.t 46), .v (kL (kL kS))), ((.t 47), .v kI)], .mv 9 (.t 48)]) (.sq (.sq (.rg [.mv 49 (.t 9), .bi 50 .lss (.t 49) (.i 0)]) (.cd (.t 50) (.sq (.rg [.mv 2 (.b false)]) .rt) .skip)) (.sq (.sq (.rg [.mv 51 (.t 9), .mv 52 (.t 8), .bi 53 .neq (.t 51) (.t 52)]) (.cd (.t 53) (.sq (.rg [.mv 2 (.b false)]) .rt) .skip)) (.sq (.rg [.ld 54 (.t 1) (kR 0), .cv (some 55) 15 [((.t 54), .v (kR 0))], .cv (some 56) 23 [((.t 55), .v (kR 0))], .mv 10 (.t 56)]) (.sq (.sq (.rg [.mv 57 (.t 10), .mv 58 (.t 4), .cv (some 59) 17 [((.t 57), .v (kL (kL kS))), ((.t 58), .v (kL (kL kS)))], .un 60 .not (.t 59)]) (.cd (.t 60) (.sq (.rg [.mv 2 (.b false)]) .rt) .skip)) (.sq (.rg [.mv 9 (.i 1)]) (.sq (.rg [.mv 61 (.t 6), .mv 62 (.t 9), .cv (some 63) 21 [((.t 61), .v (kL (kL kS))), ((.t 62), .v kI)], .mv 9 (.t 63)]) (.sq (.sq (.rg [.mv 64 (.t 9), .bi 65 .lss (.t 64) (.i 0)]) (.cd (.t 65) (.sq (.rg [.mv 2 (.b false)]) .rt) .skip)) (.sq (.sq (.rg [.mv 66 (.t 9), .mv 67 (.t 8), .bi 68 .neq (.t 66) (.t 67)]) (.cd (.t 68) (.sq (.rg [.mv 2 (.b false)]) .rt) .skip)) (.sq (.rg [.mv 2 (.b true)]) .rt))))))))))))
def c43_laws_FnExactBagPaths : C := .cd (.t 42) (.sq (.rg [.mv 2 (.b false)]) .rt) .skip
def w43_laws_FnExactBagPaths : C := .kp [1, 4, 6, 42] [[1], [22]] c43_laws_FnExactBagPaths
def ir_laws_FnExactBagPaths : C := .sq (.rg [.bx 1 (.t 0) (kR 0), .mv 2 (.b false)]) (.sq (.rg [.mv 3 (.i 1048576)]) (.sq (.rg [.ld 11 (.t 1) (kR 0), .mv 12 (.t 3), .cv (some 13) 13 [((.t 11), .v (kR 0)), ((.t 12), .v kI)], .mv 3 (.t 13)]) (.sq (.sq (.rg [.mv 14 (.t 3), .bi 15 .lss (.t 14) (.i 0)]) (.cd (.t 15) (.sq (.rg [.mv 2 (.b true)]) .rt) .skip)) (.sq (.rg [.ld 16 (.t 1) (kR 0), .cv (some 17) 15 [((.t 16), .v (kR 0))], .cv (some 18) 22 [((.t 17), .v (kR 0))], .mv 4 (.t 18)]) (.sq (.rg [.ld 19 (.t 1) (kR 0), .ca (some 20) 15 [((.t 19), .v (kR 0))], .al 5 (kR 0), .st (.t 5) (.t 20) (kR 0)]) (.sq (.rg [.ld 21 (.t 5) (kR 0), .ca (some 22) 23 [((.t 21), .v (kR 0))], .mv 6 (.t 22)]) (.sq (.sq (.rg [.mv 23 (.t 6), .mv 24 (.t 4), .cv (some 25) 17 [((.t 23), .v (kL (kL kS))), ((.t 24), .v (kL (kL kS)))], .un 26 .not (.t 25)]) (.cd (.t 26) (.sq (.rg [.mv 2 (.b false)]) .rt) .skip)) (.sq (.sq (.dr [] [.ld 27 (.t 5) (kR 0), .ld 28 (.t 1) (kR 0), .cv (some 29) 15 [((.t 28), .v (kR 0))]] [.cv (some 30) 18 [((.t 27), .v (kR 0)), ((.t 29), .v (kR 0))], .un 31 .not (.t 30)]) (.cd (.t 31) (.sq (.rg [.mv 2 (.b false)]) .rt) .skip)) (.sq (.rg [.mv 7 (.i 1)]) (.sq (.rg [.ld 32 (.t 5) (kR 0), .mv 33 (.t 7), .cq (some 34) 19 [((.t 32), .q), ((.t 33), .v kI)], .mv 7 (.t 34)]) (.sq (.sq (.rg [.mv 35 (.t 7), .bi 36 .lss (.t 35) (.i 0), .mv 37 (.t 36), .g 37 false (.mv 38 (.t 6)), .g 37 false (.mv 39 (.t 4)), .g 37 false (.cv (some 40) 17 [((.t 38), .v (kL (kL kS))), ((.t 39), .v (kL (kL kS)))]), .g 37 false (.un 41 .not (.t 40)), .pk 42 (.t 37) (.b true) (.t 41)]) w43_laws_FnExactBagPaths) c48_laws_FnExactBagPaths)))))))))))
noncomputable abbrev T_laws_FnExactBagPaths (nf : Nat) : XT := [e_laws_szType nf, e_laws_toType nf, e_spec_BagPaths nf, e_impl_BagPaths nf, e_laws_eqStringSS nf, e_laws_eqType nf, e_laws_markType nf, e_laws_markStringSS nf, e_laws_heldStringSS nf]
noncomputable def m_laws_FnExactBagPaths (nf : Nat) (a : Ty) : Option (Bool) := runF (T_laws_FnExactBagPaths nf) nf [.v (kR 0)] [.t 2 (.v .bool)] ir_laws_FnExactBagPaths (a, ())
noncomputable def X_laws_FnExactBagPaths {R : Type} (nf : Nat) : C → Env → (Xt → Env → Option R) → Option R := xc (R := R) (T_laws_FnExactBagPaths nf).S nf
noncomputable def j43_laws_FnExactBagPaths (nf : Nat) (r18 : (List (List Str))) (a : Ty) (r22 : (List (List Str))) (x42_43 : Bool) : Option (Bool) := X_laws_FnExactBagPaths nf c43_laws_FnExactBagPaths ⟨[(1, .pt [1] 0), (4, .v (kL (kL kS)) r18), (6, .sl [22]), (42, .v .bool x42_43)], [([1], .box [.v kI a.kind, .v (kL kS) a.labels, .v (kL (kR 0)) a.args]), ([22], .row true false (kL kS) r22)]⟩ (qS (X_laws_FnExactBagPaths nf c48_laws_FnExactBagPaths) (KF [.t 2 (.v .bool)]))
theorem j43_laws_FnExactBagPaths_eq (nf : Nat) (r18 : (List (List Str))) (a : Ty) (r22 : (List (List Str))) (x42_43 : Bool) : j43_laws_FnExactBagPaths nf r18 a r22 x42_43 = (
  br x42_43 (
    some false) (
    cb (m_laws_markStringSS nf r22 (1 : Int)) fun r45 =>
      cb (m_laws_heldStringSS nf r45.1 (1 : Int)) fun r48 =>
        br (decide (r48 < (0 : Int))) (
          some false) (
          br (!(r48 == r45.2)) (
            some false) (
            cb (m_laws_toType nf nf (Ty.h a)) fun r55 =>
              cb (m_impl_BagPaths nf r55) fun r56 =>
                cb (m_laws_eqStringSS nf r56 r18) fun r59 =>
                  br (!r59) (
                    some false) (
                    cb (m_laws_heldStringSS nf r45.1 (1 : Int)) fun r63 =>
                      br (decide (r63 < (0 : Int))) (
                        some false) (
                        br (!(r63 == r45.2)) (
                          some false) (
                          some true))))))) := by kernel_rfl
theorem m_laws_FnExactBagPaths_eq (nf : Nat) (a : Ty) : m_laws_FnExactBagPaths nf a = (
  cb (m_laws_szType nf nf (Ty.h a) (1048576 : Int)) fun r13 =>
    br (decide (r13 < (0 : Int))) (
      some true) (
      cb (m_laws_toType nf nf (Ty.h a)) fun r17 =>
        cb (m_spec_BagPaths nf r17) fun r18 =>
          cb (m_laws_toType nf nf (Ty.h a)) fun r20 =>
            cb (m_impl_BagPaths nf (Ty.h r20)) fun r22 =>
              cb (m_laws_eqStringSS nf r22 r18) fun r25 =>
                br (!r25) (
                  some false) (
                  cb (m_laws_toType nf nf (Ty.h a)) fun r29 =>
                    cb (m_laws_eqType nf nf (Ty.h r20) r29) fun r30 =>
                      br (!r30) (
                        some false) (
                        cb (m_laws_markType nf r20.kind (1 : Int) r20.labels r20.args) fun r34 =>
                          br ((decide (r34.1 < (0 : Int))) == false) (
                            cb (m_laws_eqStringSS nf r22 r18) fun r40 =>
                              mark (j43_laws_FnExactBagPaths nf r18 a r22 (!r40))) (
                            mark (j43_laws_FnExactBagPaths nf r18 a r22 true)))))) := by
  unfold m_laws_FnExactBagPaths j43_laws_FnExactBagPaths ir_laws_FnExactBagPaths w43_laws_FnExactBagPaths c48_laws_FnExactBagPaths
  generalize c43_laws_FnExactBagPaths = x0
  revert x0
  refine id ?_
  intro x0
  kernel_rfl
noncomputable def e_laws_FnExactBagPaths (nf : Nat) : XE := eF 4 [.v (kR 0)] [.v .bool] (fun t => m_laws_FnExactBagPaths nf t.1)
theorem o_laws_FnExactBagPaths (nf : Nat) : conOK Try.prog 4 (e_laws_FnExactBagPaths nf).con := by
  have ih : XT.ok Try.prog (T_laws_FnExactBagPaths nf) := by exact ⟨o_laws_szType nf, o_laws_toType nf, o_spec_BagPaths nf, o_impl_BagPaths nf, o_laws_eqStringSS nf, o_laws_eqType nf, o_laws_markType nf, o_laws_markStringSS nf, o_laws_heldStringSS nf, trivial⟩
  refine eF_ok fun t x h => ?_
  obtain ⟨a, _⟩ := t
  exact runF_ok (N := 69) ih Try.func4 (by kernel_rfl) rfl h
end Go.Q
