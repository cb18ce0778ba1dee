/- The laws of typing. -/
import Derived.Test.YtjogpopbgmjlbaaGreatB17
import Derived.Test.YtjogpopbgmjlbaaGreatProg
import Derived.KernelRfl
set_option linter.unusedVariables false
set_option linter.unusedSimpArgs false
namespace Go.Q
open Go.Proofs
set_option linter.unusedVariables false
set_option maxRecDepth 20000
set_option maxHeartbeats 4000000
def ir_laws_FnExactCountQueries : C := .sq (.rg [.bx 2 (.t 0) (kR 5), .bx 3 (.t 1) (kR 2), .mv 4 (.b false)]) (.sq (.rg [.mv 5 (.i 1048576)]) (.sq (.rg [.ld 10 (.t 2) (kR 5), .mv 11 (.t 5), .cv (some 12) 6 [((.t 10), .v (kR 5)), ((.t 11), .v kI)], .mv 5 (.t 12)]) (.sq (.sq (.rg [.mv 13 (.t 5), .bi 14 .lss (.t 13) (.i 0)]) (.cd (.t 14) (.sq (.rg [.mv 4 (.b true)]) .rt) .skip)) (.sq (.rg [.ld 15 (.t 3) (kR 2), .mv 16 (.t 5), .cv (some 17) 7 [((.t 15), .v (kR 2)), ((.t 16), .v kI)], .mv 5 (.t 17)]) (.sq (.sq (.rg [.mv 18 (.t 5), .bi 19 .lss (.t 18) (.i 0)]) (.cd (.t 19) (.sq (.rg [.mv 4 (.b true)]) .rt) .skip)) (.sq (.dr [] [.ld 20 (.t 2) (kR 5), .cv (some 21) 9 [((.t 20), .v (kR 5))], .ld 22 (.t 3) (kR 2)] [.cv (some 23) 10 [((.t 22), .v (kR 2))], .cv (some 24) 14 [((.t 21), .v (kR 5)), ((.t 23), .v (kR 2))], .mv 6 (.t 24)]) (.sq (.rg [.ld 25 (.t 2) (kR 5), .cv (some 26) 9 [((.t 25), .v (kR 5))], .al 7 (kR 5), .st (.t 7) (.t 26) (kR 5)]) (.sq (.rg [.ld 27 (.t 3) (kR 2), .cv (some 28) 10 [((.t 27), .v (kR 2))], .al 8 (kR 2), .st (.t 8) (.t 28) (kR 2)]) (.sq (.rg [.ld 29 (.t 7) (kR 5), .ld 30 (.t 8) (kR 2), .cv (some 31) 15 [((.t 29), .v (kR 5)), ((.t 30), .v (kR 2))], .mv 9 (.t 31)]) (.sq (.sq (.rg [.mv 32 (.t 9), .mv 33 (.t 6), .bi 34 .neq (.t 32) (.t 33)]) (.cd (.t 34) (.sq (.rg [.mv 4 (.b false)]) .rt) .skip)) (.sq (.sq (.dr [] [.ld 35 (.t 7) (kR 5), .ld 36 (.t 2) (kR 5), .cv (some 37) 9 [((.t 36), .v (kR 5))]] [.cv (some 38) 12 [((.t 35), .v (kR 5)), ((.t 37), .v (kR 5))], .un 39 .not (.t 38)]) (.cd (.t 39) (.sq (.rg [.mv 4 (.b false)]) .rt) .skip)) (.sq (.sq (.dr [] [.ld 40 (.t 8) (kR 2), .ld 41 (.t 3) (kR 2), .cv (some 42) 10 [((.t 41), .v (kR 2))]] [.cv (some 43) 13 [((.t 40), .v (kR 2)), ((.t 42), .v (kR 2))], .un 44 .not (.t 43)]) (.cd (.t 44) (.sq (.rg [.mv 4 (.b false)]) .rt) .skip)) (.sq (.rg [.mv 4 (.b true)]) .rt)))))))))))))
noncomputable abbrev T_laws_FnExactCountQueries (nf : Nat) : XT := [e_laws_szSchema nf, e_laws_szTerm nf, e_laws_toSchema nf, e_laws_toTerm nf, e_spec_CountQueries nf, e_impl_CountQueries nf, e_laws_eqSchema nf, e_laws_eqTerm nf]
noncomputable def m_laws_FnExactCountQueries (nf : Nat) (a : Schema) (b : Tm) : Option (Bool) := runF (T_laws_FnExactCountQueries nf) nf [.v (kR 5), .v (kR 2)] [.t 4 (.v .bool)] ir_laws_FnExactCountQueries (a, b, ())
theorem m_laws_FnExactCountQueries_eq (nf : Nat) (a : Schema) (b : Tm) : m_laws_FnExactCountQueries nf a b = (
  cb (m_laws_szSchema nf a (1048576 : Int)) fun r12 =>
    br (decide (r12 < (0 : Int))) (
      some true) (
      cb (m_laws_szTerm nf nf (Tm.h b) r12) fun r17 =>
        br (decide (r17 < (0 : Int))) (
          some true) (
          cb (m_laws_toSchema nf a) fun r21 =>
            cb (m_laws_toTerm nf nf (Tm.h b)) fun r23 =>
              cb (m_spec_CountQueries nf r21 r23) fun r24 =>
                cb (m_laws_toSchema nf a) fun r26 =>
                  cb (m_laws_toTerm nf nf (Tm.h b)) fun r28 =>
                    cb (m_impl_CountQueries nf r26 (Tm.h r28)) fun r31 =>
                      br (!(r31 == r24)) (
                        some false) (
                        cb (m_laws_toSchema nf a) fun r37 =>
                          cb (m_laws_eqSchema nf r26 r37) fun r38 =>
                            br (!r38) (
                              some false) (
                              cb (m_laws_toTerm nf nf (Tm.h b)) fun r42 =>
                                cb (m_laws_eqTerm nf nf (Tm.h r28) r42) fun r43 =>
                                  br (!r43) (
                                    some false) (
                                    some true)))))) := by kernel_rfl
noncomputable def e_laws_FnExactCountQueries (nf : Nat) : XE := eF 4 [.v (kR 5), .v (kR 2)] [.v .bool] (fun t => m_laws_FnExactCountQueries nf t.1 t.2.1)
theorem o_laws_FnExactCountQueries (nf : Nat) : conOK Tryz.prog 4 (e_laws_FnExactCountQueries nf).con := by
  have ih : XT.ok Tryz.prog (T_laws_FnExactCountQueries nf) := by exact ⟨o_laws_szSchema nf, o_laws_szTerm nf, o_laws_toSchema nf, o_laws_toTerm nf, o_spec_CountQueries nf, o_impl_CountQueries nf, o_laws_eqSchema nf, o_laws_eqTerm nf, trivial⟩
  refine eF_ok fun t x h => ?_
  obtain ⟨a, b, _⟩ := t
  exact runF_ok (N := 45) ih Tryz.func4 (by kernel_rfl) rfl h
end Go.Q
