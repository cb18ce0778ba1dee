/- The contract of FnExactCountJoins. -/
import Derived.Test.YtdjhnobhbnjihaaF2
import Derived.Test.YtdjhnobhbnjihaaS8a
set_option linter.unusedVariables false
set_option linter.unusedSimpArgs false
namespace Go.Q
open Go.Proofs
set_option linter.unusedSimpArgs false
set_option linter.unusedVariables false
def ir8 : C := .sq (.rg [.bx 1 (.t 0) (kR 17), .mv 2 (.b false)]) (.sq (.rg [.mv 3 (.i 1048576)]) (.sq (.rg [.ld 7 (.t 1) (kR 17), .mv 8 (.t 3), .cv (some 9) 39 [((.t 7), .v (kR 17)), ((.t 8), .v kI)], .mv 3 (.t 9)]) (.sq (.sq (.rg [.mv 10 (.t 3), .bi 11 .lss (.t 10) (.i 0)]) (.cd (.t 11) (.sq (.rg [.mv 2 (.b true)]) (.rt)) (.skip))) (.sq (.rg [.ld 12 (.t 1) (kR 17), .cv (some 13) 41 [((.t 12), .v (kR 17))], .cv (some 14) 40 [((.t 13), .v (kR 17))], .mv 4 (.t 14)]) (.sq (.rg [.ld 15 (.t 1) (kR 17), .cv (some 16) 41 [((.t 15), .v (kR 17))], .al 5 (kR 17), .st (.t 5) (.t 16) (kR 17)]) (.sq (.rg [.ld 17 (.t 5) (kR 17), .cv (some 18) 42 [((.t 17), .v (kR 17))], .mv 6 (.t 18)]) (.sq (.sq (.rg [.mv 19 (.t 6), .mv 20 (.t 4), .bi 21 .neq (.t 19) (.t 20)]) (.cd (.t 21) (.sq (.rg [.mv 2 (.b false)]) (.rt)) (.skip))) (.sq (.sq (.dr [.ld 22 (.t 5) (kR 17), .ld 23 (.t 1) (kR 17), .cv (some 24) 41 [((.t 23), .v (kR 17))], .cv (some 25) 43 [((.t 22), .v (kR 17)), ((.t 24), .v (kR 17))], .un 26 .not (.t 25)] []) (.cd (.t 26) (.sq (.rg [.mv 2 (.b false)]) (.rt)) (.skip))) (.sq (.rg [.mv 2 (.b true)]) (.rt))))))))))
theorem s8 (a : Plan) : Sp Try.prog 8 [.v (kR 17) a] (.v .bool true) := by
  refine Sp_intro [(39, c39), (40, c40), (41, c41), (42, c42), (43, c43)] ⟨con2p_ok s39, con1p_ok s40, con1p_ok s41, con1p_ok s42, con2_ok s43, trivial⟩ (N := 27) (vs := [.t 2 (.v .bool)]) (c := ir8) Try.func8 (by kernel_rfl) rfl ?_
  unfold ir8 c39 c40 c41 c42 c43
  simp only [go_sem, eqb_self]
  intro h
  obtain ⟨h1, h2⟩ := sz1_nn h
  omega
#print axioms s8
end Go.Q
