/- The laws of equal numbered rows and equal rows: they answer true. -/
import Derived.Test.YtdjhnobhbnjihaaT4
import Derived.Test.YtdjhnobhbnjihaaProg
import Derived.KernelRfl
set_option linter.unusedVariables false
set_option linter.unusedSimpArgs false
namespace Go.Q
open Go.Proofs
set_option linter.unusedSimpArgs false
set_option linter.unusedVariables false
def ir6 : C := .sq (.rg [.mv 4 (.b false)]) (.sq (.rg [.mv 5 (.i 1048576)]) (.sq (.rg [.mv 10 (.t 0), .mv 11 (.t 5), .cv (some 12) 26 [((.t 10), .v (kL (kR 16))), ((.t 11), .v kI)], .mv 5 (.t 12)]) (.sq (.sq (.rg [.mv 13 (.t 5), .bi 14 .lss (.t 13) (.i 0)]) (.cd (.t 14) (.sq (.rg [.mv 4 (.b true)]) (.rt)) (.skip))) (.sq (.rg [.mv 15 (.t 1), .mv 16 (.t 5), .cv (some 17) 26 [((.t 15), .v (kL (kR 16))), ((.t 16), .v kI)], .mv 5 (.t 17)]) (.sq (.sq (.rg [.mv 18 (.t 5), .bi 19 .lss (.t 18) (.i 0)]) (.cd (.t 19) (.sq (.rg [.mv 4 (.b true)]) (.rt)) (.skip))) (.sq (.rg [.mv 20 (.t 0), .cv (some 21) 28 [((.t 20), .v (kL (kR 16)))], .mv 22 (.t 1), .cv (some 23) 28 [((.t 22), .v (kL (kR 16)))], .cv (some 24) 27 [((.t 21), .v (kL (kR 16))), ((.t 23), .v (kL (kR 16)))], .mv 6 (.t 24)]) (.sq (.rg [.mv 25 (.t 0), .cv (some 26) 28 [((.t 25), .v (kL (kR 16)))], .mv 7 (.t 26)]) (.sq (.rg [.mv 27 (.t 1), .cv (some 28) 28 [((.t 27), .v (kL (kR 16)))], .mv 8 (.t 28)]) (.sq (.rg [.mv 29 (.t 7), .mv 30 (.t 8), .cv (some 31) 29 [((.t 29), .v (kL (kR 16))), ((.t 30), .v (kL (kR 16)))], .mv 9 (.t 31)]) (.sq (.sq (.rg [.mv 32 (.t 9), .mv 33 (.t 6), .be 34 true (.t 32) (.t 33)]) (.cd (.t 34) (.sq (.rg [.mv 4 (.b false)]) (.rt)) (.skip))) (.sq (.sq (.rg [.mv 35 (.t 7), .mv 36 (.t 0), .cv (some 37) 28 [((.t 36), .v (kL (kR 16)))], .cv (some 38) 30 [((.t 35), .v (kL (kR 16))), ((.t 37), .v (kL (kR 16)))], .un 39 .not (.t 38)]) (.cd (.t 39) (.sq (.rg [.mv 4 (.b false)]) (.rt)) (.skip))) (.sq (.sq (.rg [.mv 40 (.t 8), .mv 41 (.t 1), .cv (some 42) 28 [((.t 41), .v (kL (kR 16)))], .cv (some 43) 30 [((.t 40), .v (kL (kR 16))), ((.t 42), .v (kL (kR 16)))], .un 44 .not (.t 43)]) (.cd (.t 44) (.sq (.rg [.mv 4 (.b false)]) (.rt)) (.skip))) (.sq (.rg [.mv 4 (.b true)]) (.rt))))))))))))))
def ir10 : C := .sq (.rg [.mv 4 (.b false)]) (.sq (.rg [.mv 5 (.i 1048576)]) (.sq (.rg [.mv 10 (.t 0), .mv 11 (.t 5), .cv (some 12) 46 [((.t 10), .v (kL (kR 15))), ((.t 11), .v kI)], .mv 5 (.t 12)]) (.sq (.sq (.rg [.mv 13 (.t 5), .bi 14 .lss (.t 13) (.i 0)]) (.cd (.t 14) (.sq (.rg [.mv 4 (.b true)]) (.rt)) (.skip))) (.sq (.rg [.mv 15 (.t 1), .mv 16 (.t 5), .cv (some 17) 46 [((.t 15), .v (kL (kR 15))), ((.t 16), .v kI)], .mv 5 (.t 17)]) (.sq (.sq (.rg [.mv 18 (.t 5), .bi 19 .lss (.t 18) (.i 0)]) (.cd (.t 19) (.sq (.rg [.mv 4 (.b true)]) (.rt)) (.skip))) (.sq (.rg [.mv 20 (.t 0), .cv (some 21) 48 [((.t 20), .v (kL (kR 15)))], .mv 22 (.t 1), .cv (some 23) 48 [((.t 22), .v (kL (kR 15)))], .cv (some 24) 47 [((.t 21), .v (kL (kR 15))), ((.t 23), .v (kL (kR 15)))], .mv 6 (.t 24)]) (.sq (.rg [.mv 25 (.t 0), .cv (some 26) 48 [((.t 25), .v (kL (kR 15)))], .mv 7 (.t 26)]) (.sq (.rg [.mv 27 (.t 1), .cv (some 28) 48 [((.t 27), .v (kL (kR 15)))], .mv 8 (.t 28)]) (.sq (.rg [.mv 29 (.t 7), .mv 30 (.t 8), .cv (some 31) 49 [((.t 29), .v (kL (kR 15))), ((.t 30), .v (kL (kR 15)))], .mv 9 (.t 31)]) (.sq (.sq (.rg [.mv 32 (.t 9), .mv 33 (.t 6), .be 34 true (.t 32) (.t 33)]) (.cd (.t 34) (.sq (.rg [.mv 4 (.b false)]) (.rt)) (.skip))) (.sq (.sq (.rg [.mv 35 (.t 7), .mv 36 (.t 0), .cv (some 37) 48 [((.t 36), .v (kL (kR 15)))], .cv (some 38) 50 [((.t 35), .v (kL (kR 15))), ((.t 37), .v (kL (kR 15)))], .un 39 .not (.t 38)]) (.cd (.t 39) (.sq (.rg [.mv 4 (.b false)]) (.rt)) (.skip))) (.sq (.sq (.rg [.mv 40 (.t 8), .mv 41 (.t 1), .cv (some 42) 48 [((.t 41), .v (kL (kR 15)))], .cv (some 43) 50 [((.t 40), .v (kL (kR 15))), ((.t 42), .v (kL (kR 15)))], .un 44 .not (.t 43)]) (.cd (.t 44) (.sq (.rg [.mv 4 (.b false)]) (.rt)) (.skip))) (.sq (.rg [.mv 4 (.b true)]) (.rt))))))))))))))
theorem s6 (a b : List NRow) : Sp Try.prog 6 [.v (kL (kR 16)) a, .v (kL (kR 16)) b] (.v .bool true) := by
  refine Sp_intro [(26, c26), (27, c27), (28, c28), (29, c29), (30, c30)] ⟨con2p_ok s26, con2_ok s27, con1p_ok s28, con2_ok s29, con2_ok s30, trivial⟩ (N := 45) (vs := [.t 4 (.v .bool)]) (c := ir6) Try.func6 (by kernel_rfl) rfl ?_
  unfold ir6
  simp only [go_sem, c26, c27, c28, c29, c30, eqb_self]
  intro h
  obtain ⟨h1, h2⟩ := sz1_nn h
  refine ⟨by omega, fun h3 => ?_⟩
  obtain ⟨h4, h5⟩ := sz1_nn h3
  omega
theorem s10 (a b : List FRow) : Sp Try.prog 10 [.v (kL (kR 15)) a, .v (kL (kR 15)) b] (.v .bool true) := by
  refine Sp_intro [(46, c46), (47, c47), (48, c48), (49, c49), (50, c50)] ⟨con2p_ok s46, con2_ok s47, con1p_ok s48, con2_ok s49, con2_ok s50, trivial⟩ (N := 45) (vs := [.t 4 (.v .bool)]) (c := ir10) Try.func10 (by kernel_rfl) rfl ?_
  unfold ir10
  simp only [go_sem, c46, c47, c48, c49, c50, eqb_self]
  intro h
  obtain ⟨h1, h2⟩ := sz1_nn h
  refine ⟨by omega, fun h3 => ?_⟩
  obtain ⟨h4, h5⟩ := sz1_nn h3
  omega
end Go.Q
