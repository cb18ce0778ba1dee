/- Equal flat queries. -/
import Derived.Test.YtdjhnobhbnjihaaT6
import Derived.Test.YtdjhnobhbnjihaaProg
import Derived.KernelRfl
set_option linter.unusedVariables false
set_option linter.unusedSimpArgs false
namespace Go.Q
open Go.Proofs
set_option linter.unusedSimpArgs false
set_option linter.unusedVariables false
def ir142 : C := .sq (.rg [.mv 4 (.b false)]) (.sq (.sq (.rg [.mv 6 (.t 0), .ln 7 false (.t 6), .mv 8 (.t 1), .ln 9 false (.t 8), .bi 10 .neq (.t 7) (.t 9)]) (.cd (.t 10) (.sq (.rg [.mv 4 (.b false)]) (.rt)) (.skip))) (.sq (.sq (.rg [.mv 11 (.t 0), .ln 12 false (.t 11), .mv 13 (.i 0)]) (.bk 0 (.lp (.sq (.rg [.bi 14 .lss (.t 13) (.t 12)]) (.sq (.cd (.t 14) (.skip) (.ex 0)) (.sq (.bk 1 (.sq (.rg [.mv 15 (.t 13), .mv 5 (.t 15)]) (.sq (.dr [] [.mv 16 (.t 0), .mv 17 (.t 5), .ia 18 (.t 16) (.t 17) (kR 3), .ld 19 (.t 18) (kR 3), .mv 20 (.t 1), .mv 21 (.t 5), .ia 22 (.t 20) (.t 21) (kR 3), .ld 23 (.t 22) (kR 3)] [.ge 24 true (.t 19) (.t 23)]) (.cd (.t 24) (.sq (.rg [.mv 4 (.b false)]) (.rt)) (.skip))))) (.rg [.bi 25 .add (.t 13) (.i 1), .mv 13 (.t 25)]))))))) (.sq (.rg [.mv 4 (.b true)]) (.rt))))
def ir140 : C := .sq (.rg [.mv 4 (.b false)]) (.sq (.sq (.rg [.mv 6 (.t 0), .ln 7 false (.t 6), .mv 8 (.t 1), .ln 9 false (.t 8), .bi 10 .neq (.t 7) (.t 9)]) (.cd (.t 10) (.sq (.rg [.mv 4 (.b false)]) (.rt)) (.skip))) (.sq (.sq (.rg [.mv 5 (.i 0)]) (.bk 0 (.lp (.sq (.sq (.rg [.mv 11 (.t 5), .mv 12 (.t 0), .ln 13 false (.t 12), .bi 14 .lss (.t 11) (.t 13)]) (.cd (.t 14) (.skip) (.ex 0))) (.sq (.bk 1 (.sq (.dr [] [.mv 17 (.t 0), .mv 18 (.t 5), .ia 19 (.t 17) (.t 18) (kR 3), .ld 20 (.t 19) (kR 3), .mv 21 (.t 1), .mv 22 (.t 5), .ia 23 (.t 21) (.t 22) (kR 3), .ld 24 (.t 23) (kR 3)] [.ge 25 true (.t 20) (.t 24)]) (.cd (.t 25) (.sq (.rg [.mv 4 (.b false)]) (.rt)) (.skip)))) (.rg [.mv 15 (.t 5), .bi 16 .add (.t 15) (.i 1), .mv 5 (.t 16)])))))) (.sq (.rg [.mv 4 (.b true)]) (.rt))))
def ir113 : C := .sq (.rg [.bx 2 (.t 0) (kR 12), .bx 3 (.t 1) (kR 12), .mv 4 (.b false)]) (.sq (.rg [.fa 5 (.t 2) 12 0 0, .ld 6 (.t 5) kI, .fa 7 (.t 3) 12 0 0, .ld 8 (.t 7) kI, .bi 9 .eql (.t 6) (.t 8), .mv 10 (.t 9), .g 10 true (.fa 11 (.t 2) 12 1 1), .g 10 true (.ld 12 (.t 11) kI), .g 10 true (.fa 13 (.t 3) 12 1 1), .g 10 true (.ld 14 (.t 13) kI), .g 10 true (.bi 15 .eql (.t 12) (.t 14)), .pk 16 (.t 10) (.t 15) (.b false), .mv 17 (.t 16), .g 17 true (.fa 18 (.t 2) 12 2 2), .g 17 true (.ld 19 (.t 18) kI), .g 17 true (.fa 20 (.t 3) 12 2 2), .g 17 true (.ld 21 (.t 20) kI), .g 17 true (.bi 22 .eql (.t 19) (.t 21)), .pk 23 (.t 17) (.t 22) (.b false), .mv 24 (.t 23), .g 24 true (.fa 25 (.t 2) 12 3 3), .g 24 true (.ld 26 (.t 25) (kL (kR 3))), .g 24 true (.fa 27 (.t 3) 12 3 3), .g 24 true (.ld 28 (.t 27) (kL (kR 3))), .g 24 true (.cv (some 29) 142 [((.t 26), .v (kL (kR 3))), ((.t 28), .v (kL (kR 3)))]), .pk 30 (.t 24) (.t 29) (.b false), .mv 31 (.t 30), .g 31 true (.fa 32 (.t 2) 12 4 4), .g 31 true (.ld 33 (.t 32) (kR 2)), .g 31 true (.fa 34 (.t 3) 12 4 4), .g 31 true (.ld 35 (.t 34) (kR 2)), .g 31 true (.cv (some 36) 101 [((.t 33), .v (kR 2)), ((.t 35), .v (kR 2))]), .pk 37 (.t 31) (.t 36) (.b false), .mv 38 (.t 37), .g 38 true (.fa 39 (.t 2) 12 5 12), .g 38 true (.ld 40 (.t 39) (kL (kR 2))), .g 38 true (.fa 41 (.t 3) 12 5 12), .g 38 true (.ld 42 (.t 41) (kL (kR 2))), .g 38 true (.cv (some 43) 102 [((.t 40), .v (kL (kR 2))), ((.t 42), .v (kL (kR 2))), ((.f 101), .fn)]), .pk 44 (.t 38) (.t 43) (.b false), .mv 4 (.t 44)]) (.rt))
def ir112 : C := .sq (.rg [.mv 6 (.b false)]) (.sq (.sq (.rg [.mv 10 (.t 0), .ln 11 false (.t 10), .mv 12 (.t 1), .ln 13 false (.t 12), .bi 14 .neq (.t 11) (.t 13)]) (.cd (.t 14) (.sq (.rg [.mv 6 (.b false)]) (.rt)) (.skip))) (.sq (.sq (.rg [.mv 15 (.t 0), .ln 16 false (.t 15), .mv 17 (.i 0)]) (.bk 0 (.lp (.sq (.rg [.bi 18 .lss (.t 17) (.t 16)]) (.sq (.cd (.t 18) (.skip) (.ex 0)) (.sq (.bk 1 (.sq (.rg [.mv 19 (.t 17), .ia 20 (.t 15) (.t 17) (kR 12), .ld 21 (.t 20) (kR 12), .al 8 (kR 12), .mv 7 (.t 19), .st (.t 8) (.t 21) (kR 12)]) (.sq (.rg [.mv 22 (.t 1), .mv 23 (.t 7), .ia 24 (.t 22) (.t 23) (kR 12), .ld 25 (.t 24) (kR 12), .al 9 (kR 12), .st (.t 9) (.t 25) (kR 12)]) (.sq (.rg [.mv 26 (.t 2), .ld 27 (.t 8) (kR 12), .ld 28 (.t 9) (kR 12), .cf (some 29) (.t 26) [((.t 27), .v (kR 12)), ((.t 28), .v (kR 12))], .un 30 .not (.t 29)]) (.cd (.t 30) (.sq (.rg [.mv 6 (.b false)]) (.rt)) (.skip)))))) (.rg [.bi 31 .add (.t 17) (.i 1), .mv 17 (.t 31)]))))))) (.sq (.rg [.mv 6 (.b true)]) (.rt))))
def ir54 : C := .sq (.rg [.bx 2 (.t 0) (kR 13), .bx 3 (.t 1) (kR 13), .mv 4 (.b false)]) (.sq (.rg [.fa 5 (.t 2) 13 0 0, .ld 6 (.t 5) (kL kS), .fa 7 (.t 3) 13 0 0, .ld 8 (.t 7) (kL kS), .cv (some 9) 67 [((.t 6), .v (kL kS)), ((.t 8), .v (kL kS))], .mv 10 (.t 9), .g 10 true (.fa 11 (.t 2) 13 1 1), .g 10 true (.ld 12 (.t 11) (kL (kR 12))), .g 10 true (.fa 13 (.t 3) 13 1 1), .g 10 true (.ld 14 (.t 13) (kL (kR 12))), .g 10 true (.cv (some 15) 112 [((.t 12), .v (kL (kR 12))), ((.t 14), .v (kL (kR 12))), ((.f 113), .fn)]), .pk 16 (.t 10) (.t 15) (.b false), .mv 4 (.t 16)]) (.rt))
def ir115 : C := .sq (.rg [.mv 6 (.b false)]) (.sq (.sq (.rg [.mv 10 (.t 0), .ln 11 false (.t 10), .mv 12 (.t 1), .ln 13 false (.t 12), .bi 14 .neq (.t 11) (.t 13)]) (.cd (.t 14) (.sq (.rg [.mv 6 (.b false)]) (.rt)) (.skip))) (.sq (.sq (.rg [.mv 15 (.t 0), .ln 16 false (.t 15), .mv 17 (.i 0)]) (.bk 0 (.lp (.sq (.rg [.bi 18 .lss (.t 17) (.t 16)]) (.sq (.cd (.t 18) (.skip) (.ex 0)) (.sq (.bk 1 (.sq (.rg [.mv 19 (.t 17), .ia 20 (.t 15) (.t 17) (kR 13), .ld 21 (.t 20) (kR 13), .al 8 (kR 13), .mv 7 (.t 19), .st (.t 8) (.t 21) (kR 13)]) (.sq (.rg [.mv 22 (.t 1), .mv 23 (.t 7), .ia 24 (.t 22) (.t 23) (kR 13), .ld 25 (.t 24) (kR 13), .al 9 (kR 13), .st (.t 9) (.t 25) (kR 13)]) (.sq (.rg [.mv 26 (.t 2), .ld 27 (.t 8) (kR 13), .ld 28 (.t 9) (kR 13), .cf (some 29) (.t 26) [((.t 27), .v (kR 13)), ((.t 28), .v (kR 13))], .un 30 .not (.t 29)]) (.cd (.t 30) (.sq (.rg [.mv 6 (.b false)]) (.rt)) (.skip)))))) (.rg [.bi 31 .add (.t 17) (.i 1), .mv 17 (.t 31)]))))))) (.sq (.rg [.mv 6 (.b true)]) (.rt))))
def ir59 : C := .sq (.rg [.mv 4 (.b false)]) (.sq (.rg [.mv 5 (.t 0), .mv 6 (.t 1), .cv (some 7) 115 [((.t 5), .v (kL (kR 13))), ((.t 6), .v (kL (kR 13))), ((.f 54), .fn)], .mv 4 (.t 7)]) (.rt))
def ir110 : C := .sq (.rg [.bx 2 (.t 0) (kR 12), .bx 3 (.t 1) (kR 12), .mv 4 (.b false)]) (.sq (.sq (.rg [.fa 6 (.t 2) 12 0 0, .ld 7 (.t 6) kI, .fa 8 (.t 3) 12 0 0, .ld 9 (.t 8) kI, .bi 10 .neq (.t 7) (.t 9), .mv 11 (.t 10), .g 11 false (.fa 12 (.t 2) 12 1 1), .g 11 false (.ld 13 (.t 12) kI), .g 11 false (.fa 14 (.t 3) 12 1 1), .g 11 false (.ld 15 (.t 14) kI), .g 11 false (.bi 16 .neq (.t 13) (.t 15)), .pk 17 (.t 11) (.b true) (.t 16), .mv 18 (.t 17), .g 18 false (.fa 19 (.t 2) 12 2 2), .g 18 false (.ld 20 (.t 19) kI), .g 18 false (.fa 21 (.t 3) 12 2 2), .g 18 false (.ld 22 (.t 21) kI), .g 18 false (.bi 23 .neq (.t 20) (.t 22)), .pk 24 (.t 18) (.b true) (.t 23), .mv 25 (.t 24), .g 25 false (.fa 26 (.t 2) 12 3 3), .g 25 false (.ld 27 (.t 26) (kL (kR 3))), .g 25 false (.fa 28 (.t 3) 12 3 3), .g 25 false (.ld 29 (.t 28) (kL (kR 3))), .g 25 false (.cv (some 30) 140 [((.t 27), .v (kL (kR 3))), ((.t 29), .v (kL (kR 3)))]), .g 25 false (.un 31 .not (.t 30)), .pk 32 (.t 25) (.b true) (.t 31), .mv 33 (.t 32), .g 33 false (.fa 34 (.t 2) 12 4 4), .g 33 false (.ld 35 (.t 34) (kR 2)), .g 33 false (.fa 36 (.t 3) 12 4 4), .g 33 false (.ld 37 (.t 36) (kR 2)), .g 33 false (.cv (some 38) 100 [((.t 35), .v (kR 2)), ((.t 37), .v (kR 2))]), .g 33 false (.un 39 .not (.t 38)), .pk 40 (.t 33) (.b true) (.t 39), .mv 41 (.t 40), .g 41 false (.fa 42 (.t 2) 12 5 12), .g 41 false (.ld 43 (.t 42) (kL (kR 2))), .g 41 false (.ln 44 false (.t 43)), .g 41 false (.fa 45 (.t 3) 12 5 12), .g 41 false (.ld 46 (.t 45) (kL (kR 2))), .g 41 false (.ln 47 false (.t 46)), .g 41 false (.bi 48 .neq (.t 44) (.t 47)), .pk 49 (.t 41) (.b true) (.t 48)]) (.cd (.t 49) (.sq (.rg [.mv 4 (.b false)]) (.rt)) (.skip))) (.sq (.sq (.rg [.mv 5 (.i 0)]) (.bk 0 (.lp (.sq (.sq (.rg [.mv 50 (.t 5), .fa 51 (.t 2) 12 5 12, .ld 52 (.t 51) (kL (kR 2)), .ln 53 false (.t 52), .bi 54 .lss (.t 50) (.t 53)]) (.cd (.t 54) (.skip) (.ex 0))) (.sq (.bk 1 (.sq (.dr [] [.fa 57 (.t 2) 12 5 12, .ld 58 (.t 57) (kL (kR 2)), .mv 59 (.t 5), .ia 60 (.t 58) (.t 59) (kR 2), .ld 61 (.t 60) (kR 2), .fa 62 (.t 3) 12 5 12, .ld 63 (.t 62) (kL (kR 2)), .mv 64 (.t 5), .ia 65 (.t 63) (.t 64) (kR 2), .ld 66 (.t 65) (kR 2)] [.cv (some 67) 100 [((.t 61), .v (kR 2)), ((.t 66), .v (kR 2))], .un 68 .not (.t 67)]) (.cd (.t 68) (.sq (.rg [.mv 4 (.b false)]) (.rt)) (.skip)))) (.rg [.mv 55 (.t 5), .bi 56 .add (.t 55) (.i 1), .mv 5 (.t 56)])))))) (.sq (.rg [.mv 4 (.b true)]) (.rt))))
def ir52 : C := .sq (.rg [.bx 2 (.t 0) (kR 13), .bx 3 (.t 1) (kR 13), .mv 4 (.b false)]) (.sq (.sq (.rg [.fa 6 (.t 2) 13 0 0, .ld 7 (.t 6) (kL kS), .fa 8 (.t 3) 13 0 0, .ld 9 (.t 8) (kL kS), .cv (some 10) 15 [((.t 7), .v (kL kS)), ((.t 9), .v (kL kS))], .un 11 .not (.t 10), .mv 12 (.t 11), .g 12 false (.fa 13 (.t 2) 13 1 1), .g 12 false (.ld 14 (.t 13) (kL (kR 12))), .g 12 false (.ln 15 false (.t 14)), .g 12 false (.fa 16 (.t 3) 13 1 1), .g 12 false (.ld 17 (.t 16) (kL (kR 12))), .g 12 false (.ln 18 false (.t 17)), .g 12 false (.bi 19 .neq (.t 15) (.t 18)), .pk 20 (.t 12) (.b true) (.t 19)]) (.cd (.t 20) (.sq (.rg [.mv 4 (.b false)]) (.rt)) (.skip))) (.sq (.sq (.rg [.mv 5 (.i 0)]) (.bk 0 (.lp (.sq (.sq (.rg [.mv 21 (.t 5), .fa 22 (.t 2) 13 1 1, .ld 23 (.t 22) (kL (kR 12)), .ln 24 false (.t 23), .bi 25 .lss (.t 21) (.t 24)]) (.cd (.t 25) (.skip) (.ex 0))) (.sq (.bk 1 (.sq (.dr [] [.fa 28 (.t 2) 13 1 1, .ld 29 (.t 28) (kL (kR 12)), .mv 30 (.t 5), .ia 31 (.t 29) (.t 30) (kR 12), .ld 32 (.t 31) (kR 12), .fa 33 (.t 3) 13 1 1, .ld 34 (.t 33) (kL (kR 12)), .mv 35 (.t 5), .ia 36 (.t 34) (.t 35) (kR 12), .ld 37 (.t 36) (kR 12)] [.cv (some 38) 110 [((.t 32), .v (kR 12)), ((.t 37), .v (kR 12))], .un 39 .not (.t 38)]) (.cd (.t 39) (.sq (.rg [.mv 4 (.b false)]) (.rt)) (.skip)))) (.rg [.mv 26 (.t 5), .bi 27 .add (.t 26) (.i 1), .mv 5 (.t 27)])))))) (.sq (.rg [.mv 4 (.b true)]) (.rt))))
def ir57 : C := .sq (.rg [.mv 4 (.b false)]) (.sq (.sq (.rg [.mv 6 (.t 0), .ln 7 false (.t 6), .mv 8 (.t 1), .ln 9 false (.t 8), .bi 10 .neq (.t 7) (.t 9)]) (.cd (.t 10) (.sq (.rg [.mv 4 (.b false)]) (.rt)) (.skip))) (.sq (.sq (.rg [.mv 5 (.i 0)]) (.bk 0 (.lp (.sq (.sq (.rg [.mv 11 (.t 5), .mv 12 (.t 0), .ln 13 false (.t 12), .bi 14 .lss (.t 11) (.t 13)]) (.cd (.t 14) (.skip) (.ex 0))) (.sq (.bk 1 (.sq (.dr [] [.mv 17 (.t 0), .mv 18 (.t 5), .ia 19 (.t 17) (.t 18) (kR 13), .ld 20 (.t 19) (kR 13), .mv 21 (.t 1), .mv 22 (.t 5), .ia 23 (.t 21) (.t 22) (kR 13), .ld 24 (.t 23) (kR 13)] [.cv (some 25) 52 [((.t 20), .v (kR 13)), ((.t 24), .v (kR 13))], .un 26 .not (.t 25)]) (.cd (.t 26) (.sq (.rg [.mv 4 (.b false)]) (.rt)) (.skip)))) (.rg [.mv 15 (.t 5), .bi 16 .add (.t 15) (.i 1), .mv 5 (.t 16)])))))) (.sq (.rg [.mv 4 (.b true)]) (.rt))))
def ir11 : C := .sq (.rg [.bx 2 (.t 0) (kR 13), .bx 3 (.t 1) (kR 13), .mv 4 (.b false)]) (.sq (.rg [.mv 5 (.i 1048576)]) (.sq (.rg [.ld 10 (.t 2) (kR 13), .mv 11 (.t 5), .cv (some 12) 51 [((.t 10), .v (kR 13)), ((.t 11), .v kI)], .mv 5 (.t 12)]) (.sq (.sq (.rg [.mv 13 (.t 5), .bi 14 .lss (.t 13) (.i 0)]) (.cd (.t 14) (.sq (.rg [.mv 4 (.b true)]) (.rt)) (.skip))) (.sq (.rg [.ld 15 (.t 3) (kR 13), .mv 16 (.t 5), .cv (some 17) 51 [((.t 15), .v (kR 13)), ((.t 16), .v kI)], .mv 5 (.t 17)]) (.sq (.sq (.rg [.mv 18 (.t 5), .bi 19 .lss (.t 18) (.i 0)]) (.cd (.t 19) (.sq (.rg [.mv 4 (.b true)]) (.rt)) (.skip))) (.sq (.dr [] [.ld 20 (.t 2) (kR 13), .cv (some 21) 53 [((.t 20), .v (kR 13))], .ld 22 (.t 3) (kR 13)] [.cv (some 23) 53 [((.t 22), .v (kR 13))], .cv (some 24) 52 [((.t 21), .v (kR 13)), ((.t 23), .v (kR 13))], .mv 6 (.t 24)]) (.sq (.rg [.ld 25 (.t 2) (kR 13), .cv (some 26) 53 [((.t 25), .v (kR 13))], .al 7 (kR 13), .st (.t 7) (.t 26) (kR 13)]) (.sq (.rg [.ld 27 (.t 3) (kR 13), .cv (some 28) 53 [((.t 27), .v (kR 13))], .al 8 (kR 13), .st (.t 8) (.t 28) (kR 13)]) (.sq (.rg [.ld 29 (.t 7) (kR 13), .ld 30 (.t 8) (kR 13), .cv (some 31) 54 [((.t 29), .v (kR 13)), ((.t 30), .v (kR 13))], .mv 9 (.t 31)]) (.sq (.sq (.rg [.mv 32 (.t 9), .mv 33 (.t 6), .be 34 true (.t 32) (.t 33)]) (.cd (.t 34) (.sq (.rg [.mv 4 (.b false)]) (.rt)) (.skip))) (.sq (.sq (.dr [] [.ld 35 (.t 7) (kR 13), .ld 36 (.t 2) (kR 13), .cv (some 37) 53 [((.t 36), .v (kR 13))]] [.cv (some 38) 55 [((.t 35), .v (kR 13)), ((.t 37), .v (kR 13))], .un 39 .not (.t 38)]) (.cd (.t 39) (.sq (.rg [.mv 4 (.b false)]) (.rt)) (.skip))) (.sq (.sq (.dr [] [.ld 40 (.t 8) (kR 13), .ld 41 (.t 3) (kR 13), .cv (some 42) 53 [((.t 41), .v (kR 13))]] [.cv (some 43) 55 [((.t 40), .v (kR 13)), ((.t 42), .v (kR 13))], .un 44 .not (.t 43)]) (.cd (.t 44) (.sq (.rg [.mv 4 (.b false)]) (.rt)) (.skip))) (.sq (.rg [.mv 4 (.b true)]) (.rt))))))))))))))
def ir12 : C := .sq (.rg [.mv 4 (.b false)]) (.sq (.rg [.mv 5 (.i 1048576)]) (.sq (.rg [.mv 10 (.t 0), .mv 11 (.t 5), .cv (some 12) 56 [((.t 10), .v (kL (kR 13))), ((.t 11), .v kI)], .mv 5 (.t 12)]) (.sq (.sq (.rg [.mv 13 (.t 5), .bi 14 .lss (.t 13) (.i 0)]) (.cd (.t 14) (.sq (.rg [.mv 4 (.b true)]) (.rt)) (.skip))) (.sq (.rg [.mv 15 (.t 1), .mv 16 (.t 5), .cv (some 17) 56 [((.t 15), .v (kL (kR 13))), ((.t 16), .v kI)], .mv 5 (.t 17)]) (.sq (.sq (.rg [.mv 18 (.t 5), .bi 19 .lss (.t 18) (.i 0)]) (.cd (.t 19) (.sq (.rg [.mv 4 (.b true)]) (.rt)) (.skip))) (.sq (.rg [.mv 20 (.t 0), .cv (some 21) 58 [((.t 20), .v (kL (kR 13)))], .mv 22 (.t 1), .cv (some 23) 58 [((.t 22), .v (kL (kR 13)))], .cv (some 24) 57 [((.t 21), .v (kL (kR 13))), ((.t 23), .v (kL (kR 13)))], .mv 6 (.t 24)]) (.sq (.rg [.mv 25 (.t 0), .cv (some 26) 58 [((.t 25), .v (kL (kR 13)))], .mv 7 (.t 26)]) (.sq (.rg [.mv 27 (.t 1), .cv (some 28) 58 [((.t 27), .v (kL (kR 13)))], .mv 8 (.t 28)]) (.sq (.rg [.mv 29 (.t 7), .mv 30 (.t 8), .cv (some 31) 59 [((.t 29), .v (kL (kR 13))), ((.t 30), .v (kL (kR 13)))], .mv 9 (.t 31)]) (.sq (.sq (.rg [.mv 32 (.t 9), .mv 33 (.t 6), .be 34 true (.t 32) (.t 33)]) (.cd (.t 34) (.sq (.rg [.mv 4 (.b false)]) (.rt)) (.skip))) (.sq (.sq (.rg [.mv 35 (.t 7), .mv 36 (.t 0), .cv (some 37) 58 [((.t 36), .v (kL (kR 13)))], .cv (some 38) 60 [((.t 35), .v (kL (kR 13))), ((.t 37), .v (kL (kR 13)))], .un 39 .not (.t 38)]) (.cd (.t 39) (.sq (.rg [.mv 4 (.b false)]) (.rt)) (.skip))) (.sq (.sq (.rg [.mv 40 (.t 8), .mv 41 (.t 1), .cv (some 42) 58 [((.t 41), .v (kL (kR 13)))], .cv (some 43) 60 [((.t 40), .v (kL (kR 13))), ((.t 42), .v (kL (kR 13)))], .un 44 .not (.t 43)]) (.cd (.t 44) (.sq (.rg [.mv 4 (.b false)]) (.rt)) (.skip))) (.sq (.rg [.mv 4 (.b true)]) (.rt))))))))))))))
noncomputable def c142 : List SA → Option RA := con2 (kL (kR 3)) (kL (kR 3)) fun (a b : List Gen) => .v .bool (eqb a b)
theorem s142 (a b : List Gen) : Sp Try.prog 142 [.v (kL (kR 3)) a, .v (kL (kR 3)) b] (.v .bool (eqb a b)) := by
  refine Sp_intro [] trivial (N := 26) (vs := [.t 4 (.v .bool)]) (c := ir142) Try.func142 (by kernel_rfl) rfl ?_
  unfold ir142
  simp only [go_sem]
  intro _ _
  refine ⟨fun h e => h (by rw [e]), fun h3 _ => ?_⟩
  refine LP_intro (X := ⟨Try.prog, 26, []⟩) trivial [0, 1, 4, 12, 13] [] (fun i : Nat => ⟨[(0, .v (kL (kR 3)) a), (1, .v (kL (kR 3)) b), (4, .v .bool false), (12, .v kI (a.length : Int)), (13, .v kI (i : Int))], []⟩) (fun i => i ≤ a.length ∧ ∀ j : Nat, j < i → gt a (j : Int) (Ki.z (kR 3)) = gt b (j : Int) (Ki.z (kR 3))) (fun i => a.length - i) ⟨0, ⟨Nat.zero_le _, fun j hj => absurd hj (Nat.not_lt_zero j)⟩, ?_⟩ (fun i hi => ?_)
  · simp only [go_sem]
    rfl
  obtain ⟨hi1, hi2⟩ := hi
  simp only [go_sem]
  refine ⟨fun hlt => ⟨hlt, by omega, fun hne h => (by rw [h] at hne; simp at hne), fun he => ⟨i + 1, ⟨hlt, below_succ hi2 ((ext_3 _ _).2 he)⟩, by dsimp only; omega, ?_⟩⟩, fun hge => row_eq (by omega) fun j hj => hi2 j (by omega)⟩
  simp only [go_sem]
  rw [wrap_nat (by omega)]
noncomputable def c140 : List SA → Option RA := con2 (kL (kR 3)) (kL (kR 3)) fun (a b : List Gen) => .v .bool (eqb a b)
theorem s140 (a b : List Gen) : Sp Try.prog 140 [.v (kL (kR 3)) a, .v (kL (kR 3)) b] (.v .bool (eqb a b)) := by
  refine Sp_intro [] trivial (N := 26) (vs := [.t 4 (.v .bool)]) (c := ir140) Try.func140 (by kernel_rfl) rfl ?_
  unfold ir140
  simp only [go_sem]
  intro _ _
  refine ⟨fun h e => h (by rw [e]), fun h3 => ?_⟩
  refine LP_intro (X := ⟨Try.prog, 26, []⟩) trivial [0, 1, 4, 5] [] (fun i : Nat => ⟨[(0, .v (kL (kR 3)) a), (1, .v (kL (kR 3)) b), (4, .v .bool false), (5, .v kI (i : Int))], []⟩) (fun i => i ≤ a.length ∧ ∀ j : Nat, j < i → gt a (j : Int) (Ki.z (kR 3)) = gt b (j : Int) (Ki.z (kR 3))) (fun i => a.length - i) ⟨0, ⟨Nat.zero_le _, fun j hj => absurd hj (Nat.not_lt_zero j)⟩, ?_⟩ (fun i hi => ?_)
  · simp only [go_sem]
    rfl
  obtain ⟨hi1, hi2⟩ := hi
  simp only [go_sem]
  intro _
  refine ⟨fun hlt => ⟨hlt, by omega, fun hne h => (by rw [h] at hne; simp at hne), fun he => ⟨i + 1, ⟨hlt, below_succ hi2 ((ext_3 _ _).2 he)⟩, by dsimp only; omega, ?_⟩⟩, fun hge => row_eq (by omega) fun j hj => hi2 j (by omega)⟩
  simp only [go_sem]
  rw [wrap_nat (by omega)]

noncomputable def c113 : List SA → Option RA := con2 (kR 12) (kR 12) fun (a b : FComp) => .v .bool (eqb a b)
set_option maxRecDepth 100000 in
theorem s113 (a b : FComp) : Sp Try.prog 113 [.v (kR 12) a, .v (kR 12) b] (.v .bool (eqb a b)) := by
  refine Sp_intro [(142, c142), (101, c101), (102, c102)] ⟨con2_ok s142, con2_ok s101, con2f_ok s102, trivial⟩ (N := 45) (vs := [.t 4 (.v .bool)]) (c := ir113) Try.func113 (by kernel_rfl) rfl ?_
  unfold ir113
  simp only [go_sem, c142, c101, c102, ext_12]
  all_goals simp +contextual
  all_goals (intros; refine eqb_congr ?_; rw [ext_12]; simp [*])

noncomputable def c112 : List SA → Option RA := con2f (kL (kR 12)) (kL (kR 12)) 113 fun (a b : List FComp) => .v .bool (eqb a b)
theorem s112 (a b : List FComp) : Sp Try.prog 112 [.v (kL (kR 12)) a, .v (kL (kR 12)) b, .fn 113 []] (.v .bool (eqb a b)) := by
  refine Sp_intro [(113, c113)] ⟨con2_ok s113, trivial⟩ (N := 32) (vs := [.t 6 (.v .bool)]) (c := ir112) Try.func112 (by kernel_rfl) rfl ?_
  unfold ir112
  simp only [go_sem, c113]
  intro _ _
  refine ⟨fun h3 h => h3 (by rw [h]), fun h3 _ => ?_⟩
  refine LP_intro (X := ⟨Try.prog, 32, [(113, c113)]⟩) ⟨con2_ok s113, trivial⟩ [0, 1, 2, 6, 15, 16, 17] [] (fun i : Nat => ⟨[(0, .v (kL (kR 12)) a), (1, .v (kL (kR 12)) b), (2, .fn 113 []), (6, .v .bool false), (15, .v (kL (kR 12)) a), (16, .v kI (a.length : Int)), (17, .v kI (i : Int))], []⟩) (fun i => i ≤ a.length ∧ ∀ j : Nat, j < i → gt a (j : Int) (Ki.z (kR 12)) = gt b (j : Int) (Ki.z (kR 12))) (fun i => a.length - i) ⟨0, ⟨Nat.zero_le _, fun j hj => absurd hj (Nat.not_lt_zero j)⟩, ?_⟩ (fun i hi => ?_)
  · simp only [go_sem, c113]
    rfl
  obtain ⟨hi1, hi2⟩ := hi
  simp only [go_sem, c113]
  refine ⟨fun hlt => ⟨hlt, by omega, fun hne h => hne (by rw [h]), fun he => ⟨i + 1, ⟨hlt, below_succ hi2 he⟩, by dsimp only; omega, ?_⟩⟩, fun hge => row_eq (by omega) fun j hj => hi2 j (by omega)⟩
  simp only [go_sem, c113]
  rw [wrap_nat (by omega)]
noncomputable def c54 : List SA → Option RA := con2 (kR 13) (kR 13) fun (a b : FQuery) => .v .bool (eqb a b)
theorem s54 (a b : FQuery) : Sp Try.prog 54 [.v (kR 13) a, .v (kR 13) b] (.v .bool (eqb a b)) := by
  refine Sp_intro [(67, c67), (112, c112)] ⟨con2_ok s67, con2f_ok s112, trivial⟩ (N := 17) (vs := [.t 4 (.v .bool)]) (c := ir54) Try.func54 (by kernel_rfl) rfl ?_
  unfold ir54
  simp only [go_sem, c67, c112, ext_13]
  all_goals simp +contextual
  all_goals (intros; refine eqb_congr ?_; rw [ext_13]; simp [*])
noncomputable def c115 : List SA → Option RA := con2f (kL (kR 13)) (kL (kR 13)) 54 fun (a b : List FQuery) => .v .bool (eqb a b)
theorem s115 (a b : List FQuery) : Sp Try.prog 115 [.v (kL (kR 13)) a, .v (kL (kR 13)) b, .fn 54 []] (.v .bool (eqb a b)) := by
  refine Sp_intro [(54, c54)] ⟨con2_ok s54, trivial⟩ (N := 32) (vs := [.t 6 (.v .bool)]) (c := ir115) Try.func115 (by kernel_rfl) rfl ?_
  unfold ir115
  simp only [go_sem, c54]
  intro _ _
  refine ⟨fun h3 h => h3 (by rw [h]), fun h3 _ => ?_⟩
  refine LP_intro (X := ⟨Try.prog, 32, [(54, c54)]⟩) ⟨con2_ok s54, trivial⟩ [0, 1, 2, 6, 15, 16, 17] [] (fun i : Nat => ⟨[(0, .v (kL (kR 13)) a), (1, .v (kL (kR 13)) b), (2, .fn 54 []), (6, .v .bool false), (15, .v (kL (kR 13)) a), (16, .v kI (a.length : Int)), (17, .v kI (i : Int))], []⟩) (fun i => i ≤ a.length ∧ ∀ j : Nat, j < i → gt a (j : Int) (Ki.z (kR 13)) = gt b (j : Int) (Ki.z (kR 13))) (fun i => a.length - i) ⟨0, ⟨Nat.zero_le _, fun j hj => absurd hj (Nat.not_lt_zero j)⟩, ?_⟩ (fun i hi => ?_)
  · simp only [go_sem, c54]
    rfl
  obtain ⟨hi1, hi2⟩ := hi
  simp only [go_sem, c54]
  refine ⟨fun hlt => ⟨hlt, by omega, fun hne h => hne (by rw [h]), fun he => ⟨i + 1, ⟨hlt, below_succ hi2 he⟩, by dsimp only; omega, ?_⟩⟩, fun hge => row_eq (by omega) fun j hj => hi2 j (by omega)⟩
  simp only [go_sem, c54]
  rw [wrap_nat (by omega)]

noncomputable def c59 : List SA → Option RA := con2 (kL (kR 13)) (kL (kR 13)) fun (a b : List FQuery) => .v .bool (eqb a b)
theorem s59 (a b : List FQuery) : Sp Try.prog 59 [.v (kL (kR 13)) a, .v (kL (kR 13)) b] (.v .bool (eqb a b)) := by
  refine Sp_intro [(115, c115)] ⟨con2f_ok s115, trivial⟩ (N := 8) (vs := [.t 4 (.v .bool)]) (c := ir59) Try.func59 (by kernel_rfl) rfl ?_
  unfold ir59
  simp only [go_sem, c115]
noncomputable def c110 : List SA → Option RA := con2 (kR 12) (kR 12) fun (a b : FComp) => .v .bool (eqb a b)
set_option maxRecDepth 100000 in
theorem s110 (a b : FComp) : Sp Try.prog 110 [.v (kR 12) a, .v (kR 12) b] (.v .bool (eqb a b)) := by
  refine Sp_intro [(100, c100), (140, c140)] ⟨con2_ok s100, con2_ok s140, trivial⟩ (N := 69) (vs := [.t 4 (.v .bool)]) (c := ir110) Try.func110 (by kernel_rfl) rfl ?_
  unfold ir110
  simp only [go_sem, c100, c140]
  refine ⟨fun e1 => ⟨fun e2 => ⟨fun e3 => ⟨fun e4 => ⟨fun e5 _ _ => ⟨fun h e => h (by rw [e]), fun el => ?_⟩, fun h e => h (by rw [e])⟩, fun h e => h (by rw [e])⟩, fun h e => h (by rw [e])⟩, fun h e => h (by rw [e])⟩, fun h e => h (by rw [e])⟩
  refine LP_intro (X := ⟨Try.prog, 69, [(100, c100), (140, c140)]⟩) ⟨con2_ok s100, con2_ok s140, trivial⟩ [2, 3, 4, 5] [[2], [3]] (fun i : Nat => ⟨[(2, .pt [2] 0), (3, .pt [3] 0), (4, .v .bool false), (5, .v kI (i : Int))], [([2], .box (lvs 12 a)), ([3], .box (lvs 12 b))]⟩) (fun i => i ≤ a.cols.length ∧ ∀ j : Nat, j < i → gt a.cols (j : Int) (Ki.z (kR 2)) = gt b.cols (j : Int) (Ki.z (kR 2))) (fun i => a.cols.length - i) ⟨0, ⟨Nat.zero_le _, fun j hj => absurd hj (Nat.not_lt_zero j)⟩, ?_⟩ (fun i hi => ?_)
  · simp only [go_sem, c100, c140]
    rfl
  obtain ⟨hi1, hi2⟩ := hi
  simp only [go_sem, c100, c140]
  intro _
  refine ⟨fun hlt => ⟨hlt, by omega, fun h e => h (by rw [e]), fun he => ⟨i + 1, ⟨hlt, below_succ hi2 he⟩, by dsimp only; omega, ?_⟩⟩, fun hge => (ext_12 _ _).2 ⟨e1, e2, e3, e4, e5, row_eq (by omega) fun j hj => hi2 j (by omega)⟩⟩
  simp only [go_sem, c100, c140]
  rw [wrap_nat (by omega)]
noncomputable def c52 : List SA → Option RA := con2 (kR 13) (kR 13) fun (a b : FQuery) => .v .bool (eqb a b)
theorem s52 (a b : FQuery) : Sp Try.prog 52 [.v (kR 13) a, .v (kR 13) b] (.v .bool (eqb a b)) := by
  refine Sp_intro [(15, c15), (110, c110)] ⟨con2_ok s15, con2_ok s110, trivial⟩ (N := 40) (vs := [.t 4 (.v .bool)]) (c := ir52) Try.func52 (by kernel_rfl) rfl ?_
  unfold ir52
  simp only [go_sem, c15, c110]
  refine ⟨fun e1 _ _ => ⟨fun h e => h (by rw [e]), fun el => ?_⟩, fun h e => h (by rw [e])⟩
  refine LP_intro (X := ⟨Try.prog, 40, [(15, c15), (110, c110)]⟩) ⟨con2_ok s15, con2_ok s110, trivial⟩ [2, 3, 4, 5] [[2], [3]] (fun i : Nat => ⟨[(2, .pt [2] 0), (3, .pt [3] 0), (4, .v .bool false), (5, .v kI (i : Int))], [([2], .box (lvs 13 a)), ([3], .box (lvs 13 b))]⟩) (fun i => i ≤ a.comps.length ∧ ∀ j : Nat, j < i → gt a.comps (j : Int) (Ki.z (kR 12)) = gt b.comps (j : Int) (Ki.z (kR 12))) (fun i => a.comps.length - i) ⟨0, ⟨Nat.zero_le _, fun j hj => absurd hj (Nat.not_lt_zero j)⟩, ?_⟩ (fun i hi => ?_)
  · simp only [go_sem, c15, c110]
    rfl
  obtain ⟨hi1, hi2⟩ := hi
  simp only [go_sem, c15, c110]
  intro _
  refine ⟨fun hlt => ⟨hlt, by omega, fun h e => h (by rw [e]), fun he => ⟨i + 1, ⟨hlt, below_succ hi2 he⟩, by dsimp only; omega, ?_⟩⟩, fun hge => (ext_13 _ _).2 ⟨e1, row_eq (by omega) fun j hj => hi2 j (by omega)⟩⟩
  simp only [go_sem, c15, c110]
  rw [wrap_nat (by omega)]
noncomputable def c57 : List SA → Option RA := con2 (kL (kR 13)) (kL (kR 13)) fun (a b : List FQuery) => .v .bool (eqb a b)
theorem s57 (a b : List FQuery) : Sp Try.prog 57 [.v (kL (kR 13)) a, .v (kL (kR 13)) b] (.v .bool (eqb a b)) := by
  refine Sp_intro [(52, c52)] ⟨con2_ok s52, trivial⟩ (N := 27) (vs := [.t 4 (.v .bool)]) (c := ir57) Try.func57 (by kernel_rfl) rfl ?_
  unfold ir57
  simp only [go_sem, c52]
  intro _ _
  refine ⟨fun h e => h (by rw [e]), fun h3 => ?_⟩
  refine LP_intro (X := ⟨Try.prog, 27, [(52, c52)]⟩) ⟨con2_ok s52, trivial⟩ [0, 1, 4, 5] [] (fun i : Nat => ⟨[(0, .v (kL (kR 13)) a), (1, .v (kL (kR 13)) b), (4, .v .bool false), (5, .v kI (i : Int))], []⟩) (fun i => i ≤ a.length ∧ ∀ j : Nat, j < i → gt a (j : Int) (Ki.z (kR 13)) = gt b (j : Int) (Ki.z (kR 13))) (fun i => a.length - i) ⟨0, ⟨Nat.zero_le _, fun j hj => absurd hj (Nat.not_lt_zero j)⟩, ?_⟩ (fun i hi => ?_)
  · simp only [go_sem, c52]
    rfl
  obtain ⟨hi1, hi2⟩ := hi
  simp only [go_sem, c52]
  intro _
  refine ⟨fun hlt => ⟨hlt, by omega, fun h e => h (by rw [e]), fun he => ⟨i + 1, ⟨hlt, below_succ hi2 he⟩, by dsimp only; omega, ?_⟩⟩, fun hge => row_eq (by omega) fun j hj => hi2 j (by omega)⟩
  simp only [go_sem, c52]
  rw [wrap_nat (by omega)]
theorem s11 (a b : FQuery) : Sp Try.prog 11 [.v (kR 13) a, .v (kR 13) b] (.v .bool true) := by
  refine Sp_intro [(51, c51), (52, c52), (53, c53), (54, c54), (55, c55)] ⟨con2p_ok s51, con2_ok s52, con1p_ok s53, con2_ok s54, con2_ok s55, trivial⟩ (N := 45) (vs := [.t 4 (.v .bool)]) (c := ir11) Try.func11 (by kernel_rfl) rfl ?_
  unfold ir11
  simp only [go_sem, c51, c52, c53, c54, c55, eqb_self]
  intro h
  obtain ⟨h1, h2⟩ := sz1_nn h
  refine ⟨by omega, fun h3 => ?_⟩
  obtain ⟨h4, h5⟩ := sz1_nn h3
  omega
theorem s12 (a b : List FQuery) : Sp Try.prog 12 [.v (kL (kR 13)) a, .v (kL (kR 13)) b] (.v .bool true) := by
  refine Sp_intro [(56, c56), (57, c57), (58, c58), (59, c59), (60, c60)] ⟨con2p_ok s56, con2_ok s57, con1p_ok s58, con2_ok s59, con2_ok s60, trivial⟩ (N := 45) (vs := [.t 4 (.v .bool)]) (c := ir12) Try.func12 (by kernel_rfl) rfl ?_
  unfold ir12
  simp only [go_sem, c56, c57, c58, c59, c60, eqb_self]
  intro h
  obtain ⟨h1, h2⟩ := sz1_nn h
  refine ⟨by omega, fun h3 => ?_⟩
  obtain ⟨h4, h5⟩ := sz1_nn h3
  omega
end Go.Q
