/- The law of flat queries. -/
import Derived.Test.YtmkelbchboiliaaGreatB29
import Derived.Test.YtmkelbchboiliaaGreatProg
import Derived.KernelRfl
set_option linter.unusedVariables false
set_option linter.unusedSimpArgs false
namespace Go.Q
open Go.Proofs
set_option maxRecDepth 20000
set_option maxHeartbeats 4000000
def ir_Zaa:C:=.sq (.rg [.bx 3 T0 (kR 5),.bx 4 T1 (kR 13),.bx 5 T2 (kR 0),.mv 6 (.b false)]) (.sq (.rg [.mv 7 (.i 1048576)]) (.sq (.rg [.ld 13 T3 (kR 5),.mv 14 T7,.cv (some 15) 6 [(T13,.v (kR 5)),(T14,.v kI)],.mv 7 T15]) (.sq (.sq (.rg [.mv 16 T7,.bi 17 .lss T16 (.i 0)]) (.cd T17 (.sq (.rg [.mv 6 (.b true)]) .rt) .skip)) (.sq (.rg [.ld 18 T4 (kR 13),.mv 19 T7,.cv (some 20) 14 [(T18,.v (kR 13)),(T19,.v kI)],.mv 7 T20]) (.sq (.sq (.rg [.mv 21 T7,.bi 22 .lss T21 (.i 0)]) (.cd T22 (.sq (.rg [.mv 6 (.b true)]) .rt) .skip)) (.sq (.rg [.ld 23 T5 (kR 0),.mv 24 T7,.cv (some 25) 15 [(T23,.v (kR 0)),(T24,.v kI)],.mv 7 T25]) (.sq (.sq (.rg [.mv 26 T7,.bi 27 .lss T26 (.i 0)]) (.cd T27 (.sq (.rg [.mv 6 (.b true)]) .rt) .skip)) (.sq (.dr [] [.ld 28 T3 (kR 5),.cv (some 29) 9 [(T28,.v (kR 5))],.ld 30 T4 (kR 13),.cv (some 31) 17 [(T30,.v (kR 13))],.ld 32 T5 (kR 0)] [.cv (some 33) 18 [(T32,.v (kR 0))],.cv (some 34) 16 [(T29,.v (kR 5)),(T31,.v (kR 13)),(T33,.v (kR 0))],.mv 8 T34]) (.sq (.rg [.ld 35 T3 (kR 5),.cv (some 36) 9 [(T35,.v (kR 5))],.al 9 (kR 5),.st T9 T36 (kR 5)]) (.sq (.rg [.ld 37 T4 (kR 13),.cv (some 38) 17 [(T37,.v (kR 13))],.al 10 (kR 13),.st T10 T38 (kR 13)]) (.sq (.rg [.ld 39 T5 (kR 0),.cv (some 40) 18 [(T39,.v (kR 0))],.al 11 (kR 0),.st T11 T40 (kR 0)]) (.sq (.rg [.ld 41 T9 (kR 5),.ld 42 T10 (kR 13),.ld 43 T11 (kR 0),.cv (some 44) 19 [(T41,.v (kR 5)),(T42,.v (kR 13)),(T43,.v (kR 0))],.mv 12 T44]) (.sq (.sq (.rg [.mv 45 T12,.mv 46 T8,.be 47 true T45 T46]) (.cd T47 (.sq (.rg [.mv 6 (.b false)]) .rt) .skip)) (.sq (.sq (.dr [] [.ld 48 T9 (kR 5),.ld 49 T3 (kR 5),.cv (some 50) 9 [(T49,.v (kR 5))]] [.cv (some 51) 12 [(T48,.v (kR 5)),(T50,.v (kR 5))],.un 52 .not T51]) (.cd T52 (.sq (.rg [.mv 6 (.b false)]) .rt) .skip)) (.sq (.sq (.dr [] [.ld 53 T10 (kR 13),.ld 54 T4 (kR 13),.cv (some 55) 17 [(T54,.v (kR 13))]] [.cv (some 56) 20 [(T53,.v (kR 13)),(T55,.v (kR 13))],.un 57 .not T56]) (.cd T57 (.sq (.rg [.mv 6 (.b false)]) .rt) .skip)) (.sq (.sq (.dr [] [.ld 58 T11 (kR 0),.ld 59 T5 (kR 0),.cv (some 60) 18 [(T59,.v (kR 0))]] [.cv (some 61) 21 [(T58,.v (kR 0)),(T60,.v (kR 0))],.un 62 .not T61]) (.cd T62 (.sq (.rg [.mv 6 (.b false)]) .rt) .skip)) (.sq (.rg [.mv 6 (.b true)]) .rt)))))))))))))))))
noncomputable abbrev T_Zaa(nf:Nat):XT:=[e_Zat nf,e_Zaq nf,e_Zaz nf,e_ZaG nf,e_ZaD nf,e_ZaM nf,e_Zbe nf,e_Zn nf,e_Zag nf,e_Zad nf,e_Zam nf]
noncomputable def m_Zaa(nf:Nat)(a:Schema)(b:FQuery)(c:Ty):Option (Bool):=runF (T_Zaa nf) nf [.v (kR 5),.v (kR 13),.v (kR 0)] [.t 6 (.v .bool)] ir_Zaa (a,b,c,())
theorem m_Zaa_eq(nf:Nat)(a:Schema)(b:FQuery)(c:Ty):m_Zaa nf a b c=(cb (m_Zat nf a (1048576:Int)) fun r15=>br (decide (r15<(0:Int))) (some true) (cb (m_Zaq nf b r15) fun r20=>br (decide (r20<(0:Int))) (some true) (cb (m_Zaz nf nf (Ty.h c) r20) fun r25=>br (decide (r25<(0:Int))) (some true) (cb (m_ZaG nf a) fun r29=>cb (m_ZaD nf b) fun r31=>cb (m_ZaM nf nf (Ty.h c)) fun r33=>cb (m_Zbe nf r29 r31 r33) fun r34=>cb (m_ZaG nf a) fun r36=>cb (m_ZaD nf b) fun r38=>cb (m_ZaM nf nf (Ty.h c)) fun r40=>cb (m_Zn nf r36 r38 (Ty.h r40)) fun r44=>br (!(r44==r34)) (some false) (cb (m_ZaG nf a) fun r50=>cb (m_Zag nf r36 r50) fun r51=>br (!r51) (some false) (cb (m_ZaD nf b) fun r55=>cb (m_Zad nf r38 r55) fun r56=>br (!r56) (some false) (cb (m_ZaM nf nf (Ty.h c)) fun r60=>cb (m_Zam nf nf (Ty.h r40) r60) fun r61=>br (!r61) (some false) (some true)))))))):=by kernel_rfl
noncomputable def e_Zaa(nf:Nat):XE:=eF 4 [.v (kR 5),.v (kR 13),.v (kR 0)] [.v .bool] (fun t=>m_Zaa nf t.1 t.2.1 t.2.2.1)
theorem o_Zaa(nf:Nat):conOK Tryz.prog 4 (e_Zaa nf).con:=by
 have ih:XT.ok Tryz.prog (T_Zaa nf):=by exact⟨o_Zat nf,o_Zaq nf,o_Zaz nf,o_ZaG nf,o_ZaD nf,o_ZaM nf,o_Zbe nf,o_Zn nf,o_Zag nf,o_Zad nf,o_Zam nf,trivial⟩
 refine eF_ok fun t x h=> ?_
 obtain⟨a,b,c,_⟩:=t
 exact runF_ok (N:=63) ih Tryz.func4 (by kernel_rfl) rfl h
end Go.Q
