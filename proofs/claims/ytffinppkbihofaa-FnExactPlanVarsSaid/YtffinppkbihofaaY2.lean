/- Marks. -/
import Derived.Test.YtffinppkbihofaaY1
import Derived.Test.YtffinppkbihofaaProg
import Derived.KernelRfl
set_option linter.unusedVariables false
set_option linter.unusedSimpArgs false
namespace Go.Q
open Go.Proofs
set_option linter.unusedVariables false
set_option maxRecDepth 20000
set_option maxHeartbeats 4000000
def c25_laws_markText : C := .sq (.rg [.mv 18 (.t 3), .bi 19 .add (.s [109]) (.t 18), .mv 2 (.t 19)]) .rt
def c15_laws_markText : C := .sq (.sq (.rg [.mv 6 (.t 0), .bi 7 .gtr (.t 6) (.i 0)]) (.cd (.t 7) .skip (.ex 0))) (.bk 1 (.sq (.rg [.mv 8 (.t 0), .bi 9 .rem (.t 8) (.i 10), .bi 10 .add (.i 48) (.t 9), .ci 11 .u8 (.t 10), .bs 12 true (.int .u8) [(.t 11)], .cs 13 (.t 12), .mv 14 (.t 3), .bi 15 .add (.t 13) (.t 14), .mv 3 (.t 15)]) (.rg [.mv 16 (.t 0), .bi 17 .quo (.t 16) (.i 10), .mv 0 (.t 17)])))
def ir_laws_markText : C := .sq (.rg [.mv 2 (.s [])]) (.sq (.sq (.rg [.mv 4 (.t 0), .bi 5 .leq (.t 4) (.i 0)]) (.cd (.t 5) (.sq (.rg [.mv 2 (.s [109, 48])]) .rt) .skip)) (.sq (.rg [.mv 3 (.s [])]) (.sq (.bk 0 (.lk [0, 3] [] c15_laws_markText)) c25_laws_markText)))
noncomputable abbrev T_laws_markText (nf : Nat) : XT := []
noncomputable def m_laws_markText (nf : Nat) (k : Int) : Option (Str) := runF (T_laws_markText nf) nf [.v kI] [.t 2 (.v kS)] ir_laws_markText (k, ())
noncomputable def X_laws_markText {R : Type} (nf : Nat) : C → Env → (Xt → Env → Option R) → Option R := xc (R := R) (T_laws_markText nf).S nf
noncomputable def l14_laws_markText (nf : Nat) (m14 : Nat) (x0_14 : Int) (x3_14 : Str) : Option (Str) := xit [0, 3] [] (X_laws_markText nf c15_laws_markText) (qB 0 (qS (X_laws_markText nf c25_laws_markText) (KF [.t 2 (.v kS)]))) m14 ⟨[(0, .v kI x0_14), (3, .v kS x3_14)], []⟩
theorem l14_laws_markText_eq (nf : Nat) (m14 : Nat) (x0_14 : Int) (x3_14 : Str) : l14_laws_markText nf (m14 + 1) x0_14 x3_14 = (
  br (decide ((0 : Int) < x0_14)) (
    gg ((10 : Int) ≠ 0) <|
      gg (List.length (bytesOf ([(IntKind.u8.wrap (w64 ((48 : Int) + (w64 (Int.tmod x0_14 (10 : Int))))))] : List Int)) + List.length x3_14 ≤ 9223372036854775807) <|
        gg ((10 : Int) ≠ 0) <|
          mark (l14_laws_markText nf m14 (w64 (Int.tdiv x0_14 (10 : Int))) ((bytesOf ([(IntKind.u8.wrap (w64 ((48 : Int) + (w64 (Int.tmod x0_14 (10 : Int))))))] : List Int)) ++ x3_14))) (
    gg (List.length ([109] : Str) + List.length x3_14 ≤ 9223372036854775807) <|
      some (([109] : Str) ++ x3_14))) := by kernel_rfl
theorem m_laws_markText_eq (nf : Nat) (k : Int) : m_laws_markText nf k = (
  br (decide (k ≤ (0 : Int))) (
    some ([109, 48] : Str)) (
    mark (l14_laws_markText nf nf k ([] : Str)))) := by kernel_rfl
noncomputable def e_laws_markText (nf : Nat) : XE := eF 113 [.v kI] [.v kS] (fun t => m_laws_markText nf t.1)
theorem o_laws_markText (nf : Nat) : conOK Try.prog 113 (e_laws_markText nf).con := by
  have ih : XT.ok Try.prog (T_laws_markText nf) := by exact trivial
  refine eF_ok fun t x h => ?_
  obtain ⟨k, _⟩ := t
  exact runF_ok (N := 20) ih Try.func113 (by kernel_rfl) rfl h
def c19_laws_markStringS : C := .sq (.rg [.mv 19 (.t 1), .mv 4 (.t 19)]) .rt
def c7_laws_markStringS : C := .sq (.sq (.rg [.mv 6 (.t 5), .mv 7 (.t 0), .ln 8 false (.t 7), .bi 9 .lss (.t 6) (.t 8)]) (.cd (.t 9) .skip (.ex 0))) (.sq (.bk 1 (.sq (.rg [.mv 12 (.t 0), .mv 13 (.t 5), .mv 14 (.t 1), .cv (some 15) 113 [((.t 14), .v kI)], .ia 16 (.t 12) (.t 13) kS, .st (.t 16) (.t 15) kS]) (.rg [.mv 17 (.t 1), .bi 18 .add (.t 17) (.i 1), .mv 1 (.t 18)]))) (.rg [.mv 10 (.t 5), .bi 11 .add (.t 10) (.i 1), .mv 5 (.t 11)]))
def ir_laws_markStringS : C := .sq (.rg [.mv 4 (.i 0)]) (.sq (.sq (.rg [.mv 5 (.i 0)]) (.bk 0 (.lk [0, 1, 5] [[20]] c7_laws_markStringS))) c19_laws_markStringS)
noncomputable abbrev T_laws_markStringS (nf : Nat) : XT := [e_laws_markText nf]
noncomputable def m_laws_markStringS (nf : Nat) (a : List Str) (k : Int) : Option (List Str × Int) := runW (T_laws_markStringS nf) nf 20 4 kS ir_laws_markStringS a k
noncomputable def X_laws_markStringS {R : Type} (nf : Nat) : C → Env → (Xt → Env → Option R) → Option R := xc (R := R) (T_laws_markStringS nf).S nf
noncomputable def l6_laws_markStringS (nf : Nat) (m6 : Nat) (x1_6 : Int) (x5_6 : Int) (y20_6 : List Str) : Option (List Str × Int) := xit [0, 1, 5] [[20]] (X_laws_markStringS nf c7_laws_markStringS) (qB 0 (qS (X_laws_markStringS nf c19_laws_markStringS) (KW 4 20 kS))) m6 ⟨[(0, .sl [20]), (1, .v kI x1_6), (5, .v kI x5_6)], [([20], .row true true kS y20_6)]⟩
theorem l6_laws_markStringS_eq (nf : Nat) (m6 : Nat) (x1_6 : Int) (x5_6 : Int) (y20_6 : List Str) : l6_laws_markStringS nf (m6 + 1) x1_6 x5_6 y20_6 = (
  br (decide (x5_6 < (List.length y20_6 : Int))) (
    cb (m_laws_markText nf x1_6) fun r15 =>
      gg (0 ≤ x5_6 ∧ x5_6 < (List.length y20_6 : Int)) <|
        gg (0 ≤ x5_6 ∧ x5_6 < (List.length y20_6 : Int)) <|
          mark (l6_laws_markStringS nf m6 (w64 (x1_6 + (1 : Int))) (w64 (x5_6 + (1 : Int))) (List.set y20_6 (Int.toNat x5_6) r15))) (
    some (y20_6, x1_6))) := by kernel_rfl
theorem m_laws_markStringS_eq (nf : Nat) (a : List Str) (k : Int) : m_laws_markStringS nf a k = (
  mark (l6_laws_markStringS nf nf k (0 : Int) a)) := by kernel_rfl
noncomputable def e_laws_markStringS (nf : Nat) : XE := eW 140 kS (fun a j => m_laws_markStringS nf a j)
theorem o_laws_markStringS (nf : Nat) : conOK Try.prog 140 (e_laws_markStringS nf).con := by
  have ih : XT.ok Try.prog (T_laws_markStringS nf) := by exact ⟨o_laws_markText nf, trivial⟩
  refine eW_ok fun a j x h => ?_
  exact runW_ok (N := 20) ih Try.func140 (by kernel_rfl) rfl h
def c23_laws_markTypeS : C := .sq (.rg [.mv 33 (.t 1), .mv 4 (.t 33)]) .rt
def c22_laws_markTypeS : C := .rg [.mv 10 (.t 5), .bi 11 .add (.t 10) (.i 1), .mv 5 (.t 11)]
def c21_laws_markTypeS : C := .rl [.mv 26 (.t 0), .mv 27 (.t 5), .ia 28 (.t 26) (.t 27) (kR 0), .fa 29 (.t 28) 0 2 2] 30 (.t 29) 31 (.t 1) 32 141 (kR 0) [.mv 1 (.t 32)]
def w21_laws_markTypeS : C := .kp [0, 1, 5] [[34]] c21_laws_markTypeS
def c7_laws_markTypeS : C := .sq (.sq (.rg [.mv 6 (.t 5), .mv 7 (.t 0), .ln 8 false (.t 7), .bi 9 .lss (.t 6) (.t 8)]) (.cd (.t 9) .skip (.ex 0))) (.sq (.bk 1 (.sq (.rg [.mv 12 (.t 0), .mv 13 (.t 5), .mv 14 (.t 1), .ia 15 (.t 12) (.t 13) (kR 0), .fa 16 (.t 15) 0 0 0, .sf (.t 16) (.t 14) kI]) (.sq (.rg [.mv 17 (.t 1), .bi 18 .add (.t 17) (.i 1), .mv 1 (.t 18)]) (.sq (.rl [.mv 19 (.t 0), .mv 20 (.t 5), .ia 21 (.t 19) (.t 20) (kR 0), .fa 22 (.t 21) 0 1 1] 23 (.t 22) 24 (.t 1) 25 140 kS [.mv 1 (.t 25)]) w21_laws_markTypeS)))) c22_laws_markTypeS)
def ir_laws_markTypeS : C := .sq (.rg [.mv 4 (.i 0)]) (.sq (.sq (.rg [.mv 5 (.i 0)]) (.bk 0 (.lk [0, 1, 5] [[34]] c7_laws_markTypeS))) c23_laws_markTypeS)
noncomputable def B_laws_markTypeS (nf : Nat) : XT := [e_laws_markStringS nf]
noncomputable def G_laws_markTypeS (nf : Nat) : Nat → XT
  | 0 => []
  | kf + 1 => [eW 141 (kR 0) (fun a j => (fun (a : List Ty) (k : Int) => runW (G_laws_markTypeS nf kf ++ B_laws_markTypeS nf) nf 34 4 (kR 0) ir_laws_markTypeS a k) a j)]
noncomputable abbrev T_laws_markTypeS (nf kf : Nat) : XT := G_laws_markTypeS nf kf ++ B_laws_markTypeS nf
noncomputable def m_laws_markTypeS (nf kf : Nat) (a : List Ty) (k : Int) : Option (List Ty × Int) := runW (T_laws_markTypeS nf kf) nf 34 4 (kR 0) ir_laws_markTypeS a k
noncomputable def X_laws_markTypeS {R : Type} (nf kf : Nat) : C → Env → (Xt → Env → Option R) → Option R := xc (R := R) (T_laws_markTypeS nf kf).S nf
noncomputable def j21_laws_markTypeS (nf kf : Nat) (m6 : Nat) (r25 : List Str × Int) (x5_6 : Int) (y34_21 : List Ty) : Option (List Ty × Int) := X_laws_markTypeS nf kf c21_laws_markTypeS ⟨[(0, .sl [34]), (1, .v kI r25.2), (5, .v kI x5_6)], [([34], .row true true (kR 0) y34_21)]⟩ (qB 1 (qS (X_laws_markTypeS nf kf c22_laws_markTypeS) (qM [0, 1, 5] [[34]] (X_laws_markTypeS nf kf c7_laws_markTypeS) m6 (qB 0 (qS (X_laws_markTypeS nf kf c23_laws_markTypeS) (KW 4 34 (kR 0)))))))
noncomputable def l6_laws_markTypeS (nf kf : Nat) (m6 : Nat) (x1_6 : Int) (x5_6 : Int) (y34_6 : List Ty) : Option (List Ty × Int) := xit [0, 1, 5] [[34]] (X_laws_markTypeS nf kf c7_laws_markTypeS) (qB 0 (qS (X_laws_markTypeS nf kf c23_laws_markTypeS) (KW 4 34 (kR 0)))) m6 ⟨[(0, .sl [34]), (1, .v kI x1_6), (5, .v kI x5_6)], [([34], .row true true (kR 0) y34_6)]⟩
theorem j21_laws_markTypeS_eq (nf kf : Nat) (m6 : Nat) (r25 : List Str × Int) (x5_6 : Int) (y34_21 : List Ty) : j21_laws_markTypeS nf (kf + 1) m6 r25 x5_6 y34_21 = (
  gg (0 ≤ x5_6 ∧ x5_6 < (List.length y34_21 : Int)) <|
    gg (0 ≤ x5_6 ∧ x5_6 < (List.length y34_21 : Int)) <|
      cb (m_laws_markTypeS nf kf ((gt y34_21 x5_6 Ty.zero).args) r25.2) fun r32 =>
        mark (l6_laws_markTypeS nf (kf + 1) m6 r32.2 (w64 (x5_6 + (1 : Int))) (List.set y34_21 (Int.toNat x5_6) (Ty.mk ((gt y34_21 x5_6 Ty.zero).kind) ((gt y34_21 x5_6 Ty.zero).labels) r32.1)))) := by kernel_rfl
theorem l6_laws_markTypeS_eq (nf kf : Nat) (m6 : Nat) (x1_6 : Int) (x5_6 : Int) (y34_6 : List Ty) : l6_laws_markTypeS nf (kf + 1) (m6 + 1) x1_6 x5_6 y34_6 = (
  br (decide (x5_6 < (List.length y34_6 : Int))) (
    gg (0 ≤ x5_6 ∧ x5_6 < (List.length y34_6 : Int)) <|
      gg (0 ≤ x5_6 ∧ x5_6 < (List.length y34_6 : Int)) <|
        gg (0 ≤ x5_6 ∧ x5_6 < (List.length (List.set y34_6 (Int.toNat x5_6) (Ty.mk x1_6 ((gt y34_6 x5_6 Ty.zero).labels) ((gt y34_6 x5_6 Ty.zero).args))) : Int)) <|
          gg (0 ≤ x5_6 ∧ x5_6 < (List.length (List.set y34_6 (Int.toNat x5_6) (Ty.mk x1_6 ((gt y34_6 x5_6 Ty.zero).labels) ((gt y34_6 x5_6 Ty.zero).args))) : Int)) <|
            cb (m_laws_markStringS nf ((gt (List.set y34_6 (Int.toNat x5_6) (Ty.mk x1_6 ((gt y34_6 x5_6 Ty.zero).labels) ((gt y34_6 x5_6 Ty.zero).args))) x5_6 Ty.zero).labels) (w64 (x1_6 + (1 : Int)))) fun r25 =>
              mark (j21_laws_markTypeS nf (kf + 1) m6 r25 x5_6 (List.set (List.set y34_6 (Int.toNat x5_6) (Ty.mk x1_6 ((gt y34_6 x5_6 Ty.zero).labels) ((gt y34_6 x5_6 Ty.zero).args))) (Int.toNat x5_6) (Ty.mk ((gt (List.set y34_6 (Int.toNat x5_6) (Ty.mk x1_6 ((gt y34_6 x5_6 Ty.zero).labels) ((gt y34_6 x5_6 Ty.zero).args))) x5_6 Ty.zero).kind) r25.1 ((gt (List.set y34_6 (Int.toNat x5_6) (Ty.mk x1_6 ((gt y34_6 x5_6 Ty.zero).labels) ((gt y34_6 x5_6 Ty.zero).args))) x5_6 Ty.zero).args))))) (
    some (y34_6, x1_6))) := by
  unfold l6_laws_markTypeS j21_laws_markTypeS c7_laws_markTypeS c23_laws_markTypeS w21_laws_markTypeS c22_laws_markTypeS
  generalize c21_laws_markTypeS = x0
  revert x0
  refine id ?_
  intro x0
  kernel_rfl
theorem m_laws_markTypeS_eq (nf kf : Nat) (a : List Ty) (k : Int) : m_laws_markTypeS nf (kf + 1) a k = (
  mark (l6_laws_markTypeS nf (kf + 1) nf k (0 : Int) a)) := by kernel_rfl
noncomputable def e_laws_markTypeS (nf : Nat) : XE := eW 141 (kR 0) (fun a j => m_laws_markTypeS nf nf a j)
theorem gok_laws_markTypeS (nf : Nat) : ∀ kf : Nat, XT.ok Try.prog (G_laws_markTypeS nf kf ++ B_laws_markTypeS nf)
  | 0 => by exact ⟨o_laws_markStringS nf, trivial⟩
  | kf + 1 => by
    have ih := gok_laws_markTypeS nf kf
    refine ⟨?_, (by exact ⟨o_laws_markStringS nf, trivial⟩)⟩
    · refine eW_ok fun a j x h => ?_
      exact runW_ok (N := 34) ih Try.func141 (by kernel_rfl) rfl h
theorem o_laws_markTypeS (nf : Nat) : conOK Try.prog 141 (e_laws_markTypeS nf).con := by
  have ih := gok_laws_markTypeS nf nf
  refine eW_ok fun a j x h => ?_
  exact runW_ok (N := 34) ih Try.func141 (by kernel_rfl) rfl h
def ir_laws_markType : C := .sq (.rg [.bx 2 (.t 0) (kR 0), .mv 4 (.i 0)]) (.sq (.rg [.fa 5 (.t 2) 0 1 1, .ld 6 (.t 5) (kL kS), .mv 7 (.t 1), .cw (some 8) 140 kS (.t 6) (.t 7), .mv 1 (.t 8)]) (.sq (.rg [.fa 9 (.t 2) 0 2 2, .ld 10 (.t 9) (kL (kR 0)), .mv 11 (.t 1), .cw (some 12) 141 (kR 0) (.t 10) (.t 11), .mv 1 (.t 12)]) (.sq (.rg [.mv 13 (.t 1), .mv 4 (.t 13)]) .rt)))
noncomputable abbrev T_laws_markType (nf : Nat) : XT := [e_laws_markStringS nf, e_laws_markTypeS nf]
noncomputable def m_laws_markType (nf : Nat) (a_kind : Int) (k : Int) (a_labels : List Str) (a_args : List Ty) : Option ((Int) × (List Str) × (List Ty)) := runQ (T_laws_markType nf) nf [.ag 0 [.v kI, .sl 0, .sl 1], .v kI] [.row true kS, .row true (kR 0)] [.row true kS, .row true (kR 0)] [.t 4 (.v kI)] ir_laws_markType ((a_kind, (), (), ()), k, ()) (a_labels, a_args)
theorem m_laws_markType_eq (nf : Nat) (a_kind : Int) (k : Int) (a_labels : List Str) (a_args : List Ty) : m_laws_markType nf a_kind k a_labels a_args = (
  cb (m_laws_markStringS nf a_labels k) fun r8 =>
    cb (m_laws_markTypeS nf nf a_args r8.2) fun r12 =>
      some (r12.2, (r8.1, r12.1))) := by kernel_rfl
noncomputable def e_laws_markType (nf : Nat) : XE := eQ 139 [.ag 0 [.v kI, .sl 0, .sl 1], .v kI] [.v kI] [.row true kS, .row true (kR 0)] [.row true kS, .row true (kR 0)] (fun t u => m_laws_markType nf t.1.1 t.2.1 u.1 u.2)
theorem o_laws_markType (nf : Nat) : conOK Try.prog 139 (e_laws_markType nf).con := by
  have ih : XT.ok Try.prog (T_laws_markType nf) := by exact ⟨o_laws_markStringS nf, o_laws_markTypeS nf, trivial⟩
  refine eQ_ok fun t u x h => ?_
  obtain ⟨⟨a_kind, _, _, _⟩, k, _⟩ := t
  exact runQ_ok (N := 14) ih Try.func139 (by kernel_rfl) rfl rfl rfl rfl rfl h
def c39_laws_markTermS : C := .sq (.rg [.mv 72 (.t 1), .mv 4 (.t 72)]) .rt
def c38_laws_markTermS : C := .rg [.mv 10 (.t 5), .bi 11 .add (.t 10) (.i 1), .mv 5 (.t 11)]
def w38_laws_markTermS : C := .kp [0, 1, 5] [[73]] c38_laws_markTermS
def c37_laws_markTermS : C := .rl [.mv 65 (.t 0), .mv 66 (.t 5), .ia 67 (.t 65) (.t 66) (kR 2), .fa 68 (.t 67) 2 5 7] 69 (.t 68) 70 (.t 1) 71 111 (kR 2) [.mv 1 (.t 71)]
def w37_laws_markTermS : C := .kp [0, 1, 5] [[73]] c37_laws_markTermS
def c35_laws_markTermS : C := .sq (.rl [.mv 58 (.t 0), .mv 59 (.t 5), .ia 60 (.t 58) (.t 59) (kR 2), .fa 61 (.t 60) 2 4 6] 62 (.t 61) 63 (.t 1) 64 140 kS [.mv 1 (.t 64)]) w37_laws_markTermS
def w35_laws_markTermS : C := .kp [0, 1, 5] [[73]] c35_laws_markTermS
def c33_laws_markTermS : C := .sq (.rl [.mv 50 (.t 0), .mv 51 (.t 5), .ia 52 (.t 50) (.t 51) (kR 2), .fa 53 (.t 52) 2 3 3, .fa 54 (.t 53) 0 2 2] 55 (.t 54) 56 (.t 1) 57 141 (kR 0) [.mv 1 (.t 57)]) w35_laws_markTermS
def w33_laws_markTermS : C := .kp [0, 1, 5] [[73]] c33_laws_markTermS
def c29_laws_markTermS : C := .sq (.rg [.mv 40 (.t 1), .bi 41 .add (.t 40) (.i 1), .mv 1 (.t 41)]) (.sq (.rl [.mv 42 (.t 0), .mv 43 (.t 5), .ia 44 (.t 42) (.t 43) (kR 2), .fa 45 (.t 44) 2 3 3, .fa 46 (.t 45) 0 1 1] 47 (.t 46) 48 (.t 1) 49 140 kS [.mv 1 (.t 49)]) w33_laws_markTermS)
def w29_laws_markTermS : C := .kp [0, 1, 5] [[73]] c29_laws_markTermS
def c25_laws_markTermS : C := .sq (.rg [.mv 32 (.t 1), .bi 33 .add (.t 32) (.i 1), .mv 1 (.t 33)]) (.sq (.rg [.mv 34 (.t 0), .mv 35 (.t 5), .mv 36 (.t 1), .ia 37 (.t 34) (.t 35) (kR 2), .fa 38 (.t 37) 2 3 3, .fa 39 (.t 38) 0 0 0, .sf (.t 39) (.t 36) kI]) w29_laws_markTermS)
def w25_laws_markTermS : C := .kp [0, 1, 5] [[73]] c25_laws_markTermS
def c21_laws_markTermS : C := .sq (.rg [.mv 25 (.t 1), .bi 26 .add (.t 25) (.i 1), .mv 1 (.t 26)]) (.sq (.rg [.mv 27 (.t 0), .mv 28 (.t 5), .mv 29 (.t 1), .ia 30 (.t 27) (.t 28) (kR 2), .fa 31 (.t 30) 2 2 2, .sf (.t 31) (.t 29) kI]) w25_laws_markTermS)
def w21_laws_markTermS : C := .kp [0, 1, 5] [[73]] c21_laws_markTermS
def c17_laws_markTermS : C := .sq (.rg [.mv 17 (.t 1), .bi 18 .add (.t 17) (.i 1), .mv 1 (.t 18)]) (.sq (.rg [.mv 19 (.t 0), .mv 20 (.t 5), .mv 21 (.t 1), .cv (some 22) 113 [((.t 21), .v kI)], .ia 23 (.t 19) (.t 20) (kR 2), .fa 24 (.t 23) 2 1 1, .sf (.t 24) (.t 22) kS]) w21_laws_markTermS)
def w17_laws_markTermS : C := .kp [0, 1, 5] [[73]] c17_laws_markTermS
def c7_laws_markTermS : C := .sq (.sq (.rg [.mv 6 (.t 5), .mv 7 (.t 0), .ln 8 false (.t 7), .bi 9 .lss (.t 6) (.t 8)]) (.cd (.t 9) .skip (.ex 0))) (.sq (.bk 1 (.sq (.rg [.mv 12 (.t 0), .mv 13 (.t 5), .mv 14 (.t 1), .ia 15 (.t 12) (.t 13) (kR 2), .fa 16 (.t 15) 2 0 0, .sf (.t 16) (.t 14) kI]) w17_laws_markTermS)) w38_laws_markTermS)
def ir_laws_markTermS : C := .sq (.rg [.mv 4 (.i 0)]) (.sq (.sq (.rg [.mv 5 (.i 0)]) (.bk 0 (.lk [0, 1, 5] [[73]] c7_laws_markTermS))) c39_laws_markTermS)
noncomputable def B_laws_markTermS (nf : Nat) : XT := [e_laws_markText nf, e_laws_markStringS nf, e_laws_markTypeS nf]
noncomputable def G_laws_markTermS (nf : Nat) : Nat → XT
  | 0 => []
  | kf + 1 => [eW 111 (kR 2) (fun a j => (fun (a : List Tm) (k : Int) => runW (G_laws_markTermS nf kf ++ B_laws_markTermS nf) nf 73 4 (kR 2) ir_laws_markTermS a k) a j)]
noncomputable abbrev T_laws_markTermS (nf kf : Nat) : XT := G_laws_markTermS nf kf ++ B_laws_markTermS nf
noncomputable def m_laws_markTermS (nf kf : Nat) (a : List Tm) (k : Int) : Option (List Tm × Int) := runW (T_laws_markTermS nf kf) nf 73 4 (kR 2) ir_laws_markTermS a k
noncomputable def X_laws_markTermS {R : Type} (nf kf : Nat) : C → Env → (Xt → Env → Option R) → Option R := xc (R := R) (T_laws_markTermS nf kf).S nf
noncomputable def j37_laws_markTermS (nf kf : Nat) (m6 : Nat) (r64 : List Str × Int) (x5_6 : Int) (y73_37 : List Tm) : Option (List Tm × Int) := X_laws_markTermS nf kf c37_laws_markTermS ⟨[(0, .sl [73]), (1, .v kI r64.2), (5, .v kI x5_6)], [([73], .row true true (kR 2) y73_37)]⟩ (qB 1 (qS (X_laws_markTermS nf kf w38_laws_markTermS) (qM [0, 1, 5] [[73]] (X_laws_markTermS nf kf c7_laws_markTermS) m6 (qB 0 (qS (X_laws_markTermS nf kf c39_laws_markTermS) (KW 4 73 (kR 2)))))))
noncomputable def j35_laws_markTermS (nf kf : Nat) (m6 : Nat) (r57 : List Ty × Int) (x5_6 : Int) (y73_35 : List Tm) : Option (List Tm × Int) := X_laws_markTermS nf kf c35_laws_markTermS ⟨[(0, .sl [73]), (1, .v kI r57.2), (5, .v kI x5_6)], [([73], .row true true (kR 2) y73_35)]⟩ (qB 1 (qS (X_laws_markTermS nf kf w38_laws_markTermS) (qM [0, 1, 5] [[73]] (X_laws_markTermS nf kf c7_laws_markTermS) m6 (qB 0 (qS (X_laws_markTermS nf kf c39_laws_markTermS) (KW 4 73 (kR 2)))))))
noncomputable def j33_laws_markTermS (nf kf : Nat) (m6 : Nat) (r49 : List Str × Int) (x5_6 : Int) (y73_33 : List Tm) : Option (List Tm × Int) := X_laws_markTermS nf kf c33_laws_markTermS ⟨[(0, .sl [73]), (1, .v kI r49.2), (5, .v kI x5_6)], [([73], .row true true (kR 2) y73_33)]⟩ (qB 1 (qS (X_laws_markTermS nf kf w38_laws_markTermS) (qM [0, 1, 5] [[73]] (X_laws_markTermS nf kf c7_laws_markTermS) m6 (qB 0 (qS (X_laws_markTermS nf kf c39_laws_markTermS) (KW 4 73 (kR 2)))))))
noncomputable def j29_laws_markTermS (nf kf : Nat) (m6 : Nat) (x1_6 : Int) (x5_6 : Int) (y73_29 : List Tm) : Option (List Tm × Int) := X_laws_markTermS nf kf c29_laws_markTermS ⟨[(0, .sl [73]), (1, .v kI (w64 ((w64 ((w64 (x1_6 + (1 : Int))) + (1 : Int))) + (1 : Int)))), (5, .v kI x5_6)], [([73], .row true true (kR 2) y73_29)]⟩ (qB 1 (qS (X_laws_markTermS nf kf w38_laws_markTermS) (qM [0, 1, 5] [[73]] (X_laws_markTermS nf kf c7_laws_markTermS) m6 (qB 0 (qS (X_laws_markTermS nf kf c39_laws_markTermS) (KW 4 73 (kR 2)))))))
noncomputable def j25_laws_markTermS (nf kf : Nat) (m6 : Nat) (x1_6 : Int) (x5_6 : Int) (y73_25 : List Tm) : Option (List Tm × Int) := X_laws_markTermS nf kf c25_laws_markTermS ⟨[(0, .sl [73]), (1, .v kI (w64 ((w64 (x1_6 + (1 : Int))) + (1 : Int)))), (5, .v kI x5_6)], [([73], .row true true (kR 2) y73_25)]⟩ (qB 1 (qS (X_laws_markTermS nf kf w38_laws_markTermS) (qM [0, 1, 5] [[73]] (X_laws_markTermS nf kf c7_laws_markTermS) m6 (qB 0 (qS (X_laws_markTermS nf kf c39_laws_markTermS) (KW 4 73 (kR 2)))))))
noncomputable def j21_laws_markTermS (nf kf : Nat) (m6 : Nat) (x1_6 : Int) (x5_6 : Int) (y73_21 : List Tm) : Option (List Tm × Int) := X_laws_markTermS nf kf c21_laws_markTermS ⟨[(0, .sl [73]), (1, .v kI (w64 (x1_6 + (1 : Int)))), (5, .v kI x5_6)], [([73], .row true true (kR 2) y73_21)]⟩ (qB 1 (qS (X_laws_markTermS nf kf w38_laws_markTermS) (qM [0, 1, 5] [[73]] (X_laws_markTermS nf kf c7_laws_markTermS) m6 (qB 0 (qS (X_laws_markTermS nf kf c39_laws_markTermS) (KW 4 73 (kR 2)))))))
noncomputable def j17_laws_markTermS (nf kf : Nat) (m6 : Nat) (x1_6 : Int) (x5_6 : Int) (y73_17 : List Tm) : Option (List Tm × Int) := X_laws_markTermS nf kf c17_laws_markTermS ⟨[(0, .sl [73]), (1, .v kI x1_6), (5, .v kI x5_6)], [([73], .row true true (kR 2) y73_17)]⟩ (qB 1 (qS (X_laws_markTermS nf kf w38_laws_markTermS) (qM [0, 1, 5] [[73]] (X_laws_markTermS nf kf c7_laws_markTermS) m6 (qB 0 (qS (X_laws_markTermS nf kf c39_laws_markTermS) (KW 4 73 (kR 2)))))))
noncomputable def j38_laws_markTermS (nf kf : Nat) (m6 : Nat) (r71 : List Tm × Int) (x5_6 : Int) (y73_38 : List Tm) : Option (List Tm × Int) := X_laws_markTermS nf kf c38_laws_markTermS ⟨[(0, .sl [73]), (1, .v kI r71.2), (5, .v kI x5_6)], [([73], .row true true (kR 2) y73_38)]⟩ (qM [0, 1, 5] [[73]] (X_laws_markTermS nf kf c7_laws_markTermS) m6 (qB 0 (qS (X_laws_markTermS nf kf c39_laws_markTermS) (KW 4 73 (kR 2)))))
noncomputable def l6_laws_markTermS (nf kf : Nat) (m6 : Nat) (x1_6 : Int) (x5_6 : Int) (y73_6 : List Tm) : Option (List Tm × Int) := xit [0, 1, 5] [[73]] (X_laws_markTermS nf kf c7_laws_markTermS) (qB 0 (qS (X_laws_markTermS nf kf c39_laws_markTermS) (KW 4 73 (kR 2)))) m6 ⟨[(0, .sl [73]), (1, .v kI x1_6), (5, .v kI x5_6)], [([73], .row true true (kR 2) y73_6)]⟩
theorem j37_laws_markTermS_eq (nf kf : Nat) (m6 : Nat) (r64 : List Str × Int) (x5_6 : Int) (y73_37 : List Tm) : j37_laws_markTermS nf (kf + 1) m6 r64 x5_6 y73_37 = (
  gg (0 ≤ x5_6 ∧ x5_6 < (List.length y73_37 : Int)) <|
    gg (0 ≤ x5_6 ∧ x5_6 < (List.length y73_37 : Int)) <|
      cb (m_laws_markTermS nf kf ((gt y73_37 x5_6 Tm.zero).args) r64.2) fun r71 =>
        mark (j38_laws_markTermS nf (kf + 1) m6 r71 x5_6 (List.set y73_37 (Int.toNat x5_6) (Tm.mk ((gt y73_37 x5_6 Tm.zero).kind) ((gt y73_37 x5_6 Tm.zero).name) ((gt y73_37 x5_6 Tm.zero).n) (Ty.h ((gt y73_37 x5_6 Tm.zero).type)) ((gt y73_37 x5_6 Tm.zero).labels) r71.1)))) := by
  unfold j37_laws_markTermS j38_laws_markTermS c37_laws_markTermS c39_laws_markTermS w38_laws_markTermS
  generalize c38_laws_markTermS = x0
  revert x0
  refine id ?_
  intro x0
  kernel_rfl
theorem j35_laws_markTermS_eq (nf kf : Nat) (m6 : Nat) (r57 : List Ty × Int) (x5_6 : Int) (y73_35 : List Tm) : j35_laws_markTermS nf (kf + 1) m6 r57 x5_6 y73_35 = (
  gg (0 ≤ x5_6 ∧ x5_6 < (List.length y73_35 : Int)) <|
    gg (0 ≤ x5_6 ∧ x5_6 < (List.length y73_35 : Int)) <|
      cb (m_laws_markStringS nf ((gt y73_35 x5_6 Tm.zero).labels) r57.2) fun r64 =>
        mark (j37_laws_markTermS nf (kf + 1) m6 r64 x5_6 (List.set y73_35 (Int.toNat x5_6) (Tm.mk ((gt y73_35 x5_6 Tm.zero).kind) ((gt y73_35 x5_6 Tm.zero).name) ((gt y73_35 x5_6 Tm.zero).n) (Ty.h ((gt y73_35 x5_6 Tm.zero).type)) r64.1 ((gt y73_35 x5_6 Tm.zero).args))))) := by
  unfold j35_laws_markTermS j37_laws_markTermS c35_laws_markTermS c39_laws_markTermS w38_laws_markTermS w37_laws_markTermS
  generalize c38_laws_markTermS = x0
  generalize c37_laws_markTermS = x1
  revert x0 x1
  refine id ?_
  intro x0 x1
  kernel_rfl
theorem j33_laws_markTermS_eq (nf kf : Nat) (m6 : Nat) (r49 : List Str × Int) (x5_6 : Int) (y73_33 : List Tm) : j33_laws_markTermS nf (kf + 1) m6 r49 x5_6 y73_33 = (
  gg (0 ≤ x5_6 ∧ x5_6 < (List.length y73_33 : Int)) <|
    gg (0 ≤ x5_6 ∧ x5_6 < (List.length y73_33 : Int)) <|
      cb (m_laws_markTypeS nf nf (((gt y73_33 x5_6 Tm.zero).type).args) r49.2) fun r57 =>
        mark (j35_laws_markTermS nf (kf + 1) m6 r57 x5_6 (List.set y73_33 (Int.toNat x5_6) (Tm.mk ((gt y73_33 x5_6 Tm.zero).kind) ((gt y73_33 x5_6 Tm.zero).name) ((gt y73_33 x5_6 Tm.zero).n) (Ty.mk (((gt y73_33 x5_6 Tm.zero).type).kind) (((gt y73_33 x5_6 Tm.zero).type).labels) r57.1) ((gt y73_33 x5_6 Tm.zero).labels) ((gt y73_33 x5_6 Tm.zero).args))))) := by
  unfold j33_laws_markTermS j35_laws_markTermS c33_laws_markTermS c39_laws_markTermS w38_laws_markTermS w35_laws_markTermS
  generalize c38_laws_markTermS = x0
  generalize c35_laws_markTermS = x1
  revert x0 x1
  refine id ?_
  intro x0 x1
  kernel_rfl
theorem j29_laws_markTermS_eq (nf kf : Nat) (m6 : Nat) (x1_6 : Int) (x5_6 : Int) (y73_29 : List Tm) : j29_laws_markTermS nf (kf + 1) m6 x1_6 x5_6 y73_29 = (
  gg (0 ≤ x5_6 ∧ x5_6 < (List.length y73_29 : Int)) <|
    gg (0 ≤ x5_6 ∧ x5_6 < (List.length y73_29 : Int)) <|
      cb (m_laws_markStringS nf (((gt y73_29 x5_6 Tm.zero).type).labels) (w64 ((w64 ((w64 ((w64 (x1_6 + (1 : Int))) + (1 : Int))) + (1 : Int))) + (1 : Int)))) fun r49 =>
        mark (j33_laws_markTermS nf (kf + 1) m6 r49 x5_6 (List.set y73_29 (Int.toNat x5_6) (Tm.mk ((gt y73_29 x5_6 Tm.zero).kind) ((gt y73_29 x5_6 Tm.zero).name) ((gt y73_29 x5_6 Tm.zero).n) (Ty.mk (((gt y73_29 x5_6 Tm.zero).type).kind) r49.1 (((gt y73_29 x5_6 Tm.zero).type).args)) ((gt y73_29 x5_6 Tm.zero).labels) ((gt y73_29 x5_6 Tm.zero).args))))) := by
  unfold j29_laws_markTermS j33_laws_markTermS c29_laws_markTermS c39_laws_markTermS w38_laws_markTermS w33_laws_markTermS
  generalize c38_laws_markTermS = x0
  generalize c33_laws_markTermS = x1
  revert x0 x1
  refine id ?_
  intro x0 x1
  kernel_rfl
theorem j25_laws_markTermS_eq (nf kf : Nat) (m6 : Nat) (x1_6 : Int) (x5_6 : Int) (y73_25 : List Tm) : j25_laws_markTermS nf (kf + 1) m6 x1_6 x5_6 y73_25 = (
  gg (0 ≤ x5_6 ∧ x5_6 < (List.length y73_25 : Int)) <|
    gg (0 ≤ x5_6 ∧ x5_6 < (List.length y73_25 : Int)) <|
      mark (j29_laws_markTermS nf (kf + 1) m6 x1_6 x5_6 (List.set y73_25 (Int.toNat x5_6) (Tm.mk ((gt y73_25 x5_6 Tm.zero).kind) ((gt y73_25 x5_6 Tm.zero).name) ((gt y73_25 x5_6 Tm.zero).n) (Ty.mk (w64 ((w64 ((w64 (x1_6 + (1 : Int))) + (1 : Int))) + (1 : Int))) (((gt y73_25 x5_6 Tm.zero).type).labels) (((gt y73_25 x5_6 Tm.zero).type).args)) ((gt y73_25 x5_6 Tm.zero).labels) ((gt y73_25 x5_6 Tm.zero).args))))) := by
  unfold j25_laws_markTermS j29_laws_markTermS c25_laws_markTermS c39_laws_markTermS w38_laws_markTermS w29_laws_markTermS
  generalize c38_laws_markTermS = x0
  generalize c29_laws_markTermS = x1
  revert x0 x1
  refine id ?_
  intro x0 x1
  kernel_rfl
theorem j21_laws_markTermS_eq (nf kf : Nat) (m6 : Nat) (x1_6 : Int) (x5_6 : Int) (y73_21 : List Tm) : j21_laws_markTermS nf (kf + 1) m6 x1_6 x5_6 y73_21 = (
  gg (0 ≤ x5_6 ∧ x5_6 < (List.length y73_21 : Int)) <|
    gg (0 ≤ x5_6 ∧ x5_6 < (List.length y73_21 : Int)) <|
      mark (j25_laws_markTermS nf (kf + 1) m6 x1_6 x5_6 (List.set y73_21 (Int.toNat x5_6) (Tm.mk ((gt y73_21 x5_6 Tm.zero).kind) ((gt y73_21 x5_6 Tm.zero).name) (w64 ((w64 (x1_6 + (1 : Int))) + (1 : Int))) (Ty.h ((gt y73_21 x5_6 Tm.zero).type)) ((gt y73_21 x5_6 Tm.zero).labels) ((gt y73_21 x5_6 Tm.zero).args))))) := by
  unfold j21_laws_markTermS j25_laws_markTermS c21_laws_markTermS c39_laws_markTermS w38_laws_markTermS w25_laws_markTermS
  generalize c38_laws_markTermS = x0
  generalize c25_laws_markTermS = x1
  revert x0 x1
  refine id ?_
  intro x0 x1
  kernel_rfl
theorem j17_laws_markTermS_eq (nf kf : Nat) (m6 : Nat) (x1_6 : Int) (x5_6 : Int) (y73_17 : List Tm) : j17_laws_markTermS nf (kf + 1) m6 x1_6 x5_6 y73_17 = (
  cb (m_laws_markText nf (w64 (x1_6 + (1 : Int)))) fun r22 =>
    gg (0 ≤ x5_6 ∧ x5_6 < (List.length y73_17 : Int)) <|
      gg (0 ≤ x5_6 ∧ x5_6 < (List.length y73_17 : Int)) <|
        mark (j21_laws_markTermS nf (kf + 1) m6 x1_6 x5_6 (List.set y73_17 (Int.toNat x5_6) (Tm.mk ((gt y73_17 x5_6 Tm.zero).kind) r22 ((gt y73_17 x5_6 Tm.zero).n) (Ty.h ((gt y73_17 x5_6 Tm.zero).type)) ((gt y73_17 x5_6 Tm.zero).labels) ((gt y73_17 x5_6 Tm.zero).args))))) := by
  unfold j17_laws_markTermS j21_laws_markTermS c17_laws_markTermS c39_laws_markTermS w38_laws_markTermS w21_laws_markTermS
  generalize c38_laws_markTermS = x0
  generalize c21_laws_markTermS = x1
  revert x0 x1
  refine id ?_
  intro x0 x1
  kernel_rfl
theorem j38_laws_markTermS_eq (nf kf : Nat) (m6 : Nat) (r71 : List Tm × Int) (x5_6 : Int) (y73_38 : List Tm) : j38_laws_markTermS nf (kf + 1) m6 r71 x5_6 y73_38 = (
  mark (l6_laws_markTermS nf (kf + 1) m6 r71.2 (w64 (x5_6 + (1 : Int))) y73_38)) := by kernel_rfl
theorem l6_laws_markTermS_eq (nf kf : Nat) (m6 : Nat) (x1_6 : Int) (x5_6 : Int) (y73_6 : List Tm) : l6_laws_markTermS nf (kf + 1) (m6 + 1) x1_6 x5_6 y73_6 = (
  br (decide (x5_6 < (List.length y73_6 : Int))) (
    gg (0 ≤ x5_6 ∧ x5_6 < (List.length y73_6 : Int)) <|
      gg (0 ≤ x5_6 ∧ x5_6 < (List.length y73_6 : Int)) <|
        mark (j17_laws_markTermS nf (kf + 1) m6 x1_6 x5_6 (List.set y73_6 (Int.toNat x5_6) (Tm.mk x1_6 ((gt y73_6 x5_6 Tm.zero).name) ((gt y73_6 x5_6 Tm.zero).n) (Ty.h ((gt y73_6 x5_6 Tm.zero).type)) ((gt y73_6 x5_6 Tm.zero).labels) ((gt y73_6 x5_6 Tm.zero).args))))) (
    some (y73_6, x1_6))) := by
  unfold l6_laws_markTermS j17_laws_markTermS c7_laws_markTermS c39_laws_markTermS w17_laws_markTermS w38_laws_markTermS
  generalize c17_laws_markTermS = x0
  generalize c38_laws_markTermS = x1
  revert x0 x1
  refine id ?_
  intro x0 x1
  kernel_rfl
theorem m_laws_markTermS_eq (nf kf : Nat) (a : List Tm) (k : Int) : m_laws_markTermS nf (kf + 1) a k = (
  mark (l6_laws_markTermS nf (kf + 1) nf k (0 : Int) a)) := by kernel_rfl
noncomputable def e_laws_markTermS (nf : Nat) : XE := eW 111 (kR 2) (fun a j => m_laws_markTermS nf nf a j)
theorem gok_laws_markTermS (nf : Nat) : ∀ kf : Nat, XT.ok Try.prog (G_laws_markTermS nf kf ++ B_laws_markTermS nf)
  | 0 => by exact ⟨o_laws_markText nf, o_laws_markStringS nf, o_laws_markTypeS nf, trivial⟩
  | kf + 1 => by
    have ih := gok_laws_markTermS nf kf
    refine ⟨?_, (by exact ⟨o_laws_markText nf, o_laws_markStringS nf, o_laws_markTypeS nf, trivial⟩)⟩
    · refine eW_ok fun a j x h => ?_
      exact runW_ok (N := 73) ih Try.func111 (by kernel_rfl) rfl h
theorem o_laws_markTermS (nf : Nat) : conOK Try.prog 111 (e_laws_markTermS nf).con := by
  have ih := gok_laws_markTermS nf nf
  refine eW_ok fun a j x h => ?_
  exact runW_ok (N := 73) ih Try.func111 (by kernel_rfl) rfl h
def ir_laws_markTerm : C := .sq (.rg [.bx 2 (.t 0) (kR 2), .mv 4 (.i 0)]) (.sq (.rg [.fa 5 (.t 2) 2 3 3, .ld 6 (.t 5) (kR 0), .mv 7 (.t 1), .cq (some 8) 139 [((.t 6), .q), ((.t 7), .v kI)], .mv 1 (.t 8)]) (.sq (.rg [.fa 9 (.t 2) 2 4 6, .ld 10 (.t 9) (kL kS), .mv 11 (.t 1), .cw (some 12) 140 kS (.t 10) (.t 11), .mv 1 (.t 12)]) (.sq (.rg [.fa 13 (.t 2) 2 5 7, .ld 14 (.t 13) (kL (kR 2)), .mv 15 (.t 1), .cw (some 16) 111 (kR 2) (.t 14) (.t 15), .mv 1 (.t 16)]) (.sq (.rg [.mv 17 (.t 1), .mv 4 (.t 17)]) .rt))))
noncomputable abbrev T_laws_markTerm (nf : Nat) : XT := [e_laws_markType nf, e_laws_markStringS nf, e_laws_markTermS nf]
noncomputable def m_laws_markTerm (nf : Nat) (a_kind : Int) (a_name : Str) (a_n : Int) (a_type_kind : Int) (k : Int) (a_type_labels : List Str) (a_type_args : List Ty) (a_labels : List Str) (a_args : List Tm) : Option ((Int) × (List Str) × (List Ty) × (List Str) × (List Tm)) := runQ (T_laws_markTerm nf) nf [.ag 2 [.v kI, .v kS, .v kI, .v kI, .sl 0, .sl 1, .sl 2, .sl 3], .v kI] [.row true kS, .row true (kR 0), .row true kS, .row true (kR 2)] [.row true kS, .row true (kR 0), .row true kS, .row true (kR 2)] [.t 4 (.v kI)] ir_laws_markTerm ((a_kind, a_name, a_n, a_type_kind, (), (), (), (), ()), k, ()) (a_type_labels, a_type_args, a_labels, a_args)
theorem m_laws_markTerm_eq (nf : Nat) (a_kind : Int) (a_name : Str) (a_n : Int) (a_type_kind : Int) (k : Int) (a_type_labels : List Str) (a_type_args : List Ty) (a_labels : List Str) (a_args : List Tm) : m_laws_markTerm nf a_kind a_name a_n a_type_kind k a_type_labels a_type_args a_labels a_args = (
  cb (m_laws_markType nf a_type_kind k a_type_labels a_type_args) fun r8 =>
    cb (m_laws_markStringS nf a_labels r8.1) fun r12 =>
      cb (m_laws_markTermS nf nf a_args r12.2) fun r16 =>
        some (r16.2, (r8.2.1, r8.2.2, r12.1, r16.1))) := by kernel_rfl
noncomputable def e_laws_markTerm (nf : Nat) : XE := eQ 110 [.ag 2 [.v kI, .v kS, .v kI, .v kI, .sl 0, .sl 1, .sl 2, .sl 3], .v kI] [.v kI] [.row true kS, .row true (kR 0), .row true kS, .row true (kR 2)] [.row true kS, .row true (kR 0), .row true kS, .row true (kR 2)] (fun t u => m_laws_markTerm nf t.1.1 t.1.2.1 t.1.2.2.1 t.1.2.2.2.1 t.2.1 u.1 u.2.1 u.2.2.1 u.2.2.2)
theorem o_laws_markTerm (nf : Nat) : conOK Try.prog 110 (e_laws_markTerm nf).con := by
  have ih : XT.ok Try.prog (T_laws_markTerm nf) := by exact ⟨o_laws_markType nf, o_laws_markStringS nf, o_laws_markTermS nf, trivial⟩
  refine eQ_ok fun t u x h => ?_
  obtain ⟨⟨a_kind, a_name, a_n, a_type_kind, _, _, _, _, _⟩, k, _⟩ := t
  exact runQ_ok (N := 18) ih Try.func110 (by kernel_rfl) rfl rfl rfl rfl rfl h
def c55_laws_markPlanS : C := .sq (.rg [.mv 117 (.t 1), .mv 4 (.t 117)]) .rt
def c54_laws_markPlanS : C := .rg [.mv 10 (.t 5), .bi 11 .add (.t 10) (.i 1), .mv 5 (.t 11)]
def w54_laws_markPlanS : C := .kp [0, 1, 5] [[118]] c54_laws_markPlanS
def c53_laws_markPlanS : C := .rl [.mv 110 (.t 0), .mv 111 (.t 5), .ia 112 (.t 110) (.t 111) (kR 17), .fa 113 (.t 112) 17 5 12] 114 (.t 113) 115 (.t 1) 116 112 (kR 17) [.mv 1 (.t 116)]
def w53_laws_markPlanS : C := .kp [0, 1, 5] [[118]] c53_laws_markPlanS
def c51_laws_markPlanS : C := .sq (.rl [.mv 103 (.t 0), .mv 104 (.t 5), .ia 105 (.t 103) (.t 104) (kR 17), .fa 106 (.t 105) 17 4 11] 107 (.t 106) 108 (.t 1) 109 111 (kR 2) [.mv 1 (.t 109)]) w53_laws_markPlanS
def w51_laws_markPlanS : C := .kp [0, 1, 5] [[118]] c51_laws_markPlanS
def c49_laws_markPlanS : C := .sq (.rl [.mv 95 (.t 0), .mv 96 (.t 5), .ia 97 (.t 95) (.t 96) (kR 17), .fa 98 (.t 97) 17 3 3, .fa 99 (.t 98) 2 5 7] 100 (.t 99) 101 (.t 1) 102 111 (kR 2) [.mv 1 (.t 102)]) w51_laws_markPlanS
def w49_laws_markPlanS : C := .kp [0, 1, 5] [[118]] c49_laws_markPlanS
def c47_laws_markPlanS : C := .sq (.rl [.mv 87 (.t 0), .mv 88 (.t 5), .ia 89 (.t 87) (.t 88) (kR 17), .fa 90 (.t 89) 17 3 3, .fa 91 (.t 90) 2 4 6] 92 (.t 91) 93 (.t 1) 94 140 kS [.mv 1 (.t 94)]) w49_laws_markPlanS
def w47_laws_markPlanS : C := .kp [0, 1, 5] [[118]] c47_laws_markPlanS
def c45_laws_markPlanS : C := .sq (.rl [.mv 78 (.t 0), .mv 79 (.t 5), .ia 80 (.t 78) (.t 79) (kR 17), .fa 81 (.t 80) 17 3 3, .fa 82 (.t 81) 2 3 3, .fa 83 (.t 82) 0 2 2] 84 (.t 83) 85 (.t 1) 86 141 (kR 0) [.mv 1 (.t 86)]) w47_laws_markPlanS
def w45_laws_markPlanS : C := .kp [0, 1, 5] [[118]] c45_laws_markPlanS
def c41_laws_markPlanS : C := .sq (.rg [.mv 67 (.t 1), .bi 68 .add (.t 67) (.i 1), .mv 1 (.t 68)]) (.sq (.rl [.mv 69 (.t 0), .mv 70 (.t 5), .ia 71 (.t 69) (.t 70) (kR 17), .fa 72 (.t 71) 17 3 3, .fa 73 (.t 72) 2 3 3, .fa 74 (.t 73) 0 1 1] 75 (.t 74) 76 (.t 1) 77 140 kS [.mv 1 (.t 77)]) w45_laws_markPlanS)
def w41_laws_markPlanS : C := .kp [0, 1, 5] [[118]] c41_laws_markPlanS
def c37_laws_markPlanS : C := .sq (.rg [.mv 58 (.t 1), .bi 59 .add (.t 58) (.i 1), .mv 1 (.t 59)]) (.sq (.rg [.mv 60 (.t 0), .mv 61 (.t 5), .mv 62 (.t 1), .ia 63 (.t 60) (.t 61) (kR 17), .fa 64 (.t 63) 17 3 3, .fa 65 (.t 64) 2 3 3, .fa 66 (.t 65) 0 0 0, .sf (.t 66) (.t 62) kI]) w41_laws_markPlanS)
def w37_laws_markPlanS : C := .kp [0, 1, 5] [[118]] c37_laws_markPlanS
def c33_laws_markPlanS : C := .sq (.rg [.mv 50 (.t 1), .bi 51 .add (.t 50) (.i 1), .mv 1 (.t 51)]) (.sq (.rg [.mv 52 (.t 0), .mv 53 (.t 5), .mv 54 (.t 1), .ia 55 (.t 52) (.t 53) (kR 17), .fa 56 (.t 55) 17 3 3, .fa 57 (.t 56) 2 2 2, .sf (.t 57) (.t 54) kI]) w37_laws_markPlanS)
def w33_laws_markPlanS : C := .kp [0, 1, 5] [[118]] c33_laws_markPlanS
def c29_laws_markPlanS : C := .sq (.rg [.mv 41 (.t 1), .bi 42 .add (.t 41) (.i 1), .mv 1 (.t 42)]) (.sq (.rg [.mv 43 (.t 0), .mv 44 (.t 5), .mv 45 (.t 1), .cv (some 46) 113 [((.t 45), .v kI)], .ia 47 (.t 43) (.t 44) (kR 17), .fa 48 (.t 47) 17 3 3, .fa 49 (.t 48) 2 1 1, .sf (.t 49) (.t 46) kS]) w33_laws_markPlanS)
def w29_laws_markPlanS : C := .kp [0, 1, 5] [[118]] c29_laws_markPlanS
def c25_laws_markPlanS : C := .sq (.rg [.mv 33 (.t 1), .bi 34 .add (.t 33) (.i 1), .mv 1 (.t 34)]) (.sq (.rg [.mv 35 (.t 0), .mv 36 (.t 5), .mv 37 (.t 1), .ia 38 (.t 35) (.t 36) (kR 17), .fa 39 (.t 38) 17 3 3, .fa 40 (.t 39) 2 0 0, .sf (.t 40) (.t 37) kI]) w29_laws_markPlanS)
def w25_laws_markPlanS : C := .kp [0, 1, 5] [[118]] c25_laws_markPlanS
def c21_laws_markPlanS : C := .sq (.rg [.mv 25 (.t 1), .bi 26 .add (.t 25) (.i 1), .mv 1 (.t 26)]) (.sq (.rg [.mv 27 (.t 0), .mv 28 (.t 5), .mv 29 (.t 1), .cv (some 30) 113 [((.t 29), .v kI)], .ia 31 (.t 27) (.t 28) (kR 17), .fa 32 (.t 31) 17 2 2, .sf (.t 32) (.t 30) kS]) w25_laws_markPlanS)
def w21_laws_markPlanS : C := .kp [0, 1, 5] [[118]] c21_laws_markPlanS
def c17_laws_markPlanS : C := .sq (.rg [.mv 17 (.t 1), .bi 18 .add (.t 17) (.i 1), .mv 1 (.t 18)]) (.sq (.rg [.mv 19 (.t 0), .mv 20 (.t 5), .mv 21 (.t 1), .cv (some 22) 113 [((.t 21), .v kI)], .ia 23 (.t 19) (.t 20) (kR 17), .fa 24 (.t 23) 17 1 1, .sf (.t 24) (.t 22) kS]) w21_laws_markPlanS)
def w17_laws_markPlanS : C := .kp [0, 1, 5] [[118]] c17_laws_markPlanS
def c7_laws_markPlanS : C := .sq (.sq (.rg [.mv 6 (.t 5), .mv 7 (.t 0), .ln 8 false (.t 7), .bi 9 .lss (.t 6) (.t 8)]) (.cd (.t 9) .skip (.ex 0))) (.sq (.bk 1 (.sq (.rg [.mv 12 (.t 0), .mv 13 (.t 5), .mv 14 (.t 1), .ia 15 (.t 12) (.t 13) (kR 17), .fa 16 (.t 15) 17 0 0, .sf (.t 16) (.t 14) kI]) w17_laws_markPlanS)) w54_laws_markPlanS)
def ir_laws_markPlanS : C := .sq (.rg [.mv 4 (.i 0)]) (.sq (.sq (.rg [.mv 5 (.i 0)]) (.bk 0 (.lk [0, 1, 5] [[118]] c7_laws_markPlanS))) c55_laws_markPlanS)
noncomputable def B_laws_markPlanS (nf : Nat) : XT := [e_laws_markText nf, e_laws_markStringS nf, e_laws_markTypeS nf, e_laws_markTermS nf]
noncomputable def G_laws_markPlanS (nf : Nat) : Nat → XT
  | 0 => []
  | kf + 1 => [eW 112 (kR 17) (fun a j => (fun (a : List Plan) (k : Int) => runW (G_laws_markPlanS nf kf ++ B_laws_markPlanS nf) nf 118 4 (kR 17) ir_laws_markPlanS a k) a j)]
noncomputable abbrev T_laws_markPlanS (nf kf : Nat) : XT := G_laws_markPlanS nf kf ++ B_laws_markPlanS nf
noncomputable def m_laws_markPlanS (nf kf : Nat) (a : List Plan) (k : Int) : Option (List Plan × Int) := runW (T_laws_markPlanS nf kf) nf 118 4 (kR 17) ir_laws_markPlanS a k
noncomputable def X_laws_markPlanS {R : Type} (nf kf : Nat) : C → Env → (Xt → Env → Option R) → Option R := xc (R := R) (T_laws_markPlanS nf kf).S nf
noncomputable def j53_laws_markPlanS (nf kf : Nat) (m6 : Nat) (r109 : List Tm × Int) (x5_6 : Int) (y118_53 : List Plan) : Option (List Plan × Int) := X_laws_markPlanS nf kf c53_laws_markPlanS ⟨[(0, .sl [118]), (1, .v kI r109.2), (5, .v kI x5_6)], [([118], .row true true (kR 17) y118_53)]⟩ (qB 1 (qS (X_laws_markPlanS nf kf w54_laws_markPlanS) (qM [0, 1, 5] [[118]] (X_laws_markPlanS nf kf c7_laws_markPlanS) m6 (qB 0 (qS (X_laws_markPlanS nf kf c55_laws_markPlanS) (KW 4 118 (kR 17)))))))
noncomputable def j51_laws_markPlanS (nf kf : Nat) (m6 : Nat) (r102 : List Tm × Int) (x5_6 : Int) (y118_51 : List Plan) : Option (List Plan × Int) := X_laws_markPlanS nf kf c51_laws_markPlanS ⟨[(0, .sl [118]), (1, .v kI r102.2), (5, .v kI x5_6)], [([118], .row true true (kR 17) y118_51)]⟩ (qB 1 (qS (X_laws_markPlanS nf kf w54_laws_markPlanS) (qM [0, 1, 5] [[118]] (X_laws_markPlanS nf kf c7_laws_markPlanS) m6 (qB 0 (qS (X_laws_markPlanS nf kf c55_laws_markPlanS) (KW 4 118 (kR 17)))))))
noncomputable def j49_laws_markPlanS (nf kf : Nat) (m6 : Nat) (r94 : List Str × Int) (x5_6 : Int) (y118_49 : List Plan) : Option (List Plan × Int) := X_laws_markPlanS nf kf c49_laws_markPlanS ⟨[(0, .sl [118]), (1, .v kI r94.2), (5, .v kI x5_6)], [([118], .row true true (kR 17) y118_49)]⟩ (qB 1 (qS (X_laws_markPlanS nf kf w54_laws_markPlanS) (qM [0, 1, 5] [[118]] (X_laws_markPlanS nf kf c7_laws_markPlanS) m6 (qB 0 (qS (X_laws_markPlanS nf kf c55_laws_markPlanS) (KW 4 118 (kR 17)))))))
noncomputable def j47_laws_markPlanS (nf kf : Nat) (m6 : Nat) (r86 : List Ty × Int) (x5_6 : Int) (y118_47 : List Plan) : Option (List Plan × Int) := X_laws_markPlanS nf kf c47_laws_markPlanS ⟨[(0, .sl [118]), (1, .v kI r86.2), (5, .v kI x5_6)], [([118], .row true true (kR 17) y118_47)]⟩ (qB 1 (qS (X_laws_markPlanS nf kf w54_laws_markPlanS) (qM [0, 1, 5] [[118]] (X_laws_markPlanS nf kf c7_laws_markPlanS) m6 (qB 0 (qS (X_laws_markPlanS nf kf c55_laws_markPlanS) (KW 4 118 (kR 17)))))))
noncomputable def j45_laws_markPlanS (nf kf : Nat) (m6 : Nat) (r77 : List Str × Int) (x5_6 : Int) (y118_45 : List Plan) : Option (List Plan × Int) := X_laws_markPlanS nf kf c45_laws_markPlanS ⟨[(0, .sl [118]), (1, .v kI r77.2), (5, .v kI x5_6)], [([118], .row true true (kR 17) y118_45)]⟩ (qB 1 (qS (X_laws_markPlanS nf kf w54_laws_markPlanS) (qM [0, 1, 5] [[118]] (X_laws_markPlanS nf kf c7_laws_markPlanS) m6 (qB 0 (qS (X_laws_markPlanS nf kf c55_laws_markPlanS) (KW 4 118 (kR 17)))))))
noncomputable def j41_laws_markPlanS (nf kf : Nat) (m6 : Nat) (x1_33 : Int) (x5_6 : Int) (y118_41 : List Plan) : Option (List Plan × Int) := X_laws_markPlanS nf kf c41_laws_markPlanS ⟨[(0, .sl [118]), (1, .v kI (w64 ((w64 (x1_33 + (1 : Int))) + (1 : Int)))), (5, .v kI x5_6)], [([118], .row true true (kR 17) y118_41)]⟩ (qB 1 (qS (X_laws_markPlanS nf kf w54_laws_markPlanS) (qM [0, 1, 5] [[118]] (X_laws_markPlanS nf kf c7_laws_markPlanS) m6 (qB 0 (qS (X_laws_markPlanS nf kf c55_laws_markPlanS) (KW 4 118 (kR 17)))))))
noncomputable def j37_laws_markPlanS (nf kf : Nat) (m6 : Nat) (x1_33 : Int) (x5_6 : Int) (y118_37 : List Plan) : Option (List Plan × Int) := X_laws_markPlanS nf kf c37_laws_markPlanS ⟨[(0, .sl [118]), (1, .v kI (w64 (x1_33 + (1 : Int)))), (5, .v kI x5_6)], [([118], .row true true (kR 17) y118_37)]⟩ (qB 1 (qS (X_laws_markPlanS nf kf w54_laws_markPlanS) (qM [0, 1, 5] [[118]] (X_laws_markPlanS nf kf c7_laws_markPlanS) m6 (qB 0 (qS (X_laws_markPlanS nf kf c55_laws_markPlanS) (KW 4 118 (kR 17)))))))
noncomputable def j33_laws_markPlanS (nf kf : Nat) (m6 : Nat) (x5_6 : Int) (x1_33 : Int) (y118_33 : List Plan) : Option (List Plan × Int) := X_laws_markPlanS nf kf c33_laws_markPlanS ⟨[(0, .sl [118]), (1, .v kI x1_33), (5, .v kI x5_6)], [([118], .row true true (kR 17) y118_33)]⟩ (qB 1 (qS (X_laws_markPlanS nf kf w54_laws_markPlanS) (qM [0, 1, 5] [[118]] (X_laws_markPlanS nf kf c7_laws_markPlanS) m6 (qB 0 (qS (X_laws_markPlanS nf kf c55_laws_markPlanS) (KW 4 118 (kR 17)))))))
noncomputable def j29_laws_markPlanS (nf kf : Nat) (m6 : Nat) (x1_6 : Int) (x5_6 : Int) (y118_29 : List Plan) : Option (List Plan × Int) := X_laws_markPlanS nf kf c29_laws_markPlanS ⟨[(0, .sl [118]), (1, .v kI (w64 ((w64 ((w64 (x1_6 + (1 : Int))) + (1 : Int))) + (1 : Int)))), (5, .v kI x5_6)], [([118], .row true true (kR 17) y118_29)]⟩ (qB 1 (qS (X_laws_markPlanS nf kf w54_laws_markPlanS) (qM [0, 1, 5] [[118]] (X_laws_markPlanS nf kf c7_laws_markPlanS) m6 (qB 0 (qS (X_laws_markPlanS nf kf c55_laws_markPlanS) (KW 4 118 (kR 17)))))))
noncomputable def j25_laws_markPlanS (nf kf : Nat) (m6 : Nat) (x1_6 : Int) (x5_6 : Int) (y118_25 : List Plan) : Option (List Plan × Int) := X_laws_markPlanS nf kf c25_laws_markPlanS ⟨[(0, .sl [118]), (1, .v kI (w64 ((w64 (x1_6 + (1 : Int))) + (1 : Int)))), (5, .v kI x5_6)], [([118], .row true true (kR 17) y118_25)]⟩ (qB 1 (qS (X_laws_markPlanS nf kf w54_laws_markPlanS) (qM [0, 1, 5] [[118]] (X_laws_markPlanS nf kf c7_laws_markPlanS) m6 (qB 0 (qS (X_laws_markPlanS nf kf c55_laws_markPlanS) (KW 4 118 (kR 17)))))))
noncomputable def j21_laws_markPlanS (nf kf : Nat) (m6 : Nat) (x1_6 : Int) (x5_6 : Int) (y118_21 : List Plan) : Option (List Plan × Int) := X_laws_markPlanS nf kf c21_laws_markPlanS ⟨[(0, .sl [118]), (1, .v kI (w64 (x1_6 + (1 : Int)))), (5, .v kI x5_6)], [([118], .row true true (kR 17) y118_21)]⟩ (qB 1 (qS (X_laws_markPlanS nf kf w54_laws_markPlanS) (qM [0, 1, 5] [[118]] (X_laws_markPlanS nf kf c7_laws_markPlanS) m6 (qB 0 (qS (X_laws_markPlanS nf kf c55_laws_markPlanS) (KW 4 118 (kR 17)))))))
noncomputable def j17_laws_markPlanS (nf kf : Nat) (m6 : Nat) (x1_6 : Int) (x5_6 : Int) (y118_17 : List Plan) : Option (List Plan × Int) := X_laws_markPlanS nf kf c17_laws_markPlanS ⟨[(0, .sl [118]), (1, .v kI x1_6), (5, .v kI x5_6)], [([118], .row true true (kR 17) y118_17)]⟩ (qB 1 (qS (X_laws_markPlanS nf kf w54_laws_markPlanS) (qM [0, 1, 5] [[118]] (X_laws_markPlanS nf kf c7_laws_markPlanS) m6 (qB 0 (qS (X_laws_markPlanS nf kf c55_laws_markPlanS) (KW 4 118 (kR 17)))))))
noncomputable def j54_laws_markPlanS (nf kf : Nat) (m6 : Nat) (r116 : List Plan × Int) (x5_6 : Int) (y118_54 : List Plan) : Option (List Plan × Int) := X_laws_markPlanS nf kf c54_laws_markPlanS ⟨[(0, .sl [118]), (1, .v kI r116.2), (5, .v kI x5_6)], [([118], .row true true (kR 17) y118_54)]⟩ (qM [0, 1, 5] [[118]] (X_laws_markPlanS nf kf c7_laws_markPlanS) m6 (qB 0 (qS (X_laws_markPlanS nf kf c55_laws_markPlanS) (KW 4 118 (kR 17)))))
noncomputable def l6_laws_markPlanS (nf kf : Nat) (m6 : Nat) (x1_6 : Int) (x5_6 : Int) (y118_6 : List Plan) : Option (List Plan × Int) := xit [0, 1, 5] [[118]] (X_laws_markPlanS nf kf c7_laws_markPlanS) (qB 0 (qS (X_laws_markPlanS nf kf c55_laws_markPlanS) (KW 4 118 (kR 17)))) m6 ⟨[(0, .sl [118]), (1, .v kI x1_6), (5, .v kI x5_6)], [([118], .row true true (kR 17) y118_6)]⟩
theorem j53_laws_markPlanS_eq (nf kf : Nat) (m6 : Nat) (r109 : List Tm × Int) (x5_6 : Int) (y118_53 : List Plan) : j53_laws_markPlanS nf (kf + 1) m6 r109 x5_6 y118_53 = (
  gg (0 ≤ x5_6 ∧ x5_6 < (List.length y118_53 : Int)) <|
    gg (0 ≤ x5_6 ∧ x5_6 < (List.length y118_53 : Int)) <|
      cb (m_laws_markPlanS nf kf ((gt y118_53 x5_6 Plan.zero).args) r109.2) fun r116 =>
        mark (j54_laws_markPlanS nf (kf + 1) m6 r116 x5_6 (List.set y118_53 (Int.toNat x5_6) (Plan.mk ((gt y118_53 x5_6 Plan.zero).kind) ((gt y118_53 x5_6 Plan.zero).var) ((gt y118_53 x5_6 Plan.zero).table) (Tm.mk (((gt y118_53 x5_6 Plan.zero).cond).kind) (((gt y118_53 x5_6 Plan.zero).cond).name) (((gt y118_53 x5_6 Plan.zero).cond).n) (Ty.h (((gt y118_53 x5_6 Plan.zero).cond).type)) (((gt y118_53 x5_6 Plan.zero).cond).labels) (((gt y118_53 x5_6 Plan.zero).cond).args)) ((gt y118_53 x5_6 Plan.zero).keys) r116.1)))) := by
  unfold j53_laws_markPlanS j54_laws_markPlanS c53_laws_markPlanS c55_laws_markPlanS w54_laws_markPlanS
  generalize c54_laws_markPlanS = x0
  revert x0
  refine id ?_
  intro x0
  kernel_rfl
theorem j51_laws_markPlanS_eq (nf kf : Nat) (m6 : Nat) (r102 : List Tm × Int) (x5_6 : Int) (y118_51 : List Plan) : j51_laws_markPlanS nf (kf + 1) m6 r102 x5_6 y118_51 = (
  gg (0 ≤ x5_6 ∧ x5_6 < (List.length y118_51 : Int)) <|
    gg (0 ≤ x5_6 ∧ x5_6 < (List.length y118_51 : Int)) <|
      cb (m_laws_markTermS nf nf ((gt y118_51 x5_6 Plan.zero).keys) r102.2) fun r109 =>
        mark (j53_laws_markPlanS nf (kf + 1) m6 r109 x5_6 (List.set y118_51 (Int.toNat x5_6) (Plan.mk ((gt y118_51 x5_6 Plan.zero).kind) ((gt y118_51 x5_6 Plan.zero).var) ((gt y118_51 x5_6 Plan.zero).table) (Tm.mk (((gt y118_51 x5_6 Plan.zero).cond).kind) (((gt y118_51 x5_6 Plan.zero).cond).name) (((gt y118_51 x5_6 Plan.zero).cond).n) (Ty.h (((gt y118_51 x5_6 Plan.zero).cond).type)) (((gt y118_51 x5_6 Plan.zero).cond).labels) (((gt y118_51 x5_6 Plan.zero).cond).args)) r109.1 ((gt y118_51 x5_6 Plan.zero).args))))) := by
  unfold j51_laws_markPlanS j53_laws_markPlanS c51_laws_markPlanS c55_laws_markPlanS w54_laws_markPlanS w53_laws_markPlanS
  generalize c54_laws_markPlanS = x0
  generalize c53_laws_markPlanS = x1
  revert x0 x1
  refine id ?_
  intro x0 x1
  kernel_rfl
theorem j49_laws_markPlanS_eq (nf kf : Nat) (m6 : Nat) (r94 : List Str × Int) (x5_6 : Int) (y118_49 : List Plan) : j49_laws_markPlanS nf (kf + 1) m6 r94 x5_6 y118_49 = (
  gg (0 ≤ x5_6 ∧ x5_6 < (List.length y118_49 : Int)) <|
    gg (0 ≤ x5_6 ∧ x5_6 < (List.length y118_49 : Int)) <|
      cb (m_laws_markTermS nf nf (((gt y118_49 x5_6 Plan.zero).cond).args) r94.2) fun r102 =>
        mark (j51_laws_markPlanS nf (kf + 1) m6 r102 x5_6 (List.set y118_49 (Int.toNat x5_6) (Plan.mk ((gt y118_49 x5_6 Plan.zero).kind) ((gt y118_49 x5_6 Plan.zero).var) ((gt y118_49 x5_6 Plan.zero).table) (Tm.mk (((gt y118_49 x5_6 Plan.zero).cond).kind) (((gt y118_49 x5_6 Plan.zero).cond).name) (((gt y118_49 x5_6 Plan.zero).cond).n) (Ty.h (((gt y118_49 x5_6 Plan.zero).cond).type)) (((gt y118_49 x5_6 Plan.zero).cond).labels) r102.1) ((gt y118_49 x5_6 Plan.zero).keys) ((gt y118_49 x5_6 Plan.zero).args))))) := by
  unfold j49_laws_markPlanS j51_laws_markPlanS c49_laws_markPlanS c55_laws_markPlanS w54_laws_markPlanS w51_laws_markPlanS
  generalize c54_laws_markPlanS = x0
  generalize c51_laws_markPlanS = x1
  revert x0 x1
  refine id ?_
  intro x0 x1
  kernel_rfl
theorem j47_laws_markPlanS_eq (nf kf : Nat) (m6 : Nat) (r86 : List Ty × Int) (x5_6 : Int) (y118_47 : List Plan) : j47_laws_markPlanS nf (kf + 1) m6 r86 x5_6 y118_47 = (
  gg (0 ≤ x5_6 ∧ x5_6 < (List.length y118_47 : Int)) <|
    gg (0 ≤ x5_6 ∧ x5_6 < (List.length y118_47 : Int)) <|
      cb (m_laws_markStringS nf (((gt y118_47 x5_6 Plan.zero).cond).labels) r86.2) fun r94 =>
        mark (j49_laws_markPlanS nf (kf + 1) m6 r94 x5_6 (List.set y118_47 (Int.toNat x5_6) (Plan.mk ((gt y118_47 x5_6 Plan.zero).kind) ((gt y118_47 x5_6 Plan.zero).var) ((gt y118_47 x5_6 Plan.zero).table) (Tm.mk (((gt y118_47 x5_6 Plan.zero).cond).kind) (((gt y118_47 x5_6 Plan.zero).cond).name) (((gt y118_47 x5_6 Plan.zero).cond).n) (Ty.h (((gt y118_47 x5_6 Plan.zero).cond).type)) r94.1 (((gt y118_47 x5_6 Plan.zero).cond).args)) ((gt y118_47 x5_6 Plan.zero).keys) ((gt y118_47 x5_6 Plan.zero).args))))) := by
  unfold j47_laws_markPlanS j49_laws_markPlanS c47_laws_markPlanS c55_laws_markPlanS w54_laws_markPlanS w49_laws_markPlanS
  generalize c54_laws_markPlanS = x0
  generalize c49_laws_markPlanS = x1
  revert x0 x1
  refine id ?_
  intro x0 x1
  kernel_rfl
theorem j45_laws_markPlanS_eq (nf kf : Nat) (m6 : Nat) (r77 : List Str × Int) (x5_6 : Int) (y118_45 : List Plan) : j45_laws_markPlanS nf (kf + 1) m6 r77 x5_6 y118_45 = (
  gg (0 ≤ x5_6 ∧ x5_6 < (List.length y118_45 : Int)) <|
    gg (0 ≤ x5_6 ∧ x5_6 < (List.length y118_45 : Int)) <|
      cb (m_laws_markTypeS nf nf ((((gt y118_45 x5_6 Plan.zero).cond).type).args) r77.2) fun r86 =>
        mark (j47_laws_markPlanS nf (kf + 1) m6 r86 x5_6 (List.set y118_45 (Int.toNat x5_6) (Plan.mk ((gt y118_45 x5_6 Plan.zero).kind) ((gt y118_45 x5_6 Plan.zero).var) ((gt y118_45 x5_6 Plan.zero).table) (Tm.mk (((gt y118_45 x5_6 Plan.zero).cond).kind) (((gt y118_45 x5_6 Plan.zero).cond).name) (((gt y118_45 x5_6 Plan.zero).cond).n) (Ty.mk ((((gt y118_45 x5_6 Plan.zero).cond).type).kind) ((((gt y118_45 x5_6 Plan.zero).cond).type).labels) r86.1) (((gt y118_45 x5_6 Plan.zero).cond).labels) (((gt y118_45 x5_6 Plan.zero).cond).args)) ((gt y118_45 x5_6 Plan.zero).keys) ((gt y118_45 x5_6 Plan.zero).args))))) := by
  unfold j45_laws_markPlanS j47_laws_markPlanS c45_laws_markPlanS c55_laws_markPlanS w54_laws_markPlanS w47_laws_markPlanS
  generalize c54_laws_markPlanS = x0
  generalize c47_laws_markPlanS = x1
  revert x0 x1
  refine id ?_
  intro x0 x1
  kernel_rfl
theorem j41_laws_markPlanS_eq (nf kf : Nat) (m6 : Nat) (x1_33 : Int) (x5_6 : Int) (y118_41 : List Plan) : j41_laws_markPlanS nf (kf + 1) m6 x1_33 x5_6 y118_41 = (
  gg (0 ≤ x5_6 ∧ x5_6 < (List.length y118_41 : Int)) <|
    gg (0 ≤ x5_6 ∧ x5_6 < (List.length y118_41 : Int)) <|
      cb (m_laws_markStringS nf ((((gt y118_41 x5_6 Plan.zero).cond).type).labels) (w64 ((w64 ((w64 (x1_33 + (1 : Int))) + (1 : Int))) + (1 : Int)))) fun r77 =>
        mark (j45_laws_markPlanS nf (kf + 1) m6 r77 x5_6 (List.set y118_41 (Int.toNat x5_6) (Plan.mk ((gt y118_41 x5_6 Plan.zero).kind) ((gt y118_41 x5_6 Plan.zero).var) ((gt y118_41 x5_6 Plan.zero).table) (Tm.mk (((gt y118_41 x5_6 Plan.zero).cond).kind) (((gt y118_41 x5_6 Plan.zero).cond).name) (((gt y118_41 x5_6 Plan.zero).cond).n) (Ty.mk ((((gt y118_41 x5_6 Plan.zero).cond).type).kind) r77.1 ((((gt y118_41 x5_6 Plan.zero).cond).type).args)) (((gt y118_41 x5_6 Plan.zero).cond).labels) (((gt y118_41 x5_6 Plan.zero).cond).args)) ((gt y118_41 x5_6 Plan.zero).keys) ((gt y118_41 x5_6 Plan.zero).args))))) := by
  unfold j41_laws_markPlanS j45_laws_markPlanS c41_laws_markPlanS c55_laws_markPlanS w54_laws_markPlanS w45_laws_markPlanS
  generalize c54_laws_markPlanS = x0
  generalize c45_laws_markPlanS = x1
  revert x0 x1
  refine id ?_
  intro x0 x1
  kernel_rfl
theorem j37_laws_markPlanS_eq (nf kf : Nat) (m6 : Nat) (x1_33 : Int) (x5_6 : Int) (y118_37 : List Plan) : j37_laws_markPlanS nf (kf + 1) m6 x1_33 x5_6 y118_37 = (
  gg (0 ≤ x5_6 ∧ x5_6 < (List.length y118_37 : Int)) <|
    gg (0 ≤ x5_6 ∧ x5_6 < (List.length y118_37 : Int)) <|
      mark (j41_laws_markPlanS nf (kf + 1) m6 x1_33 x5_6 (List.set y118_37 (Int.toNat x5_6) (Plan.mk ((gt y118_37 x5_6 Plan.zero).kind) ((gt y118_37 x5_6 Plan.zero).var) ((gt y118_37 x5_6 Plan.zero).table) (Tm.mk (((gt y118_37 x5_6 Plan.zero).cond).kind) (((gt y118_37 x5_6 Plan.zero).cond).name) (((gt y118_37 x5_6 Plan.zero).cond).n) (Ty.mk (w64 ((w64 (x1_33 + (1 : Int))) + (1 : Int))) ((((gt y118_37 x5_6 Plan.zero).cond).type).labels) ((((gt y118_37 x5_6 Plan.zero).cond).type).args)) (((gt y118_37 x5_6 Plan.zero).cond).labels) (((gt y118_37 x5_6 Plan.zero).cond).args)) ((gt y118_37 x5_6 Plan.zero).keys) ((gt y118_37 x5_6 Plan.zero).args))))) := by
  unfold j37_laws_markPlanS j41_laws_markPlanS c37_laws_markPlanS c55_laws_markPlanS w54_laws_markPlanS w41_laws_markPlanS
  generalize c54_laws_markPlanS = x0
  generalize c41_laws_markPlanS = x1
  revert x0 x1
  refine id ?_
  intro x0 x1
  kernel_rfl
theorem j33_laws_markPlanS_eq (nf kf : Nat) (m6 : Nat) (x5_6 : Int) (x1_33 : Int) (y118_33 : List Plan) : j33_laws_markPlanS nf (kf + 1) m6 x5_6 x1_33 y118_33 = (
  gg (0 ≤ x5_6 ∧ x5_6 < (List.length y118_33 : Int)) <|
    gg (0 ≤ x5_6 ∧ x5_6 < (List.length y118_33 : Int)) <|
      mark (j37_laws_markPlanS nf (kf + 1) m6 x1_33 x5_6 (List.set y118_33 (Int.toNat x5_6) (Plan.mk ((gt y118_33 x5_6 Plan.zero).kind) ((gt y118_33 x5_6 Plan.zero).var) ((gt y118_33 x5_6 Plan.zero).table) (Tm.mk (((gt y118_33 x5_6 Plan.zero).cond).kind) (((gt y118_33 x5_6 Plan.zero).cond).name) (w64 (x1_33 + (1 : Int))) (Ty.h (((gt y118_33 x5_6 Plan.zero).cond).type)) (((gt y118_33 x5_6 Plan.zero).cond).labels) (((gt y118_33 x5_6 Plan.zero).cond).args)) ((gt y118_33 x5_6 Plan.zero).keys) ((gt y118_33 x5_6 Plan.zero).args))))) := by
  unfold j33_laws_markPlanS j37_laws_markPlanS c33_laws_markPlanS c55_laws_markPlanS w54_laws_markPlanS w37_laws_markPlanS
  generalize c54_laws_markPlanS = x0
  generalize c37_laws_markPlanS = x1
  revert x0 x1
  refine id ?_
  intro x0 x1
  kernel_rfl
theorem j29_laws_markPlanS_eq (nf kf : Nat) (m6 : Nat) (x1_6 : Int) (x5_6 : Int) (y118_29 : List Plan) : j29_laws_markPlanS nf (kf + 1) m6 x1_6 x5_6 y118_29 = (
  cb (m_laws_markText nf (w64 ((w64 ((w64 ((w64 (x1_6 + (1 : Int))) + (1 : Int))) + (1 : Int))) + (1 : Int)))) fun r46 =>
    gg (0 ≤ x5_6 ∧ x5_6 < (List.length y118_29 : Int)) <|
      gg (0 ≤ x5_6 ∧ x5_6 < (List.length y118_29 : Int)) <|
        mark (j33_laws_markPlanS nf (kf + 1) m6 x5_6 (w64 ((w64 ((w64 ((w64 (x1_6 + (1 : Int))) + (1 : Int))) + (1 : Int))) + (1 : Int))) (List.set y118_29 (Int.toNat x5_6) (Plan.mk ((gt y118_29 x5_6 Plan.zero).kind) ((gt y118_29 x5_6 Plan.zero).var) ((gt y118_29 x5_6 Plan.zero).table) (Tm.mk (((gt y118_29 x5_6 Plan.zero).cond).kind) r46 (((gt y118_29 x5_6 Plan.zero).cond).n) (Ty.h (((gt y118_29 x5_6 Plan.zero).cond).type)) (((gt y118_29 x5_6 Plan.zero).cond).labels) (((gt y118_29 x5_6 Plan.zero).cond).args)) ((gt y118_29 x5_6 Plan.zero).keys) ((gt y118_29 x5_6 Plan.zero).args))))) := by
  unfold j29_laws_markPlanS j33_laws_markPlanS c29_laws_markPlanS c55_laws_markPlanS w54_laws_markPlanS w33_laws_markPlanS
  generalize c54_laws_markPlanS = x0
  generalize c33_laws_markPlanS = x1
  revert x0 x1
  refine id ?_
  intro x0 x1
  kernel_rfl
theorem j25_laws_markPlanS_eq (nf kf : Nat) (m6 : Nat) (x1_6 : Int) (x5_6 : Int) (y118_25 : List Plan) : j25_laws_markPlanS nf (kf + 1) m6 x1_6 x5_6 y118_25 = (
  gg (0 ≤ x5_6 ∧ x5_6 < (List.length y118_25 : Int)) <|
    gg (0 ≤ x5_6 ∧ x5_6 < (List.length y118_25 : Int)) <|
      mark (j29_laws_markPlanS nf (kf + 1) m6 x1_6 x5_6 (List.set y118_25 (Int.toNat x5_6) (Plan.mk ((gt y118_25 x5_6 Plan.zero).kind) ((gt y118_25 x5_6 Plan.zero).var) ((gt y118_25 x5_6 Plan.zero).table) (Tm.mk (w64 ((w64 ((w64 (x1_6 + (1 : Int))) + (1 : Int))) + (1 : Int))) (((gt y118_25 x5_6 Plan.zero).cond).name) (((gt y118_25 x5_6 Plan.zero).cond).n) (Ty.h (((gt y118_25 x5_6 Plan.zero).cond).type)) (((gt y118_25 x5_6 Plan.zero).cond).labels) (((gt y118_25 x5_6 Plan.zero).cond).args)) ((gt y118_25 x5_6 Plan.zero).keys) ((gt y118_25 x5_6 Plan.zero).args))))) := by
  unfold j25_laws_markPlanS j29_laws_markPlanS c25_laws_markPlanS c55_laws_markPlanS w54_laws_markPlanS w29_laws_markPlanS
  generalize c54_laws_markPlanS = x0
  generalize c29_laws_markPlanS = x1
  revert x0 x1
  refine id ?_
  intro x0 x1
  kernel_rfl
theorem j21_laws_markPlanS_eq (nf kf : Nat) (m6 : Nat) (x1_6 : Int) (x5_6 : Int) (y118_21 : List Plan) : j21_laws_markPlanS nf (kf + 1) m6 x1_6 x5_6 y118_21 = (
  cb (m_laws_markText nf (w64 ((w64 (x1_6 + (1 : Int))) + (1 : Int)))) fun r30 =>
    gg (0 ≤ x5_6 ∧ x5_6 < (List.length y118_21 : Int)) <|
      gg (0 ≤ x5_6 ∧ x5_6 < (List.length y118_21 : Int)) <|
        mark (j25_laws_markPlanS nf (kf + 1) m6 x1_6 x5_6 (List.set y118_21 (Int.toNat x5_6) (Plan.mk ((gt y118_21 x5_6 Plan.zero).kind) ((gt y118_21 x5_6 Plan.zero).var) r30 (Tm.mk (((gt y118_21 x5_6 Plan.zero).cond).kind) (((gt y118_21 x5_6 Plan.zero).cond).name) (((gt y118_21 x5_6 Plan.zero).cond).n) (Ty.h (((gt y118_21 x5_6 Plan.zero).cond).type)) (((gt y118_21 x5_6 Plan.zero).cond).labels) (((gt y118_21 x5_6 Plan.zero).cond).args)) ((gt y118_21 x5_6 Plan.zero).keys) ((gt y118_21 x5_6 Plan.zero).args))))) := by
  unfold j21_laws_markPlanS j25_laws_markPlanS c21_laws_markPlanS c55_laws_markPlanS w54_laws_markPlanS w25_laws_markPlanS
  generalize c54_laws_markPlanS = x0
  generalize c25_laws_markPlanS = x1
  revert x0 x1
  refine id ?_
  intro x0 x1
  kernel_rfl
theorem j17_laws_markPlanS_eq (nf kf : Nat) (m6 : Nat) (x1_6 : Int) (x5_6 : Int) (y118_17 : List Plan) : j17_laws_markPlanS nf (kf + 1) m6 x1_6 x5_6 y118_17 = (
  cb (m_laws_markText nf (w64 (x1_6 + (1 : Int)))) fun r22 =>
    gg (0 ≤ x5_6 ∧ x5_6 < (List.length y118_17 : Int)) <|
      gg (0 ≤ x5_6 ∧ x5_6 < (List.length y118_17 : Int)) <|
        mark (j21_laws_markPlanS nf (kf + 1) m6 x1_6 x5_6 (List.set y118_17 (Int.toNat x5_6) (Plan.mk ((gt y118_17 x5_6 Plan.zero).kind) r22 ((gt y118_17 x5_6 Plan.zero).table) (Tm.mk (((gt y118_17 x5_6 Plan.zero).cond).kind) (((gt y118_17 x5_6 Plan.zero).cond).name) (((gt y118_17 x5_6 Plan.zero).cond).n) (Ty.h (((gt y118_17 x5_6 Plan.zero).cond).type)) (((gt y118_17 x5_6 Plan.zero).cond).labels) (((gt y118_17 x5_6 Plan.zero).cond).args)) ((gt y118_17 x5_6 Plan.zero).keys) ((gt y118_17 x5_6 Plan.zero).args))))) := by
  unfold j17_laws_markPlanS j21_laws_markPlanS c17_laws_markPlanS c55_laws_markPlanS w54_laws_markPlanS w21_laws_markPlanS
  generalize c54_laws_markPlanS = x0
  generalize c21_laws_markPlanS = x1
  revert x0 x1
  refine id ?_
  intro x0 x1
  kernel_rfl
theorem j54_laws_markPlanS_eq (nf kf : Nat) (m6 : Nat) (r116 : List Plan × Int) (x5_6 : Int) (y118_54 : List Plan) : j54_laws_markPlanS nf (kf + 1) m6 r116 x5_6 y118_54 = (
  mark (l6_laws_markPlanS nf (kf + 1) m6 r116.2 (w64 (x5_6 + (1 : Int))) y118_54)) := by kernel_rfl
theorem l6_laws_markPlanS_eq (nf kf : Nat) (m6 : Nat) (x1_6 : Int) (x5_6 : Int) (y118_6 : List Plan) : l6_laws_markPlanS nf (kf + 1) (m6 + 1) x1_6 x5_6 y118_6 = (
  br (decide (x5_6 < (List.length y118_6 : Int))) (
    gg (0 ≤ x5_6 ∧ x5_6 < (List.length y118_6 : Int)) <|
      gg (0 ≤ x5_6 ∧ x5_6 < (List.length y118_6 : Int)) <|
        mark (j17_laws_markPlanS nf (kf + 1) m6 x1_6 x5_6 (List.set y118_6 (Int.toNat x5_6) (Plan.mk x1_6 ((gt y118_6 x5_6 Plan.zero).var) ((gt y118_6 x5_6 Plan.zero).table) (Tm.mk (((gt y118_6 x5_6 Plan.zero).cond).kind) (((gt y118_6 x5_6 Plan.zero).cond).name) (((gt y118_6 x5_6 Plan.zero).cond).n) (Ty.h (((gt y118_6 x5_6 Plan.zero).cond).type)) (((gt y118_6 x5_6 Plan.zero).cond).labels) (((gt y118_6 x5_6 Plan.zero).cond).args)) ((gt y118_6 x5_6 Plan.zero).keys) ((gt y118_6 x5_6 Plan.zero).args))))) (
    some (y118_6, x1_6))) := by
  unfold l6_laws_markPlanS j17_laws_markPlanS c7_laws_markPlanS c55_laws_markPlanS w17_laws_markPlanS w54_laws_markPlanS
  generalize c17_laws_markPlanS = x0
  generalize c54_laws_markPlanS = x1
  revert x0 x1
  refine id ?_
  intro x0 x1
  kernel_rfl
theorem m_laws_markPlanS_eq (nf kf : Nat) (a : List Plan) (k : Int) : m_laws_markPlanS nf (kf + 1) a k = (
  mark (l6_laws_markPlanS nf (kf + 1) nf k (0 : Int) a)) := by kernel_rfl
noncomputable def e_laws_markPlanS (nf : Nat) : XE := eW 112 (kR 17) (fun a j => m_laws_markPlanS nf nf a j)
theorem gok_laws_markPlanS (nf : Nat) : ∀ kf : Nat, XT.ok Try.prog (G_laws_markPlanS nf kf ++ B_laws_markPlanS nf)
  | 0 => by exact ⟨o_laws_markText nf, o_laws_markStringS nf, o_laws_markTypeS nf, o_laws_markTermS nf, trivial⟩
  | kf + 1 => by
    have ih := gok_laws_markPlanS nf kf
    refine ⟨?_, (by exact ⟨o_laws_markText nf, o_laws_markStringS nf, o_laws_markTypeS nf, o_laws_markTermS nf, trivial⟩)⟩
    · refine eW_ok fun a j x h => ?_
      exact runW_ok (N := 118) ih Try.func112 (by kernel_rfl) rfl h
theorem o_laws_markPlanS (nf : Nat) : conOK Try.prog 112 (e_laws_markPlanS nf).con := by
  have ih := gok_laws_markPlanS nf nf
  refine eW_ok fun a j x h => ?_
  exact runW_ok (N := 118) ih Try.func112 (by kernel_rfl) rfl h
def ir_laws_markPlan : C := .sq (.rg [.bx 2 (.t 0) (kR 17), .mv 4 (.i 0)]) (.sq (.rg [.fa 5 (.t 2) 17 3 3, .ld 6 (.t 5) (kR 2), .mv 7 (.t 1), .cq (some 8) 110 [((.t 6), .q), ((.t 7), .v kI)], .mv 1 (.t 8)]) (.sq (.rg [.fa 9 (.t 2) 17 4 11, .ld 10 (.t 9) (kL (kR 2)), .mv 11 (.t 1), .cw (some 12) 111 (kR 2) (.t 10) (.t 11), .mv 1 (.t 12)]) (.sq (.rg [.fa 13 (.t 2) 17 5 12, .ld 14 (.t 13) (kL (kR 17)), .mv 15 (.t 1), .cw (some 16) 112 (kR 17) (.t 14) (.t 15), .mv 1 (.t 16)]) (.sq (.rg [.mv 17 (.t 1), .mv 4 (.t 17)]) .rt))))
noncomputable abbrev T_laws_markPlan (nf : Nat) : XT := [e_laws_markTerm nf, e_laws_markTermS nf, e_laws_markPlanS nf]
noncomputable def m_laws_markPlan (nf : Nat) (a_kind : Int) (a_var : Str) (a_table : Str) (a_cond_kind : Int) (a_cond_name : Str) (a_cond_n : Int) (a_cond_type_kind : Int) (k : Int) (a_cond_type_labels : List Str) (a_cond_type_args : List Ty) (a_cond_labels : List Str) (a_cond_args : List Tm) (a_keys : List Tm) (a_args : List Plan) : Option ((Int) × (List Str) × (List Ty) × (List Str) × (List Tm) × (List Tm) × (List Plan)) := runQ (T_laws_markPlan nf) nf [.ag 17 [.v kI, .v kS, .v kS, .v kI, .v kS, .v kI, .v kI, .sl 0, .sl 1, .sl 2, .sl 3, .sl 4, .sl 5], .v kI] [.row true kS, .row true (kR 0), .row true kS, .row true (kR 2), .row true (kR 2), .row true (kR 17)] [.row true kS, .row true (kR 0), .row true kS, .row true (kR 2), .row true (kR 2), .row true (kR 17)] [.t 4 (.v kI)] ir_laws_markPlan ((a_kind, a_var, a_table, a_cond_kind, a_cond_name, a_cond_n, a_cond_type_kind, (), (), (), (), (), (), ()), k, ()) (a_cond_type_labels, a_cond_type_args, a_cond_labels, a_cond_args, a_keys, a_args)
theorem m_laws_markPlan_eq (nf : Nat) (a_kind : Int) (a_var : Str) (a_table : Str) (a_cond_kind : Int) (a_cond_name : Str) (a_cond_n : Int) (a_cond_type_kind : Int) (k : Int) (a_cond_type_labels : List Str) (a_cond_type_args : List Ty) (a_cond_labels : List Str) (a_cond_args : List Tm) (a_keys : List Tm) (a_args : List Plan) : m_laws_markPlan nf a_kind a_var a_table a_cond_kind a_cond_name a_cond_n a_cond_type_kind k a_cond_type_labels a_cond_type_args a_cond_labels a_cond_args a_keys a_args = (
  cb (m_laws_markTerm nf a_cond_kind a_cond_name a_cond_n a_cond_type_kind k a_cond_type_labels a_cond_type_args a_cond_labels a_cond_args) fun r8 =>
    cb (m_laws_markTermS nf nf a_keys r8.1) fun r12 =>
      cb (m_laws_markPlanS nf nf a_args r12.2) fun r16 =>
        some (r16.2, (r8.2.1, r8.2.2.1, r8.2.2.2.1, r8.2.2.2.2, r12.1, r16.1))) := by kernel_rfl
noncomputable def e_laws_markPlan (nf : Nat) : XE := eQ 53 [.ag 17 [.v kI, .v kS, .v kS, .v kI, .v kS, .v kI, .v kI, .sl 0, .sl 1, .sl 2, .sl 3, .sl 4, .sl 5], .v kI] [.v kI] [.row true kS, .row true (kR 0), .row true kS, .row true (kR 2), .row true (kR 2), .row true (kR 17)] [.row true kS, .row true (kR 0), .row true kS, .row true (kR 2), .row true (kR 2), .row true (kR 17)] (fun t u => m_laws_markPlan nf t.1.1 t.1.2.1 t.1.2.2.1 t.1.2.2.2.1 t.1.2.2.2.2.1 t.1.2.2.2.2.2.1 t.1.2.2.2.2.2.2.1 t.2.1 u.1 u.2.1 u.2.2.1 u.2.2.2.1 u.2.2.2.2.1 u.2.2.2.2.2)
theorem o_laws_markPlan (nf : Nat) : conOK Try.prog 53 (e_laws_markPlan nf).con := by
  have ih : XT.ok Try.prog (T_laws_markPlan nf) := by exact ⟨o_laws_markTerm nf, o_laws_markTermS nf, o_laws_markPlanS nf, trivial⟩
  refine eQ_ok fun t u x h => ?_
  obtain ⟨⟨a_kind, a_var, a_table, a_cond_kind, a_cond_name, a_cond_n, a_cond_type_kind, _, _, _, _, _, _, _⟩, k, _⟩ := t
  exact runQ_ok (N := 18) ih Try.func53 (by kernel_rfl) rfl rfl rfl rfl rfl h
def c23_laws_markGenS : C := .sq (.rg [.mv 28 (.t 1), .mv 4 (.t 28)]) .rt
def c22_laws_markGenS : C := .rg [.mv 10 (.t 5), .bi 11 .add (.t 10) (.i 1), .mv 5 (.t 11)]
def c21_laws_markGenS : C := .rg [.mv 26 (.t 1), .bi 27 .add (.t 26) (.i 1), .mv 1 (.t 27)]
def w21_laws_markGenS : C := .kp [0, 1, 5] [[29]] c21_laws_markGenS
def c7_laws_markGenS : C := .sq (.sq (.rg [.mv 6 (.t 5), .mv 7 (.t 0), .ln 8 false (.t 7), .bi 9 .lss (.t 6) (.t 8)]) (.cd (.t 9) .skip (.ex 0))) (.sq (.bk 1 (.sq (.rg [.mv 12 (.t 0), .mv 13 (.t 5), .mv 14 (.t 1), .cv (some 15) 113 [((.t 14), .v kI)], .ia 16 (.t 12) (.t 13) (kR 3), .fa 17 (.t 16) 3 0 0, .sf (.t 17) (.t 15) kS]) (.sq (.rg [.mv 18 (.t 1), .bi 19 .add (.t 18) (.i 1), .mv 1 (.t 19)]) (.sq (.rg [.mv 20 (.t 0), .mv 21 (.t 5), .mv 22 (.t 1), .cv (some 23) 113 [((.t 22), .v kI)], .ia 24 (.t 20) (.t 21) (kR 3), .fa 25 (.t 24) 3 1 1, .sf (.t 25) (.t 23) kS]) w21_laws_markGenS)))) c22_laws_markGenS)
def ir_laws_markGenS : C := .sq (.rg [.mv 4 (.i 0)]) (.sq (.sq (.rg [.mv 5 (.i 0)]) (.bk 0 (.lk [0, 1, 5] [[29]] c7_laws_markGenS))) c23_laws_markGenS)
noncomputable abbrev T_laws_markGenS (nf : Nat) : XT := [e_laws_markText nf]
noncomputable def m_laws_markGenS (nf : Nat) (a : List Gen) (k : Int) : Option (List Gen × Int) := runW (T_laws_markGenS nf) nf 29 4 (kR 3) ir_laws_markGenS a k
noncomputable def X_laws_markGenS {R : Type} (nf : Nat) : C → Env → (Xt → Env → Option R) → Option R := xc (R := R) (T_laws_markGenS nf).S nf
noncomputable def j21_laws_markGenS (nf : Nat) (m6 : Nat) (x1_6 : Int) (x5_6 : Int) (y29_21 : List Gen) : Option (List Gen × Int) := X_laws_markGenS nf c21_laws_markGenS ⟨[(0, .sl [29]), (1, .v kI (w64 (x1_6 + (1 : Int)))), (5, .v kI x5_6)], [([29], .row true true (kR 3) y29_21)]⟩ (qB 1 (qS (X_laws_markGenS nf c22_laws_markGenS) (qM [0, 1, 5] [[29]] (X_laws_markGenS nf c7_laws_markGenS) m6 (qB 0 (qS (X_laws_markGenS nf c23_laws_markGenS) (KW 4 29 (kR 3)))))))
noncomputable def l6_laws_markGenS (nf : Nat) (m6 : Nat) (x1_6 : Int) (x5_6 : Int) (y29_6 : List Gen) : Option (List Gen × Int) := xit [0, 1, 5] [[29]] (X_laws_markGenS nf c7_laws_markGenS) (qB 0 (qS (X_laws_markGenS nf c23_laws_markGenS) (KW 4 29 (kR 3)))) m6 ⟨[(0, .sl [29]), (1, .v kI x1_6), (5, .v kI x5_6)], [([29], .row true true (kR 3) y29_6)]⟩
theorem j21_laws_markGenS_eq (nf : Nat) (m6 : Nat) (x1_6 : Int) (x5_6 : Int) (y29_21 : List Gen) : j21_laws_markGenS nf m6 x1_6 x5_6 y29_21 = (
  mark (l6_laws_markGenS nf m6 (w64 ((w64 (x1_6 + (1 : Int))) + (1 : Int))) (w64 (x5_6 + (1 : Int))) y29_21)) := by kernel_rfl
theorem l6_laws_markGenS_eq (nf : Nat) (m6 : Nat) (x1_6 : Int) (x5_6 : Int) (y29_6 : List Gen) : l6_laws_markGenS nf (m6 + 1) x1_6 x5_6 y29_6 = (
  br (decide (x5_6 < (List.length y29_6 : Int))) (
    cb (m_laws_markText nf x1_6) fun r15 =>
      gg (0 ≤ x5_6 ∧ x5_6 < (List.length y29_6 : Int)) <|
        gg (0 ≤ x5_6 ∧ x5_6 < (List.length y29_6 : Int)) <|
          cb (m_laws_markText nf (w64 (x1_6 + (1 : Int)))) fun r23 =>
            gg (0 ≤ x5_6 ∧ x5_6 < (List.length (List.set y29_6 (Int.toNat x5_6) (Gen.mk r15 ((gt y29_6 x5_6 Gen.zero).table))) : Int)) <|
              gg (0 ≤ x5_6 ∧ x5_6 < (List.length (List.set y29_6 (Int.toNat x5_6) (Gen.mk r15 ((gt y29_6 x5_6 Gen.zero).table))) : Int)) <|
                mark (j21_laws_markGenS nf m6 x1_6 x5_6 (List.set (List.set y29_6 (Int.toNat x5_6) (Gen.mk r15 ((gt y29_6 x5_6 Gen.zero).table))) (Int.toNat x5_6) (Gen.mk ((gt (List.set y29_6 (Int.toNat x5_6) (Gen.mk r15 ((gt y29_6 x5_6 Gen.zero).table))) x5_6 Gen.zero).var) r23)))) (
    some (y29_6, x1_6))) := by
  unfold l6_laws_markGenS j21_laws_markGenS c7_laws_markGenS c23_laws_markGenS w21_laws_markGenS c22_laws_markGenS
  generalize c21_laws_markGenS = x0
  revert x0
  refine id ?_
  intro x0
  kernel_rfl
theorem m_laws_markGenS_eq (nf : Nat) (a : List Gen) (k : Int) : m_laws_markGenS nf a k = (
  mark (l6_laws_markGenS nf nf k (0 : Int) a)) := by kernel_rfl
noncomputable def e_laws_markGenS (nf : Nat) : XE := eW 54 (kR 3) (fun a j => m_laws_markGenS nf a j)
theorem o_laws_markGenS (nf : Nat) : conOK Try.prog 54 (e_laws_markGenS nf).con := by
  have ih : XT.ok Try.prog (T_laws_markGenS nf) := by exact ⟨o_laws_markText nf, trivial⟩
  refine eW_ok fun a j x h => ?_
  exact runW_ok (N := 29) ih Try.func54 (by kernel_rfl) rfl h
def c35_laws_heldGenS : C := .sq (.rg [.mv 32 (.t 1), .mv 4 (.t 32)]) .rt
def c7_laws_heldGenS : C := .sq (.sq (.rg [.mv 6 (.t 5), .mv 7 (.t 0), .ln 8 false (.t 7), .bi 9 .lss (.t 6) (.t 8)]) (.cd (.t 9) .skip (.ex 0))) (.sq (.bk 1 (.sq (.sq (.dr [] [.mv 12 (.t 0), .mv 13 (.t 5), .ia 14 (.t 12) (.t 13) (kR 3), .fa 15 (.t 14) 3 0 0, .ld 16 (.t 15) kS, .mv 17 (.t 1), .cv (some 18) 113 [((.t 17), .v kI)]] [.bi 19 .neq (.t 16) (.t 18)]) (.cd (.t 19) (.sq (.rg [.mv 4 (.i (-1))]) .rt) .skip)) (.sq (.rg [.mv 20 (.t 1), .bi 21 .add (.t 20) (.i 1), .mv 1 (.t 21)]) (.sq (.sq (.dr [] [.mv 22 (.t 0), .mv 23 (.t 5), .ia 24 (.t 22) (.t 23) (kR 3), .fa 25 (.t 24) 3 1 1, .ld 26 (.t 25) kS, .mv 27 (.t 1), .cv (some 28) 113 [((.t 27), .v kI)]] [.bi 29 .neq (.t 26) (.t 28)]) (.cd (.t 29) (.sq (.rg [.mv 4 (.i (-1))]) .rt) .skip)) (.rg [.mv 30 (.t 1), .bi 31 .add (.t 30) (.i 1), .mv 1 (.t 31)]))))) (.rg [.mv 10 (.t 5), .bi 11 .add (.t 10) (.i 1), .mv 5 (.t 11)]))
def ir_laws_heldGenS : C := .sq (.rg [.mv 4 (.i 0)]) (.sq (.sq (.rg [.mv 5 (.i 0)]) (.bk 0 (.lk [0, 1, 5] [] c7_laws_heldGenS))) c35_laws_heldGenS)
noncomputable abbrev T_laws_heldGenS (nf : Nat) : XT := [e_laws_markText nf]
noncomputable def m_laws_heldGenS (nf : Nat) (a : List Gen) (k : Int) : Option (Int) := runF (T_laws_heldGenS nf) nf [.v (kL (kR 3)), .v kI] [.t 4 (.v kI)] ir_laws_heldGenS (a, k, ())
noncomputable def X_laws_heldGenS {R : Type} (nf : Nat) : C → Env → (Xt → Env → Option R) → Option R := xc (R := R) (T_laws_heldGenS nf).S nf
noncomputable def l6_laws_heldGenS (nf : Nat) (m6 : Nat) (a : List Gen) (x1_6 : Int) (x5_6 : Int) : Option (Int) := xit [0, 1, 5] [] (X_laws_heldGenS nf c7_laws_heldGenS) (qB 0 (qS (X_laws_heldGenS nf c35_laws_heldGenS) (KF [.t 4 (.v kI)]))) m6 ⟨[(0, .v (kL (kR 3)) a), (1, .v kI x1_6), (5, .v kI x5_6)], []⟩
theorem l6_laws_heldGenS_eq (nf : Nat) (m6 : Nat) (a : List Gen) (x1_6 : Int) (x5_6 : Int) : l6_laws_heldGenS nf (m6 + 1) a x1_6 x5_6 = (
  br (decide (x5_6 < (List.length a : Int))) (
    gg (0 ≤ x5_6 ∧ x5_6 < (List.length a : Int)) <|
      cb (m_laws_markText nf x1_6) fun r18 =>
        br (!(((gt a x5_6 Gen.zero).var) == r18)) (
          some (-1 : Int)) (
          gg (0 ≤ x5_6 ∧ x5_6 < (List.length a : Int)) <|
            cb (m_laws_markText nf (w64 (x1_6 + (1 : Int)))) fun r28 =>
              br (!(((gt a x5_6 Gen.zero).table) == r28)) (
                some (-1 : Int)) (
                mark (l6_laws_heldGenS nf m6 a (w64 ((w64 (x1_6 + (1 : Int))) + (1 : Int))) (w64 (x5_6 + (1 : Int))))))) (
    some x1_6)) := by kernel_rfl
theorem m_laws_heldGenS_eq (nf : Nat) (a : List Gen) (k : Int) : m_laws_heldGenS nf a k = (
  mark (l6_laws_heldGenS nf nf a k (0 : Int))) := by kernel_rfl
noncomputable def e_laws_heldGenS (nf : Nat) : XE := eF 55 [.v (kL (kR 3)), .v kI] [.v kI] (fun t => m_laws_heldGenS nf t.1 t.2.1)
theorem o_laws_heldGenS (nf : Nat) : conOK Try.prog 55 (e_laws_heldGenS nf).con := by
  have ih : XT.ok Try.prog (T_laws_heldGenS nf) := by exact ⟨o_laws_markText nf, trivial⟩
  refine eF_ok fun t x h => ?_
  obtain ⟨a, k, _⟩ := t
  exact runF_ok (N := 33) ih Try.func55 (by kernel_rfl) rfl h
end Go.Q
