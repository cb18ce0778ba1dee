/- The parts of a condition: what both sides give. -/
import Derived.Test.YtkbanchknllcnaaB10p
import Derived.Test.YtkbanchknllcnaaB13
set_option linter.unusedVariables false
set_option linter.unusedSimpArgs false
set_option linter.unusedVariables false
set_option linter.unusedSimpArgs false
set_option maxHeartbeats 1000000
namespace Go.Q
mutual
/-- The parts of a condition, from left to right. -/
def nCon : Tm → List Tm
  | .mk k nm n ty ls c => if k = 4 ∧ nm = [38] ∧ c.length = 2 then nConL c else [.mk k nm n ty ls c]
def nConL : List Tm → List Tm
  | [] => []
  | t :: ts => nCon t ++ nConL ts
end
theorem nCon_eq (t : Tm) : nCon t = if t.kind = 4 ∧ t.name = [38] ∧ t.args.length = 2 then nConL t.args else [t] := by
  cases t; simp only [nCon, Tm.kind_mk, Tm.name_mk, Tm.args_mk]; rfl
theorem nConL_2 {c : List Tm} (h : c.length = 2) : nConL c = nCon (gt c (0 : Int) Tm.zero) ++ nCon (gt c (1 : Int) Tm.zero) := by
  match c, h with
  | [x, y], _ => simp [nConL, gt]
theorem szL_2 {c : List Tm} (h : c.length = 2) : szL zTm c = 2 + zTm (gt c (0 : Int) Tm.zero) + zTm (gt c (1 : Int) Tm.zero) := by
  match c, h with
  | [x, y], _ => simp [szL, gt]; omega
theorem szL_app {α : Type} (f : α → Nat) (a b : List α) : szL f (a ++ b) = szL f a + szL f b := by
  simp [szL]; omega
mutual
theorem nCon_z : ∀ t : Tm, szL zTm (nCon t) ≤ 1 + zTm t
  | .mk k nm n ty ls c => by
    simp only [nCon]
    split
    · have := nConL_z c
      have hz := zTm_f (.mk k nm n ty ls c)
      simp only [Tm.args_mk] at hz
      omega
    · simp [szL]
theorem nConL_z : ∀ ts : List Tm, szL zTm (nConL ts) ≤ szL zTm ts
  | [] => by simp [nConL, szL]
  | t :: ts => by
    have h1 := nCon_z t
    have h2 := nConL_z ts
    have h3 : szL zTm (t :: ts) = 1 + zTm t + szL zTm ts := by simp [szL]; omega
    simp only [nConL, szL_app]
    omega
end
theorem nCon_len (t : Tm) : (nCon t).length ≤ 1 + zTm t := by
  have := nCon_z t
  unfold szL at this
  omega
theorem tm_cond (t : Tm) (X Y : Option (List Tm × Unit)) : br ((t.kind == (4 : Int)) == true) (br ((t.name == ([38] : Str)) == true) (br ((List.length t.args : Int) == (2 : Int)) X Y) Y) Y = if t.kind = 4 ∧ t.name = [38] ∧ t.args.length = 2 then X else Y := by
  have b4 : (t.kind == (4 : Int)) = decide (t.kind = 4) := rfl
  have b2 : ((List.length t.args : Int) == (2 : Int)) = decide (t.args.length = 2) := decide_eq_decide.2 (by omega)
  rw [b4, b2]
  by_cases h4 : t.kind = 4
  · by_cases hn : t.name = [38]
    · by_cases hl : t.args.length = 2
      · rw [if_pos ⟨h4, hn, hl⟩, decide_eq_true h4, hn, decide_eq_true hl]; rfl
      · rw [if_neg (fun h => hl h.2.2), decide_eq_true h4, hn, decide_eq_false hl]; rfl
    · have : (t.name == ([38] : Str)) = false := by simpa using hn
      rw [if_neg (fun h => hn h.2.1), decide_eq_true h4, this]; rfl
  · rw [if_neg (fun h => h4 h.1), decide_eq_false h4]; rfl
theorem tm_cond2 (t : Tm) (X Y : Option (List Tm)) : br ((t.kind == (4 : Int)) == true) (br ((t.name == ([38] : Str)) == true) (br ((List.length t.args : Int) == (2 : Int)) X Y) Y) Y = if t.kind = 4 ∧ t.name = [38] ∧ t.args.length = 2 then X else Y := by
  have b4 : (t.kind == (4 : Int)) = decide (t.kind = 4) := rfl
  have b2 : ((List.length t.args : Int) == (2 : Int)) = decide (t.args.length = 2) := decide_eq_decide.2 (by omega)
  rw [b4, b2]
  by_cases h4 : t.kind = 4
  · by_cases hn : t.name = [38]
    · by_cases hl : t.args.length = 2
      · rw [if_pos ⟨h4, hn, hl⟩, decide_eq_true h4, hn, decide_eq_true hl]; rfl
      · rw [if_neg (fun h => hl h.2.2), decide_eq_true h4, hn, decide_eq_false hl]; rfl
    · have : (t.name == ([38] : Str)) = false := by simpa using hn
      rw [if_neg (fun h => hn h.2.1), decide_eq_true h4, this]; rfl
  · rw [if_neg (fun h => h4 h.1), decide_eq_false h4]; rfl
theorem p_conjuncts (nf : Nat) : ∀ (kf : Nat) (e : Tm) (o : List Tm), 8 * zTm e + 1 < kf → zTm e ≤ 8388608 → o.length + 1 + zTm e ≤ 33554432 → m_impl_conjuncts nf kf e o = some (o ++ nCon e, ())
  | 0, e, _, h, _, _ => absurd h (Nat.not_lt_zero _)
  | kf + 1, e, o, h, hb, ho => by
    have hz := zTm_f e
    have h5f : j5_impl_conjuncts nf (kf + 1) o e false = some (o ++ [e], ()) := by
      rw [j5_impl_conjuncts_eq, br_false, Tm.h_eq, gg_pos (by simp; omega)]
    have h5 : ∀ b, j5_impl_conjuncts nf (kf + 1) o e b = br b (j5_impl_conjuncts nf (kf + 1) o e true) (some (o ++ [e], ())) := fun b => by
      cases b
      · rw [h5f]; rfl
      · rfl
    rw [m_impl_conjuncts_eq, mark_eq, mark_eq, h5f, h5 ((List.length e.args : Int) == (2 : Int)), tm_cond, nCon_eq]
    split
    · rename_i hc
      have hl := hc.2.2
      have hs := szL_2 hl
      have n1 := nCon_len (gt e.args (0 : Int) Tm.zero)
      have e1 := p_conjuncts nf kf (gt e.args (0 : Int) Tm.zero) o (by omega) (by omega) (by omega)
      have e2 := p_conjuncts nf kf (gt e.args (1 : Int) Tm.zero) (o ++ nCon (gt e.args (0 : Int) Tm.zero)) (by omega) (by omega) (by simp; omega)
      rw [j5_impl_conjuncts_eq, br_true, gg_pos (by omega), gg_pos (by omega), e1, cb_some, e2, cb_some, nConL_2 hl, List.append_assoc]
    · rfl
theorem p_l17Parts (nf : Nat) : ∀ (kf : Nat) (e : Tm), 8 * zTm e + 1 < kf → 8 * zTm e + 1 < nf → zTm e ≤ 8388608 → m_spec_l17Parts nf kf e = some (nCon e)
  | 0, e, h, _, _ => absurd h (Nat.not_lt_zero _)
  | kf + 1, e, h, h', hb => by
    have hz := zTm_f e
    have h5f : j5_spec_l17Parts nf (kf + 1) e false = some [e] := by
      rw [j5_spec_l17Parts_eq, br_false, Tm.h_eq, p_l7Copy nf nf e h' h' (by omega), cb_some, Tm.h_eq]
    have h5 : ∀ b, j5_spec_l17Parts nf (kf + 1) e b = br b (j5_spec_l17Parts nf (kf + 1) e true) (some [e]) := fun b => by
      cases b
      · rw [h5f]; rfl
      · rfl
    rw [m_spec_l17Parts_eq, mark_eq, mark_eq, h5f, h5 ((List.length e.args : Int) == (2 : Int)), tm_cond2, nCon_eq]
    split
    · rename_i hc
      have hl := hc.2.2
      have hs := szL_2 hl
      have n1 := nCon_len (gt e.args (0 : Int) Tm.zero)
      have n2 := nCon_len (gt e.args (1 : Int) Tm.zero)
      have e1 := p_l17Parts nf kf (gt e.args (0 : Int) Tm.zero) (by omega) (by omega) (by omega)
      have e2 := p_l17Parts nf kf (gt e.args (1 : Int) Tm.zero) (by omega) (by omega) (by omega)
      rw [j5_spec_l17Parts_eq, br_true, gg_pos (by omega), e1, cb_some, gg_pos (by omega), e2, cb_some, gg_pos (by omega), nConL_2 hl]
    · rfl
/-- The conditions of a term. -/
def conF (e : Tm) : List Tm := if e.kind = 3 ∧ e.n = 1 then [] else nCon e
theorem conF_z (e : Tm) : szL zTm (conF e) ≤ 1 + zTm e := by
  unfold conF
  split
  · simp [szL]
  · exact nCon_z e
theorem tm_true {R : Type} (e : Tm) (X Y : Option R) : br (decide (e.kind = 3) && decide (e.n = 1)) X Y = if e.kind = 3 ∧ e.n = 1 then X else Y := by
  by_cases h : e.kind = 3 <;> by_cases h2 : e.n = 1 <;> simp [h, h2, br]
theorem p_isTrue (nf : Nat) (e : Tm) : m_impl_isTrue nf e = some (decide (e.kind = 3) && decide (e.n = 1)) := by
  rw [m_impl_isTrue_eq]
  have b1 : (e.kind == (3 : Int)) = decide (e.kind = 3) := rfl
  have b2 : (e.n == (1 : Int)) = decide (e.n = 1) := rfl
  rw [b1, b2]
  cases decide (e.kind = 3) <;> rfl
theorem p_l14Is (nf : Nat) (e : Tm) : m_spec_l14Is nf e 1 = some (decide (e.kind = 3) && decide (e.n = 1)) := by
  rw [m_spec_l14Is_eq]
  have b1 : (e.kind == (3 : Int)) = decide (e.kind = 3) := rfl
  have b2 : (e.n == (1 : Int)) = decide (e.n = 1) := rfl
  rw [b1, b2]
  cases decide (e.kind = 3) <;> rfl
theorem p_implConjuncts (nf : Nat) (e : Tm) (h : 8 * (1 + zTm e) + 1 < nf) (hb : zTm e ≤ 1048576) : m_impl_ConjunctsOf nf e = some (conF e) := by
  have hz := conF_z e
  have e1 : m_impl_partsOf nf e = some (conF e) := by
    rw [m_impl_partsOf_eq, Tm.h_eq, p_isTrue, cb_some, tm_true, p_conjuncts nf nf e [] (by omega) (by omega) (by simp; omega)]
    unfold conF
    split <;> rfl
  rw [m_impl_ConjunctsOf_eq, Tm.h_eq, e1, cb_some, p_cloneTerms nf (conF e) (by omega) (by omega), cb_some]
theorem p_specConjuncts (nf : Nat) (e : Tm) (h : 8 * (1 + zTm e) + 1 < nf) (hb : zTm e ≤ 1048576) : m_spec_ConjunctsOf nf e = some (conF e) := by
  rw [m_spec_ConjunctsOf_eq, Tm.h_eq, p_l14Is, cb_some, tm_true, p_l17Parts nf nf e (by omega) (by omega) (by omega)]
  unfold conF
  split <;> rfl
end Go.Q
