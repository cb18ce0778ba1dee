/- NumberOf. -/
import Derived.Test.YtabfgfbmfmpdnaaDoorB15p
set_option linter.unusedVariables false
set_option linter.unusedSimpArgs false
set_option linter.unusedVariables false
set_option linter.unusedSimpArgs false
set_option maxHeartbeats 1000000
namespace Go.Q
theorem p_law (a : List (List FRow)) (b : Key) (ha : Rd (kL (kL (kR 15))) a) (hb : Rd (kR 14) b) : m_laws_FnExactNumberOf 1073741824 a b = some true := by
  obtain ⟨r, h1, h2, h3, h4⟩ := p_szFlatRowSS 1073741824 a 1048576 ha (by omega) (by omega) (by omega)
  rw [m_laws_FnExactNumberOf_eq, h1, cb_some]
  by_cases hc : r < 0
  · rw [br_pos hc]
  obtain ⟨r', g1, g2, g3, g4⟩ := p_szKey 1073741824 b r hb (by omega) (by omega) (by omega)
  rw [br_neg hc, g1, cb_some]
  by_cases hd : r' < 0
  · rw [br_pos hd]
  have hz1 := h4 (by omega)
  have hz2 := g4 (by omega)
  have hk := zKey_f b
  have ht := z_okT ha (by omega)
  rw [br_neg hd, p_toFlatRowSS _ a (by omega) (by omega), cb_some, p_toKey _ b (by omega) (by omega), cb_some, p_NumberOfS _ a b ht (by omega) (by omega), cb_some, cb_some, cb_some, p_NumberOfI _ a b ht hb (by omega) (by omega) (by omega), cb_some, beq_self_eq_true, Bool.not_true, br_false, cb_some, p_eqFlatRowSS _ a (by omega) (by omega), cb_some, Bool.not_true, br_false, cb_some, p_eqKey _ b (by omega) (by omega), cb_some, Bool.not_true, br_false]
end Go.Q
