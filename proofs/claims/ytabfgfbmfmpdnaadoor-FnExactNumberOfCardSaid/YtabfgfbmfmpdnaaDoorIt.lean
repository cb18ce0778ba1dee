/- strconv.Itoa: the library's contract, as an entry of a table. -/
import Derived.Test.YtabfgfbmfmpdnaaDoorQe
import Derived.Test.YtabfgfbmfmpdnaaDoorItSh
import Derived.Lib.ItoaLen
import Derived.Lib.AppendIntMem
import Derived.KernelRfl
set_option linter.unusedVariables false
set_option linter.unusedSimpArgs false
namespace Go.Q
open Go.Proofs Go.RowKit
set_option linter.unusedVariables false
def m_strconv_Itoa (nf : Nat) (n : Int) : Option (List UInt8) := some (Lib.itoa n)
theorem tab_itoa {F : Nat → Prop} {w : World} (h : Laid (tabs Tryd.prog) F w) : Lib.TabIs Tryd.prog w "internal/strconv.uint64pow10" .u64 Lib.pow10Tab := by
  have e : tabs Tryd.prog = [(0, (Lib.pow10Tab.map fun z => Value.int .u64 z).toArray)] := by kernel_rfl
  rw [e] at h
  obtain ⟨_, t, fr, h2⟩ := h _ _ (List.mem_singleton.2 rfl)
  have hg : Tryd.prog.globalNamed "internal/strconv.uint64pow10" = some 0 := by kernel_rfl
  unfold Lib.TabIs World.var?
  rw [hg]
  simp only [Option.bind_some, h2]
noncomputable def e_strconv_Itoa (nf : Nat) : XE := eF 40 [.v kI] [.v kS] (fun t => m_strconv_Itoa nf t.1)
theorem o_strconv_Itoa (nf : Nat) : conOK Tryd.prog 40 (e_strconv_Itoa nf).con := by
  refine eF_ok fun t x h => ?_
  obtain ⟨a, _⟩ := t
  have hx : x = (Lib.itoa a : List UInt8) := by cases h; rfl
  subst hx
  show Sp Tryd.prog 40 [.v kI a] (.v kS (Lib.itoa a))
  refine ⟨by kernel_rfl, fun F w us hF hL hargs => ?_, fun _ _ _ h => (by cases h), fun _ _ _ _ _ _ h => (by cases h)⟩
  obtain ⟨u, r, rfl, hu, hr⟩ := hargs
  cases hr
  obtain ⟨rfl, hi⟩ := RepV_int.1 hu
  obtain ⟨h0, h1⟩ : -9223372036854775808 ≤ a ∧ a ≤ 9223372036854775807 := hi
  refine (Tryd.strconv_Itoa a h0 h1 w (tab_itoa hL)).mono ?_
  rintro e w' ⟨rfl, k, os, rfl⟩
  refine ⟨_, fun _ => none, rfl, ⟨fun _ => undef, RepV_str.2 ⟨rfl, ?_⟩, fun l o h => by simp [RA.intro, lo] at h⟩, ?_⟩
  · have := Lib.itoa_length_le a h0 h1
    simp only [maxLen]; omega
  · have hb := Lib.below_grow w.heap.size w (Nat.le_refl _) k os
    exact ⟨hb.os, hb.tape, hb.output, hb.size, fun b hlt _ => ⟨rfl, hb.block b hlt⟩⟩
end Go.Q
