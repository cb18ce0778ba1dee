import Derived.Test.YtdjhnobhbnjihaaQd
import Derived.Test.YtdjhnobhbnjihaaSh
import Derived.KernelRfl
set_option linter.unusedVariables false
set_option linter.unusedSimpArgs false
namespace Go.Q
open Go.Proofs Go.RowKit
set_option linter.unusedSimpArgs false
set_option linter.unusedVariables false
def baOf (s : Str) : ByteArray := ⟨s.toArray⟩
theorem Ext_below {w w' : World} (h : Below w.heap.size w w') : Ext (fun _ => none) w (fun _ => none) w' := ⟨h.os, h.tape, h.output, h.size, fun b hb _ => ⟨rfl, h.block b hb⟩⟩
theorem str_res {G : Nat → Prop} {w' : World} {s : Str} (h : s.length ≤ maxLen) : ResR G (fun _ => none) w' (.v kS s) (.string ⟨s.toArray⟩) := by
  refine ⟨fun _ => undef, ?_, fun l o h => by simp [RA.intro, lo] at h⟩
  exact RepV_str.2 ⟨rfl, h⟩
theorem s73 (xs : List Str) (sep : Str) (h : (Lib.join xs sep).length ≤ 140737488355328) (hn : xs.length ≤ 140737488355328) : Sp Try.prog 73 [.v (kL kS) xs, .v kS sep] (.v kS (Lib.join xs sep)) := by
  refine ⟨by kernel_rfl, fun F w us hF hargs => ?_⟩
  obtain ⟨u, r, rfl, hu, hr⟩ := hargs
  obtain ⟨u2, r2, rfl, hu2, hr2⟩ := hr
  cases hr2
  obtain ⟨A, cap, rfl, h1, h2, hel⟩ := RepV_slice.1 hu
  obtain ⟨rfl, _⟩ := RepV_str.1 hu2
  have hlm : (Lib.join xs sep).length ≤ maxLen := by simp only [maxLen]; omega
  cases xs with
  | nil =>
    refine (Try.strings_Join_none A cap ⟨sep.toArray⟩ w).mono ?_
    rintro e w' ⟨rfl, rfl⟩
    exact ⟨_, fun _ => none, rfl, str_res hlm, Ext.refl _ _⟩
  | cons x xs =>
    obtain ⟨ad, es, e1, hFa, hl, hc, hx⟩ := hel 0 (Nat.zero_lt_succ _)
    obtain ⟨bk, o, spot⟩ := ad
    have hcell : ∀ i (hi : i < (x :: xs).length), w.cell? ((⟨bk, o, spot⟩ : Addr).add i) = some (.string ⟨((x :: xs)[i]).toArray⟩) := by
      intro i hi
      obtain ⟨ad', es', e1', _, hl', hc', hx'⟩ := hel i hi
      rw [e1] at e1'
      cases e1'
      have h3 := (Kx_str.1 hx').1
      subst h3
      have := hc' 0 _ rfl
      simpa [Ki.sz, Addr.add] using this
    have hspot : spot = none := by
      have := hcell 0 (Nat.zero_lt_succ _)
      exact World.cell?_spot (by simpa [Addr.add] using this)
    subst hspot
    subst e1
    have hb : bk < w.heap.size := hF _ hFa
    have key := Try.strings_Join bk o cap ((x :: xs).map baOf) ⟨sep.toArray⟩ w (fun j y hj => by
      simp only [List.getElem?_map, Option.map_eq_some_iff] at hj
      obtain ⟨s, hs, rfl⟩ := hj
      obtain ⟨hlt, rfl⟩ := List.getElem?_eq_some_iff.1 hs
      have := hcell j hlt
      rw [Addr.add_lit] at this
      exact this) hb (by simpa using hn) (by simpa using h1) (by simpa [baOf, Function.comp_def] using h)
    have e : ((x :: xs).map baOf).map (fun b => b.data.toList) = x :: xs := by simp [baOf, Function.comp_def]
    rw [e] at key
    simp only [List.length_map] at key
    refine key.mono ?_
    rintro e w' ⟨rfl, hbel⟩
    exact ⟨_, fun _ => none, rfl, str_res hlm, Ext_below hbel⟩
theorem szL_cons {α : Type} (f : α → Nat) (x : α) (xs : List α) : szL f (x :: xs) = 1 + f x + szL f xs := by
  simp only [szL, List.length_cons, List.map_cons, List.sum_cons]; omega
theorem join_len (sep : Str) (h : sep.length ≤ 1) : ∀ xs : List Str, (Lib.join xs sep).length ≤ szL List.length xs
  | [] => by simp [Lib.join_nil]
  | x :: xs => by
    have key : ∀ ys : List Str, (Lib.joinTail sep ys).length ≤ szL List.length ys := by
      intro ys
      induction ys with
      | nil => simp [Lib.joinTail]
      | cons y ys ih =>
        simp only [Lib.joinTail, List.map_cons, List.flatten_cons, List.length_append] at ih ⊢
        rw [szL_cons]
        omega
    rw [Lib.join_cons, List.length_append, szL_cons]
    have := key xs
    omega
theorem join_snoc (sep x : Str) : ∀ xs : List Str, Lib.join (xs ++ [x]) sep = if xs = [] then x else Lib.join xs sep ++ sep ++ x
  | [] => by simp [Lib.join_one]
  | y :: xs => by
    rw [List.cons_append, Lib.join_cons, Lib.join_cons, if_neg (by simp)]
    simp [Lib.joinTail]
theorem take_snoc' {α : Type} (a : List α) {i : Nat} (h : i < a.length) (z : α) : a.take i ++ [gt a (i : Int) z] = a.take (i + 1) := by
  rw [gt_at a i h, List.take_add_one, List.getElem?_eq_getElem h]; rfl
theorem join_take (sep : Str) (xs : List Str) {i : Nat} (h : i < xs.length) (z : Str) : Lib.join (xs.take (i + 1)) sep = if i = 0 then gt xs (i : Int) z else Lib.join (xs.take i) sep ++ sep ++ gt xs (i : Int) z := by
  rw [← take_snoc' xs h z, join_snoc]
  by_cases h0 : i = 0
  · subst h0; simp
  · rw [if_neg h0, if_neg]
    intro e
    have := congrArg List.length e
    rw [List.length_take] at this
    simp only [List.length_nil] at this
    omega
theorem intsOf_append (s t : Str) : intsOf (s ++ t) = intsOf s ++ intsOf t := by simp [intsOf]
noncomputable def c73 : List SA → Option RA := con2p (kL kS) kS (fun (xs : List Str) (sep : Str) => decide (szL List.length xs ≤ 1048576) && decide (sep.length ≤ 1)) fun (xs : List Str) (sep : Str) => .v kS (Lib.join xs sep)
theorem s73c (xs : List Str) (sep : Str) (h : (decide (szL List.length xs ≤ 1048576) && decide (sep.length ≤ 1)) = true) : Sp Try.prog 73 [.v (kL kS) xs, .v kS sep] (.v kS (Lib.join xs sep)) := by
  simp only [Bool.and_eq_true, decide_eq_true_eq] at h
  have h1 := join_len sep h.2 xs
  have h2 : xs.length ≤ szL List.length xs := Nat.le_add_right _ _
  exact s73 xs sep (by omega) (by omega)
end Go.Q
