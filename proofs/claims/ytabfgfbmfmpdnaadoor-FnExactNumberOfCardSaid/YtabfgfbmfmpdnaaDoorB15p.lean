/- Numbers of keys: plain laws. -/
import Derived.Test.YtabfgfbmfmpdnaaDoorB15k
set_option linter.unusedVariables false
set_option linter.unusedSimpArgs false
set_option linter.unusedVariables false
set_option linter.unusedSimpArgs false
set_option maxHeartbeats 1000000
namespace Go.Q
/-! ### equal keys -/
theorem eq_loop (L : Nat → Int → Option Bool) (a b : List Int) (hl : a.length = b.length)
    (hs : ∀ m i, i < a.length → L (m + 1) (i : Int) = if (gt a (i : Int) 0 == gt b (i : Int) 0) = true then L m ((i + 1 : Nat) : Int) else some false) (he : ∀ m, L (m + 1) (a.length : Int) = some true) :
    ∀ f i, i ≤ a.length → a.length < f + i → L f (i : Int) = some (a.drop i == b.drop i) := by
  intro f
  induction f with
  | zero => intro i h1 h2; omega
  | succ f ih =>
    intro i h1 h2
    by_cases hi : i < a.length
    · rw [hs f i hi]
      have ea : a.drop i = gt a (i : Int) 0 :: a.drop (i + 1) := by rw [gt_at a i hi]; exact List.drop_eq_getElem_cons hi
      have eb : b.drop i = gt b (i : Int) 0 :: b.drop (i + 1) := by rw [gt_at b i (by omega)]; exact List.drop_eq_getElem_cons (by omega)
      rw [ea, eb]
      by_cases hq : (gt a (i : Int) 0 == gt b (i : Int) 0) = true
      · rw [if_pos hq, ih (i + 1) (by omega) (by omega)]
        simp only [List.cons_beq_cons, hq, Bool.true_and]
      · rw [if_neg hq]
        have hq' : (gt a (i : Int) 0 == gt b (i : Int) 0) = false := by simpa using hq
        simp only [List.cons_beq_cons, hq', Bool.false_and]
    · have e : i = a.length := by omega
      subst e
      rw [he f, List.drop_length, hl, List.drop_length]
      rfl
def kEq (a b : Key) : Bool := a.tag == b.tag && a.rows == b.rows
theorem kEq_iff {a b : Key} : kEq a b = true ↔ a = b := by
  cases a; cases b
  simp [kEq]
theorem br_not {R : Type} (c : Bool) (x y : Option R) : br (!c) x y = if c = true then y else x := by cases c <;> rfl
theorem p_Equal (nf : Nat) (a b : List Int) (h : a.length < nf) (hb : nf ≤ 2147483647) : m_slices_Equal_int_int nf a b = some (a == b) := by
  rw [m_slices_Equal_int_int_eq]
  by_cases hl : a.length = b.length
  · have e0 : ((a.length : Int) == (b.length : Int)) = true := by rw [hl]; exact beq_self_eq_true _
    rw [e0, Bool.not_true, br_false, mark_eq]
    have := eq_loop (fun m i => l14_slices_Equal_int_int nf m a b i) a b hl (fun m i hi => ?_) (fun m => ?_) nf 0 (by omega) (by omega)
    · simpa using this
    · have c0 : (i : Int) < (a.length : Int) := by omega
      have c1 : 0 ≤ (i : Int) ∧ (i : Int) < (a.length : Int) := by omega
      have c2 : 0 ≤ (i : Int) ∧ (i : Int) < (b.length : Int) := by omega
      simp only [l14_slices_Equal_int_int_eq, br_pos c0, gg_pos c1, gg_pos c2, mark_eq, w64_nat (n := i) (by omega), br_not]
    · have c0 : ¬ (a.length : Int) < (a.length : Int) := by omega
      simp only [l14_slices_Equal_int_int_eq, br_neg c0]
  · have e0 : ((a.length : Int) == (b.length : Int)) = false := by
      have : ¬ (a.length : Int) = (b.length : Int) := by omega
      simpa using this
    rw [e0, Bool.not_false, br_true]
    have : (a == b) = false := by
      have : ¬ a = b := fun e => hl (by rw [e])
      simpa using this
    rw [this]
theorem p_keyEqI (nf : Nat) (a b : Key) (h : a.rows.length < nf) (hb : nf ≤ 2147483647) : m_impl_EqualKey nf a b = some (kEq a b) := by
  rw [m_impl_EqualKey_eq, p_Equal nf _ _ h hb, cb_some]
  unfold kEq
  cases (a.tag == b.tag) <;> rfl
theorem p_keyEqS (nf : Nat) (a b : Key) (h : a.rows.length < nf) (hb : nf ≤ 2147483647) : m_spec_EqualKey nf a b = some (kEq a b) := by
  rw [m_spec_EqualKey_eq]
  unfold kEq
  cases ht : (a.tag == b.tag) with
  | false => simp only [mark_eq, j5_spec_EqualKey_eq, Bool.not_false, Bool.false_and]; rfl
  | true =>
    simp only [mark_eq, j5_spec_EqualKey_eq, Bool.not_true, Bool.true_and]
    show br (!((a.rows.length : Int) == (b.rows.length : Int))) (some false) (l14_spec_EqualKey nf nf a b 0) = _
    by_cases hl : a.rows.length = b.rows.length
    · have e0 : ((a.rows.length : Int) == (b.rows.length : Int)) = true := by rw [hl]; exact beq_self_eq_true _
      rw [e0, Bool.not_true, br_false]
      have := eq_loop (fun m i => l14_spec_EqualKey nf m a b i) a.rows b.rows hl (fun m i hi => ?_) (fun m => ?_) nf 0 (by omega) (by omega)
      · simpa using this
      · have c0 : (i : Int) < (a.rows.length : Int) := by omega
        have c1 : 0 ≤ (i : Int) ∧ (i : Int) < (a.rows.length : Int) := by omega
        have c2 : 0 ≤ (i : Int) ∧ (i : Int) < (b.rows.length : Int) := by omega
        simp only [l14_spec_EqualKey_eq, br_pos c0, gg_pos c1, gg_pos c2, mark_eq, w64_nat (n := i) (by omega), br_not]
      · have c0 : ¬ (a.rows.length : Int) < (a.rows.length : Int) := by omega
        simp only [l14_spec_EqualKey_eq, br_neg c0]
    · have e0 : ((a.rows.length : Int) == (b.rows.length : Int)) = false := by
        have : ¬ (a.rows.length : Int) = (b.rows.length : Int) := by omega
        simpa using this
      rw [e0, Bool.not_false, br_true]
      have : (a.rows == b.rows) = false := by
        have : ¬ a.rows = b.rows := fun e => hl (by rw [e])
        simpa using this
      rw [this]
/-! ### where a key stands -/
def atR (x : Key) : Nat → List Key → Int
  | _, [] => -1
  | i, k :: r => if kEq k x = true then (i : Int) else atR x (i + 1) r
theorem atR_ge (x : Key) : ∀ (l : List Key) (i : Nat), -1 ≤ atR x i l ∧ atR x i l < (i + l.length : Nat) ∧ (0 ≤ atR x i l → (i : Int) ≤ atR x i l)
  | [], i => by simp only [atR, List.length_nil]; omega
  | k :: r, i => by
    have := atR_ge x r (i + 1)
    simp only [atR, List.length_cons]
    split <;> omega
theorem p_l22At (nf : Nat) (list : List Key) (x : Key) (h : list.length < nf) (hk : ∀ k ∈ list, k.rows.length < nf) (hb : nf ≤ 2147483647) : m_spec_l22At nf list x = some (atR x 0 list) := by
  rw [m_spec_l22At_eq, mark_eq]
  have key : ∀ f i, i ≤ list.length → list.length < f + i → l6_spec_l22At nf f list x (i : Int) = some (atR x i (list.drop i)) := by
    intro f
    induction f with
    | zero => intro i h1 h2; omega
    | succ f ih =>
      intro i h1 h2
      rw [l6_spec_l22At_eq]
      by_cases hi : i < list.length
      · have c0 : (i : Int) < (list.length : Int) := by omega
        have c1 : 0 ≤ (i : Int) ∧ (i : Int) < (list.length : Int) := by omega
        have ea : list.drop i = gt list (i : Int) Key.zero :: list.drop (i + 1) := by rw [gt_at list i hi]; exact List.drop_eq_getElem_cons hi
        have hm : gt list (i : Int) Key.zero ∈ list := by rw [gt_at list i hi]; exact List.getElem_mem hi
        rw [br_pos c0, gg_pos c1, p_keyEqS nf _ x (hk _ hm) hb, cb_some, ea, mark_eq, w64_nat (n := i) (by omega), ih (i + 1) (by omega) (by omega)]
        simp only [atR]
        cases kEq (gt list (i : Int) Key.zero) x <;> rfl
      · have c0 : ¬ (i : Int) < (list.length : Int) := by omega
        have e : i = list.length := by omega
        subst e
        rw [br_neg c0, List.drop_length]
        rfl
  have := key nf 0 (by omega) (by omega)
  simpa using this
def numK (keys : List Key) (x : Key) : Int := if kEq x (Key.mk 0 []) = true then 0 else if atR x 0 keys < 0 then -1 else atR x 0 keys + 1
theorem p_l22Number (nf : Nat) (keys : List Key) (x : Key) (h : keys.length < nf) (hk : ∀ k ∈ keys, k.rows.length < nf) (hb : nf ≤ 2147483647) : m_spec_l22Number nf keys x = some (numK keys x) := by
  have hg := atR_ge x keys 0
  rw [m_spec_l22Number_eq]
  simp only [mark_eq, j5_spec_l22Number_eq, p_l22At nf keys x h hk hb, cb_some]
  have e : kEq x (Key.mk 0 []) = ((x.tag == 0) && ((x.rows.length : Int) == 0)) := by
    unfold kEq
    congr 1
    cases x.rows with
    | nil => rfl
    | cons a r =>
      have : ((((a :: r).length : Nat) : Int) == 0) = false := by
        have : ¬ (((a :: r).length : Nat) : Int) = 0 := by simp only [List.length_cons]; omega
        simpa using this
      rw [this]; rfl
  unfold numK
  rw [e]
  have ew : w64 (atR x 0 keys + 1) = atR x 0 keys + 1 := w64_id (by omega) (by omega)
  rw [ew]
  cases (x.tag == 0) <;> cases ((x.rows.length : Int) == 0) <;> simp only [Bool.and_true, Bool.and_false, Bool.true_and, Bool.false_and, Bool.false_eq_true, if_false, if_true] <;> first | rfl | (by_cases hc : atR x 0 keys < 0 <;> simp only [hc, if_true, if_false] <;> first | rfl | (rw [show decide (atR x 0 keys < 0) = _ from by first | exact decide_eq_true hc | exact decide_eq_false hc]; rfl))
/-! ### numbers in a map -/
def encM : Nat → List Key → List (Str × Int)
  | _, [] => []
  | i, k :: r => (kText k, (i : Int)) :: encM (i + 1) r
theorem encM_len : ∀ (l : List Key) (i : Nat), (encM i l).length = l.length
  | [], _ => rfl
  | _ :: r, i => by simp only [encM, List.length_cons, encM_len r]
theorem encM_snoc (x : Key) : ∀ (l : List Key) (i : Nat), encM i (l ++ [x]) = encM i l ++ [(kText x, ((i + l.length : Nat) : Int))]
  | [], i => rfl
  | k :: r, i => by
    simp only [List.cons_append, encM, encM_snoc x r (i + 1), List.length_cons]
    rw [show i + 1 + r.length = i + (r.length + 1) by omega]
theorem text_eq (x k : Key) : (kText x == kText k) = kEq k x := by
  by_cases h : x = k
  · subst h
    rw [kEq_iff.2 rfl]; simp
  · have h1 : kEq k x = false := by
      cases hq : kEq k x with
      | false => rfl
      | true => exact absurd (kEq_iff.1 hq).symm h
    have h2 : ¬ kText x = kText k := fun e => h (kText_inj e)
    rw [h1]
    simpa using h2
theorem mgt_enc (x : Key) : ∀ (l : List Key) (i : Nat), mgt (kk := kS) (vk := kI) (encM (i + 1) l) (kText x) = atR x i l + 1
  | [], i => rfl
  | k :: r, i => by
    have ih := mgt_enc x r (i + 1)
    show (if keq kS (kText x) (kText k) = true then (((i + 1 : Nat) : Int)) else mgt (kk := kS) (vk := kI) (encM (i + 1 + 1) r) (kText x)) = _
    have e : keq kS (kText x) (kText k) = kEq k x := text_eq x k
    rw [e, ih]
    simp only [atR]
    split <;> omega
theorem mhas_enc (x : Key) : ∀ (l : List Key) (i j : Nat), mhas (kk := kS) (vk := kI) (encM j l) (kText x) = decide (0 ≤ atR x i l)
  | [], i, j => rfl
  | k :: r, i, j => by
    have ih := mhas_enc x r (i + 1) (j + 1)
    show (keq kS (kText x) (kText k) || mhas (kk := kS) (vk := kI) (encM (j + 1) r) (kText x)) = _
    have e : keq kS (kText x) (kText k) = kEq k x := text_eq x k
    rw [e, ih]
    have hq : atR x i (k :: r) = if kEq k x = true then (i : Int) else atR x (i + 1) r := rfl
    by_cases h : kEq k x = true
    · rw [if_pos h] at hq
      rw [h, Bool.true_or, decide_eq_true (by omega)]
    · rw [if_neg h] at hq
      have h' : kEq k x = false := by simpa using h
      rw [h', Bool.false_or]
      congr 1
      rw [hq]
theorem mset_enc (x : Key) (v : Int) : ∀ (l : List Key) (i j : Nat), atR x i l < 0 → mset (kk := kS) (vk := kI) (encM j l) (kText x) v = encM j l ++ [(kText x, v)]
  | [], i, j, _ => rfl
  | k :: r, i, j, h => by
    simp only [atR] at h
    have e : keq kS (kText x) (kText k) = kEq k x := text_eq x k
    by_cases hq : kEq k x = true
    · rw [if_pos hq] at h; omega
    · rw [if_neg hq] at h
      have hq' : kEq k x = false := by simpa using hq
      show (if keq kS (kText x) (kText k) = true then (kText x, v) :: encM (j + 1) r else (kText k, (j : Int)) :: mset (kk := kS) (vk := kI) (encM (j + 1) r) (kText x) v) = _
      rw [e, hq', if_neg (by simp), mset_enc x v r (i + 1) (j + 1) h]
      rfl
/-! ### all keys -/
def addK (acc : List Key) (r : FRow) : List Key := if atR r.own 0 acc < 0 then acc ++ [r.own] else acc
def keysOf (tables : List (List FRow)) : List Key := tables.foldl (fun acc l => l.foldl addK acc) []
theorem addK_len (acc : List Key) (r : FRow) : (addK acc r).length ≤ acc.length + 1 := by
  unfold addK; split <;> simp
theorem addKs_len : ∀ (l : List FRow) (acc : List Key), (l.foldl addK acc).length ≤ acc.length + l.length
  | [], acc => Nat.le_refl _
  | r :: l, acc => by
    have := addKs_len l (addK acc r)
    have := addK_len acc r
    simp only [List.foldl_cons, List.length_cons]; omega
theorem keysFrom_len : ∀ (t : List (List FRow)) (acc : List Key), (t.foldl (fun acc l => l.foldl addK acc) acc).length ≤ acc.length + (t.map List.length).sum
  | [], acc => Nat.le_refl _
  | l :: t, acc => by
    have := keysFrom_len t (l.foldl addK acc)
    have := addKs_len l acc
    simp only [List.foldl_cons, List.map_cons, List.sum_cons]; omega
theorem addKs_mem {p : Key → Prop} : ∀ (l : List FRow) (acc : List Key), (∀ k ∈ acc, p k) → (∀ r ∈ l, p r.own) → ∀ k ∈ l.foldl addK acc, p k
  | [], acc, h, _ => h
  | r :: l, acc, h, h2 => by
    refine addKs_mem l (addK acc r) (fun k hk => ?_) (fun r hr => h2 r (List.mem_cons_of_mem _ hr))
    unfold addK at hk
    split at hk
    · rcases List.mem_append.1 hk with hk | hk
      · exact h k hk
      · rw [List.mem_singleton.1 hk]; exact h2 r (by simp)
    · exact h k hk
theorem keysFrom_mem {p : Key → Prop} : ∀ (t : List (List FRow)) (acc : List Key), (∀ k ∈ acc, p k) → (∀ l ∈ t, ∀ r ∈ l, p r.own) → ∀ k ∈ t.foldl (fun acc l => l.foldl addK acc) acc, p k
  | [], acc, h, _ => h
  | l :: t, acc, h, h2 => keysFrom_mem t _ (addKs_mem l acc h (h2 l (by simp))) (fun l hl => h2 l (List.mem_cons_of_mem _ hl))
/-- Data that a law lets in. -/
structure okT (tables : List (List FRow)) : Prop where
  len : tables.length ≤ 1048576
  sum : (tables.map List.length).sum ≤ 1048576
  row : ∀ l ∈ tables, ∀ r ∈ l, Rd (kR 14) r.own ∧ Rd (kR 14) r.outer ∧ r.own.rows.length ≤ 1048576 ∧ r.outer.rows.length ≤ 1048576 ∧ szL zVal r.cols ≤ 1048576
theorem sum_take : ∀ (l : List Nat) (i : Nat), (l.take i).sum ≤ l.sum
  | [], i => by simp
  | x :: l, 0 => by simp
  | x :: l, i + 1 => by have := sum_take l i; simp only [List.take_succ_cons, List.sum_cons]; omega
theorem foldl_take_succ {α β : Type} (f : β → α → β) (b : β) (a : List α) {i : Nat} (h : i < a.length) (z : α) : (a.take (i + 1)).foldl f b = f ((a.take i).foldl f b) (gt a (i : Int) z) := by
  rw [← take_gt a h z, List.foldl_append]; rfl
theorem gt_mem {α : Type} (a : List α) {i : Nat} (h : i < a.length) (z : α) : gt a (i : Int) z ∈ a := by rw [gt_at a i h]; exact List.getElem_mem h
theorem len_sum {α : Type} (t : List (List α)) {l : List α} (h : l ∈ t) : l.length ≤ (t.map List.length).sum := by
  induction t with
  | nil => cases h
  | cons x t ih =>
    simp only [List.map_cons, List.sum_cons]
    rcases List.mem_cons.1 h with rfl | h
    · omega
    · have := ih h; omega
def kPreT (tables : List (List FRow)) (i : Nat) : List Key := (tables.take i).foldl (fun acc l => l.foldl addK acc) []
theorem kPreT_len {tables : List (List FRow)} (h : okT tables) (i : Nat) : (kPreT tables i).length ≤ 1048576 := by
  have h1 := keysFrom_len (tables.take i) []
  have h2 := sum_take (tables.map List.length) i
  have h3 := h.sum
  rw [← List.map_take] at h2
  unfold kPreT
  simp only [List.length_nil] at h1
  omega
theorem kPreT_mem {tables : List (List FRow)} (h : okT tables) (i : Nat) : ∀ k ∈ kPreT tables i, Rd (kR 14) k ∧ k.rows.length ≤ 1048576 :=
  keysFrom_mem (p := fun k => Rd (kR 14) k ∧ k.rows.length ≤ 1048576) _ _ (fun k hk => (by cases hk)) (fun l hl r hr => by
    have := h.row l (List.mem_of_mem_take hl) r hr
    exact ⟨this.1, this.2.2.1⟩)
theorem p_l22Keys (nf : Nat) (tables : List (List FRow)) (h : okT tables) (hn : 4194304 < nf) (hb : nf ≤ 2147483647) : m_spec_l22Keys nf tables = some (keysOf tables) := by
  have hl := h.len
  rw [m_spec_l22Keys_eq, mark_eq]
  refine for_loop (fun m i s => l8_spec_l22Keys nf m tables i s) tables.length (kPreT tables) (some (keysOf tables)) (fun m i hi => ?_) (fun m => ?_) nf (by omega)
  · have c0 : (i : Int) < (tables.length : Int) := by omega
    have c1 : 0 ≤ (i : Int) ∧ (i : Int) < (tables.length : Int) := by omega
    show l8_spec_l22Keys nf (m + 1) tables (i : Int) (kPreT tables i) = l8_spec_l22Keys nf m tables ((i + 1 : Nat) : Int) (kPreT tables (i + 1))
    rw [l8_spec_l22Keys_eq, br_pos c0, mark_eq]
    have hmem := gt_mem tables hi ([] : List FRow)
    obtain ⟨l, hle⟩ : ∃ l, gt tables (i : Int) ([] : List FRow) = l := ⟨_, rfl⟩
    have e2 : kPreT tables (i + 1) = l.foldl addK (kPreT tables i) := by
      unfold kPreT
      rw [foldl_take_succ _ _ tables hi ([] : List FRow), hle]
    rw [hle] at hmem
    have hlen := len_sum tables hmem
    have hs := h.sum
    have hk0 := kPreT_len h i
    have hk1 := kPreT_mem h i
    rw [e2]
    refine for_loop (fun m20 j s => l20_spec_l22Keys nf m m20 tables (i : Int) j s) l.length (fun j => (l.take j).foldl addK (kPreT tables i)) _ (fun m20 j hj => ?_) (fun m20 => ?_) nf (by omega)
    · have d0 : (j : Int) < (l.length : Int) := by omega
      have d1 : 0 ≤ (j : Int) ∧ (j : Int) < (l.length : Int) := by omega
      have hr := h.row l hmem _ (gt_mem l hj FRow.zero)
      have g1 := addKs_len (l.take j) (kPreT tables i)
      have g2 := addKs_mem (p := fun k => Rd (kR 14) k ∧ k.rows.length ≤ 1048576) (l.take j) (kPreT tables i) hk1 (fun r hr => by
        have := h.row l hmem r (List.mem_of_mem_take hr)
        exact ⟨this.1, this.2.2.1⟩)
      rw [List.length_take] at g1
      show l20_spec_l22Keys nf m (m20 + 1) tables (i : Int) (j : Int) ((l.take j).foldl addK (kPreT tables i)) = l20_spec_l22Keys nf m m20 tables (i : Int) ((j + 1 : Nat) : Int) ((l.take (j + 1)).foldl addK (kPreT tables i))
      rw [l20_spec_l22Keys_eq, gg_pos c1, hle, br_pos d0, gg_pos c1, gg_pos d1, p_l22At nf _ _ (by omega) (fun k hk => by have := (g2 k hk).2; omega) hb, cb_some, foldl_take_succ addK _ l hj FRow.zero]
      simp only [gg_pos c1, gg_pos d1, mark_eq, w64_nat (n := j) (by omega)]
      generalize hacc : (l.take j).foldl addK (kPreT tables i) = acc at g1 g2 ⊢
      unfold addK
      by_cases hc : atR (gt l (j : Int) FRow.zero).own 0 acc < 0
      · rw [br_pos hc, if_pos hc, gg_pos (by simp only [List.length_cons, List.length_nil]; omega)]
      · rw [br_neg hc, if_neg hc]
    · have d0 : ¬ (l.length : Int) < (l.length : Int) := by omega
      show l20_spec_l22Keys nf m (m20 + 1) tables (i : Int) (l.length : Int) ((l.take l.length).foldl addK (kPreT tables i)) = _
      rw [l20_spec_l22Keys_eq, gg_pos c1, hle, br_neg d0, mark_eq, w64_nat (n := i) (by omega), List.take_length]
  · have c0 : ¬ (tables.length : Int) < (tables.length : Int) := by omega
    show l8_spec_l22Keys nf (m + 1) tables (tables.length : Int) (kPreT tables tables.length) = _
    rw [l8_spec_l22Keys_eq, br_neg c0]
    unfold kPreT keysOf
    rw [List.take_length]
theorem p_numbering (nf : Nat) (tables : List (List FRow)) (h : okT tables) (hn : 4194304 < nf) (hb : nf ≤ 2147483647) : m_impl_numbering nf tables = some (encM 1 (keysOf tables)) := by
  have hl := h.len
  rw [m_impl_numbering_eq, mark_eq]
  refine for_loop (fun m i s => l8_impl_numbering nf m tables i s) tables.length (fun i => encM 1 (kPreT tables i)) (some (encM 1 (keysOf tables))) (fun m i hi => ?_) (fun m => ?_) nf (by omega)
  · have c0 : (i : Int) < (tables.length : Int) := by omega
    have c1 : 0 ≤ (i : Int) ∧ (i : Int) < (tables.length : Int) := by omega
    show l8_impl_numbering nf (m + 1) tables (i : Int) (encM 1 (kPreT tables i)) = l8_impl_numbering nf m tables ((i + 1 : Nat) : Int) (encM 1 (kPreT tables (i + 1)))
    rw [l8_impl_numbering_eq, br_pos c0, gg_pos c1, mark_eq]
    have hmem := gt_mem tables hi ([] : List FRow)
    obtain ⟨l, hle⟩ : ∃ l, gt tables (i : Int) ([] : List FRow) = l := ⟨_, rfl⟩
    have e2 : kPreT tables (i + 1) = l.foldl addK (kPreT tables i) := by
      unfold kPreT
      rw [foldl_take_succ _ _ tables hi ([] : List FRow), hle]
    rw [hle] at hmem
    have hlen := len_sum tables hmem
    have hs := h.sum
    have hk0 := kPreT_len h i
    rw [e2]
    refine for_loop (fun m20 j s => l22_impl_numbering nf m m20 tables (i : Int) j s) l.length (fun j => encM 1 ((l.take j).foldl addK (kPreT tables i))) _ (fun m20 j hj => ?_) (fun m20 => ?_) nf (by omega)
    · have d0 : (j : Int) < (l.length : Int) := by omega
      have d1 : 0 ≤ (j : Int) ∧ (j : Int) < (l.length : Int) := by omega
      have hr := h.row l hmem _ (gt_mem l hj FRow.zero)
      have g1 := addKs_len (l.take j) (kPreT tables i)
      rw [List.length_take] at g1
      show l22_impl_numbering nf m (m20 + 1) tables (i : Int) (j : Int) (encM 1 ((l.take j).foldl addK (kPreT tables i))) = l22_impl_numbering nf m m20 tables (i : Int) ((j + 1 : Nat) : Int) (encM 1 ((l.take (j + 1)).foldl addK (kPreT tables i)))
      rw [l22_impl_numbering_eq, hle, br_pos d0, gg_pos d1, p_kTextI nf _ hr.1 (by omega) (by omega), cb_some, foldl_take_succ addK _ l hj FRow.zero]
      simp only [mark_eq, w64_nat (n := j) (by omega)]
      generalize hacc : (l.take j).foldl addK (kPreT tables i) = acc at g1 ⊢
      have hge := atR_ge (gt l (j : Int) FRow.zero).own acc 0
      have ee : mgt (kk := kS) (vk := kI) (encM 1 acc) (kText (gt l (j : Int) FRow.zero).own) = atR (gt l (j : Int) FRow.zero).own 0 acc + 1 := mgt_enc _ acc 0
      unfold addK
      by_cases hc : atR (gt l (j : Int) FRow.zero).own 0 acc < 0
      · have e0 : (mgt (kk := kS) (vk := kI) (encM 1 acc) (kText (gt l (j : Int) FRow.zero).own) == (0 : Int)) = true := by rw [ee]; exact beq_iff_eq.2 (by show (atR (gt l (j : Int) FRow.zero).own 0 acc + 1 : Int) = 0; omega)
        rw [e0, br_true, if_pos hc, gg_pos (by rw [encM_len]; omega), mset_enc _ _ acc 0 1 hc, encM_snoc, encM_len, w64_nat (n := acc.length) (by omega), show 1 + acc.length = acc.length + 1 by omega]
      · have e0 : (mgt (kk := kS) (vk := kI) (encM 1 acc) (kText (gt l (j : Int) FRow.zero).own) == (0 : Int)) = false := by rw [ee]; exact beq_eq_false_iff_ne.2 (by show ¬ ((atR (gt l (j : Int) FRow.zero).own 0 acc + 1 : Int) = 0); omega)
        rw [e0, br_false, if_neg hc]
    · have d0 : ¬ (l.length : Int) < (l.length : Int) := by omega
      show l22_impl_numbering nf m (m20 + 1) tables (i : Int) (l.length : Int) (encM 1 ((l.take l.length).foldl addK (kPreT tables i))) = _
      rw [l22_impl_numbering_eq, hle, br_neg d0, mark_eq, w64_nat (n := i) (by omega), List.take_length]
  · have c0 : ¬ (tables.length : Int) < (tables.length : Int) := by omega
    show l8_impl_numbering nf (m + 1) tables (tables.length : Int) (encM 1 (kPreT tables tables.length)) = _
    rw [l8_impl_numbering_eq, br_neg c0]
    unfold kPreT keysOf
    rw [List.take_length]
theorem p_numberIn (nf : Nat) (keys : List Key) (x : Key) (hr : Rd (kR 14) x) (hx : x.rows.length ≤ 1048576) (hn : 4194304 < nf) (hb : nf ≤ 2147483647) : m_impl_numberIn nf x (encM 1 keys) = some (numK keys x, encM 1 keys) := by
  rw [m_impl_numberIn_eq, p_keyEqI nf _ _ (by omega) hb, cb_some, p_kTextI nf x hr (by omega) hx]
  unfold numK
  cases kEq x (Key.mk 0 []) with
  | true => rfl
  | false =>
    rw [br_false, cb_some]
    have e1 : mhas (kk := kS) (vk := kI) (encM 1 keys) (kText x) = decide (0 ≤ atR x 0 keys) := mhas_enc x keys 0 1
    have e2 : mgt (kk := kS) (vk := kI) (encM 1 keys) (kText x) = atR x 0 keys + 1 := mgt_enc x keys 0
    rw [e1, e2, if_neg (by simp)]
    by_cases hc : atR x 0 keys < 0
    · rw [br_neg (by omega), if_pos hc]
    · rw [br_pos (by omega), if_neg hc]
theorem keysOf_len {tables : List (List FRow)} (h : okT tables) : (keysOf tables).length ≤ 1048576 := by
  have := kPreT_len h tables.length
  unfold kPreT at this
  rwa [List.take_length] at this
theorem keysOf_mem {tables : List (List FRow)} (h : okT tables) : ∀ k ∈ keysOf tables, Rd (kR 14) k ∧ k.rows.length ≤ 1048576 := by
  have := kPreT_mem h tables.length
  unfold kPreT at this
  rwa [List.take_length] at this
theorem p_NumberOfS (nf : Nat) (tables : List (List FRow)) (x : Key) (h : okT tables) (hn : 4194304 < nf) (hb : nf ≤ 2147483647) : m_spec_NumberOf nf tables x = some (numK (keysOf tables) x) := by
  have h1 := keysOf_len h
  rw [m_spec_NumberOf_eq, p_l22Keys nf tables h hn hb, cb_some, p_l22Number nf _ x (by omega) (fun k hk => by have := (keysOf_mem h k hk).2; omega) hb, cb_some]
theorem p_NumberOfI (nf : Nat) (tables : List (List FRow)) (x : Key) (h : okT tables) (hr : Rd (kR 14) x) (hx : x.rows.length ≤ 1048576) (hn : 4194304 < nf) (hb : nf ≤ 2147483647) : m_impl_NumberOf nf tables x = some (numK (keysOf tables) x) := by
  rw [m_impl_NumberOf_eq, p_numbering nf tables h hn hb, cb_some, p_numberIn nf _ x hr hx hn hb, cb_some]
/-! ### the law -/
theorem z_okT {a : List (List FRow)} (hr : Rd (kL (kL (kR 15))) a) (hz : szL (szL zFRow) a ≤ 1048576) : okT a := by
  have hal : a.length ≤ szL (szL zFRow) a := by unfold szL; omega
  refine ⟨by omega, ?_, fun l hl r hrr => ?_⟩
  · have : (a.map List.length).sum ≤ (a.map (szL zFRow)).sum := by
      clear hr hz hal
      induction a with
      | nil => exact Nat.le_refl _
      | cons x a ih =>
        have : x.length ≤ szL zFRow x := by unfold szL; omega
        simp only [List.map_cons, List.sum_cons]; omega
    have h2 : (a.map (szL zFRow)).sum ≤ szL (szL zFRow) a := by unfold szL; omega
    omega
  · obtain ⟨i, hi, rfl⟩ := List.getElem_of_mem hl
    obtain ⟨j, hj, rfl⟩ := List.getElem_of_mem hrr
    have e1 := gt_at a i hi ([] : List FRow)
    have e2 := gt_at a[i] j hj FRow.zero
    have s1 := szL_at (szL zFRow) a hi ([] : List FRow)
    have s2 := szL_at zFRow a[i] hj FRow.zero
    rw [e1] at s1
    rw [e2] at s2
    have r1 := hr.at hi ([] : List FRow)
    rw [e1] at r1
    have r2 := Rd.at (c := kR 15) r1 hj FRow.zero
    rw [e2] at r2
    obtain ⟨q0, q1, q2, _⟩ : Rd (kR 14) (a[i][j]).outer ∧ Rd (kR 14) (a[i][j]).own ∧ Rd (kL (kR 1)) (a[i][j]).cols ∧ True := r2.st
    have f := zFRow_f a[i][j]
    have f1 := zKey_f (a[i][j]).outer
    have f2 := zKey_f (a[i][j]).own
    exact ⟨q1, q0, by omega, by omega, by omega⟩
end Go.Q
