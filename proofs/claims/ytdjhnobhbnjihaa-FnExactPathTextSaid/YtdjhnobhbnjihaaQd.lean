/- Rules for the steps, facts of the structs, and the way from a row to a contract: for every program of the model. -/
import Derived.Test.YtdjhnobhbnjihaaQc
import Derived.Attr
import Derived.ChangeArms
import Derived.WalkKit
import Derived.ProofKit
import Derived.OpenShut
set_option linter.unusedVariables false
set_option linter.unusedSimpArgs false
/- The rules by which the conditions of a function are worked out. -/
set_option linter.unusedVariables false
namespace Go.Q
/-- A pointer that leads somewhere; one that doesn't; data that is at hand. -/
def sm (c : Ki) (x : c.T) : (Ki.ptr c).T := some x
def nn (c : Ki) : (Ki.ptr c).T := (none : Option c.T)
def so (c : Ki) (x : c.T) : Option c.T := some x
def so2 (c : Ki) (x : c.T) (ls : List Lab) : Option (c.T × List Lab) := some (x, ls)
/-- Contracts at hand. -/
abbrev Tab := List (Nat × (List SA → Option RA))
def Tab.S (T : Tab) (f : FuncId) (as : List SA) (r : RA) : Prop := (lk T f).bind (fun g => g as) = some r
def Tab.ok (P : Program) : Tab → Prop
  | [] => True
  | (f, g) :: T => (∀ as r, g as = some r → Sp P f as r) ∧ Tab.ok P T
theorem Tab.sound {P : Program} : ∀ {T : Tab}, T.ok P → ∀ f as r, T.S f as r → Sp P f as r
  | [], _, f, as, r, h => by simp [Tab.S, lk] at h
  | (k, g) :: T, hT, f, as, r, h => by
    simp only [Tab.S, lk] at h
    split at h
    · rename_i e; subst e; exact hT.1 as r h
    · exact Tab.sound hT.2 f as r h
inductive Kont where
  | top (K : Xt → Env → Prop)
  | sq (b : C) (k : Kont)
  | bk (id : Nat) (k : Kont)
section
variable (S : FuncId → List SA → RA → Prop) (L : C → Env → (Xt → Env → Prop) → Prop)
def Kont.go : Kont → Xt → Env → Prop
  | .top K => K
  | .sq b k => fun e Γ' => match e with
    | .nrm => vc S L b Γ' k.go
    | e => k.go e Γ'
  | .bk id k => fun e Γ' => match e with
    | .ex j => if j = id then k.go .nrm Γ' else k.go (.ex j) Γ'
    | e => k.go e Γ'
end
/-- The contracts, and the loops. -/
structure Cx where
  P : Program
  N : Nat
  T : Tab
def Cx.S (x : Cx) : FuncId → List SA → RA → Prop := x.T.S
def Cx.L (x : Cx) : C → Env → (Xt → Env → Prop) → Prop := Lq x.P x.N
variable (X : Cx)
def VC (c : C) (Γ : Env) (k : Kont) : Prop := vc X.S X.L c Γ (k.go X.S X.L)
def VS (is : List I) (Γ : Env) (k : Kont) : Prop := vs X.S is Γ fun Γ' => k.go X.S X.L .nrm Γ'
def KN (k : Kont) (Γ : Env) : Prop := k.go X.S X.L .nrm Γ
def KR (k : Kont) (Γ : Env) : Prop := k.go X.S X.L .rt Γ
def KE (id : Nat) (k : Kont) (Γ : Env) : Prop := k.go X.S X.L (.ex id) Γ
def CD (x : Option AV) (a b : C) (Γ : Env) (k : Kont) : Prop := need x fun
    | .v .bool (x : Bool) => (x = true → VC X a Γ k) ∧ (x = false → VC X b Γ k)
    | _ => False
def LP (c : C) (Γ : Env) (k : Kont) : Prop := X.L c Γ (k.go X.S X.L)
section
variable (d : Nat) (is : List I) (Γ : Env) (k : Kont)
def MV (x : Option AV) : Prop := need x fun a => VS X is (Γ.put d a) k
def NCK (x : Option AV) : Prop := need x fun
    | .v (.ptr c) x => ∃ y : c.T, x = some y ∧ VS X is (Γ.put d (.v (.ptr c) (some y))) k
    | .pt l off => VS X is (Γ.put d (.pt l off)) k
    | .ep l c i off => VS X is (Γ.put d (.ep l c i off)) k
    | _ => False
def UN (u : UnOp) (x : Option AV) : Prop := need x fun a => need (vu u a) fun r => VS X is (Γ.put d r) k
def BI (b : BinOp) (x y : Option AV) : Prop := need x fun a => need y fun a' => vb b a a' fun r => VS X is (Γ.put d r) k
def BE (ne : Bool) (x y : Option AV) : Prop := need x fun
    | .v .bool (m : Bool) => need y fun
      | .v .bool (n : Bool) => VS X is (Γ.put d (.v .bool (if ne then !(m == n) else m == n))) k
      | _ => False
    | _ => False
def PK (c x y : Option AV) : Prop := need c fun
    | .v .bool (b : Bool) => (b = true → MV X d is Γ k x) ∧ (b = false → MV X d is Γ k y)
    | _ => False
def FA (n j off : Nat) (x : Option AV) : Prop := need x fun
    | .v (.ptr (.struct m)) x => ∃ y : Sty m, x = some y ∧ need (hget (flds m) (un m y) j) fun
      | .v c z => m = n ∧ VS X is (Γ.put d (.v (.ptr c) (some z))) k
      | _ => False
    | .pt l o' => VS X is (Γ.put d (.pt l (o' + off))) k
    | .ep l c i o' => VS X is (Γ.put d (.ep l c i (o' + off))) k
    | _ => False
def FA2 (m n : Nat) (x : Option AV) : Prop := need x fun
      | .v c z => m = n ∧ VS X is (Γ.put d (.v (.ptr c) (some z))) k
      | _ => False
def IA (c : Ki) (x y : Option AV) : Prop := need x fun a => need y fun
    | .v (.int _) (n : Int) => match a with
      | .v (.slice c') xs => c' = c ∧ 0 ≤ n ∧ n < (List.length xs : Int) ∧ VS X is (Γ.put d (.v (.ptr c') (some (gt xs n c'.z)))) k
      | .sl l => need (lo Γ.ob l) fun
        | .row _ _ c' xs => c' = c ∧ 0 ≤ n ∧ n < (xs.length : Int) ∧ VS X is (Γ.put d (.ep l c' n 0)) k
        | _ => False
      | _ => False
    | _ => False
def IAo (l : Lab) (c : Ki) (n : Int) (x : Option Ob) : Prop := need x fun
        | .row _ _ c' xs => c' = c ∧ 0 ≤ n ∧ n < (xs.length : Int) ∧ VS X is (Γ.put d (.ep l c' n 0)) k
        | _ => False
def LD (c : Ki) (x : Option AV) : Prop := need x fun
    | .v (.ptr c') x => ∃ y : c'.T, x = some y ∧ c' = c ∧ VS X is (Γ.put d (.v c' y)) k
    | .pt l off => need (lo Γ.ob l) fun
      | .box ls => match c with
        | .struct n => off + ssz n ≤ ls.length ∧ VS X is (Γ.put d (.ag n ((ls.drop off).take (ssz n)))) k
        | _ => ∃ a, ls[off]? = some a ∧ a.leaf = true ∧ VS X is (Γ.put d a) k
      | _ => False
    | .ep l c' i 0 => need (lo Γ.ob l) fun
      | .row _ _ c2 xs => c' = c ∧ c2 = c ∧ c2.flat = true ∧ 0 ≤ i ∧ i < (xs.length : Int) ∧ VS X is (Γ.put d (.v c2 (gt xs i c2.z))) k
      | _ => False
    | _ => False
def LDo (c : Ki) (off : Nat) (x : Option Ob) : Prop := need x fun
      | .box ls => match c with
        | .struct n => off + ssz n ≤ ls.length ∧ VS X is (Γ.put d (.ag n ((ls.drop off).take (ssz n)))) k
        | _ => ∃ a, ls[off]? = some a ∧ a.leaf = true ∧ VS X is (Γ.put d a) k
      | _ => False
def LDe (c c' : Ki) (i : Int) (x : Option Ob) : Prop := need x fun
      | .row _ _ c2 xs => c' = c ∧ c2 = c ∧ c2.flat = true ∧ 0 ≤ i ∧ i < (xs.length : Int) ∧ VS X is (Γ.put d (.v c2 (gt xs i c2.z))) k
      | _ => False
def LDl (x : Option AV) : Prop := ∃ a, x = some a ∧ a.leaf = true ∧ VS X is (Γ.put d a) k
def ST (c : Ki) (x y : Option AV) : Prop := need x fun
    | .pt l off => need (lo Γ.ob l) fun
      | .box ls => need y fun a => a.stor = true ∧ (cellsOf a).length = c.sz ∧ off + c.sz ≤ ls.length ∧ VS X is ⟨Γ.tm, (l, .box (setAt ls off (cellsOf a))) :: Γ.ob⟩ k
      | _ => False
    | .ep l c' i 0 => need (lo Γ.ob l) fun
      | .row true p c2 xs => need y fun a => need (pkO Γ.ob c2 a) fun r =>
          c' = c2 ∧ c2 = c ∧ 0 ≤ i ∧ i < (xs.length : Int) ∧ r.2.Nodup ∧ l ∉ r.2 ∧
          let Γ' := Γ.kill (fun m => r.2.contains m); VS X is ⟨Γ'.tm, (l, .row true p c2 (xs.set i.toNat r.1)) :: Γ'.ob⟩ k
      | .row false p c2 xs => need y fun a => need (pk Γ.ob c2 a) fun y =>
          c' = c2 ∧ c2 = c ∧ 0 ≤ i ∧ i < (xs.length : Int) ∧ a.refs (fun _ => true) = false ∧ VS X is ⟨Γ.tm, (l, .row false p c2 (xs.set i.toNat y)) :: Γ.ob⟩ k
      | _ => False
    | _ => False
def STo (l : Lab) (off : Nat) (c : Ki) (y : Option AV) (x : Option Ob) : Prop := need x fun
      | .box ls => need y fun a => a.stor = true ∧ (cellsOf a).length = c.sz ∧ off + c.sz ≤ ls.length ∧ VS X is ⟨Γ.tm, (l, .box (setAt ls off (cellsOf a))) :: Γ.ob⟩ k
      | _ => False
def STe (l : Lab) (c c' : Ki) (i : Int) (y : Option AV) (x : Option Ob) : Prop := need x fun
      | .row true p c2 xs => need y fun a => need (pkO Γ.ob c2 a) fun r =>
          c' = c2 ∧ c2 = c ∧ 0 ≤ i ∧ i < (xs.length : Int) ∧ r.2.Nodup ∧ l ∉ r.2 ∧
          let Γ' := Γ.kill (fun m => r.2.contains m); VS X is ⟨Γ'.tm, (l, .row true p c2 (xs.set i.toNat r.1)) :: Γ'.ob⟩ k
      | .row false p c2 xs => need y fun a => need (pk Γ.ob c2 a) fun y =>
          c' = c2 ∧ c2 = c ∧ 0 ≤ i ∧ i < (xs.length : Int) ∧ a.refs (fun _ => true) = false ∧ VS X is ⟨Γ.tm, (l, .row false p c2 (xs.set i.toNat y)) :: Γ.ob⟩ k
      | _ => False
def STp (l : Lab) (p : Bool) (c2 : Ki) (xs : List c2.T) (i : Int) (x : Option (c2.T × List Lab)) : Prop := need x fun r =>
          0 ≤ i ∧ i < (xs.length : Int) ∧ r.2.Nodup ∧ l ∉ r.2 ∧
          let Γ' := Γ.kill (fun m => r.2.contains m); VS X is ⟨Γ'.tm, (l, .row true p c2 (xs.set i.toNat r.1)) :: Γ'.ob⟩ k
def STq (l : Lab) (p : Bool) (c2 : Ki) (xs : List c2.T) (i : Int) (rf : Bool) (x : Option c2.T) : Prop := need x fun y =>
          0 ≤ i ∧ i < (xs.length : Int) ∧ rf = false ∧ VS X is ⟨Γ.tm, (l, .row false p c2 (xs.set i.toNat y)) :: Γ.ob⟩ k
def BX (x : Option AV) : Prop := need x fun a => a.stor = true ∧ VS X is ((Γ.new [d] (.box (cellsOf a))).put d (.pt [d] 0)) k
def LN (st : Bool) (x : Option AV) : Prop := need x fun
    | .v (.slice _) xs => st = false ∧ ((List.length xs : Int) ≤ 9223372036854775807 → VS X is (Γ.put d (.v kI (List.length xs : Int))) k)
    | .v .str s => st = true ∧ ((List.length s : Int) ≤ 9223372036854775807 → VS X is (Γ.put d (.v kI (List.length s : Int))) k)
    | .sl l => st = false ∧ need (lo Γ.ob l) fun
      | .row _ _ _ xs => (List.length xs : Int) ≤ 9223372036854775807 → VS X is (Γ.put d (.v kI (List.length xs : Int))) k
      | _ => False
    | .nl _ => st = false ∧ VS X is (Γ.put d (.v kI (0 : Int))) k
    | _ => False
def LNo (x : Option Ob) : Prop := need x fun
      | .row _ _ _ xs => (List.length xs : Int) ≤ 9223372036854775807 → VS X is (Γ.put d (.v kI (List.length xs : Int))) k
      | _ => False
def MK (deep : Bool) (c : Ki) (x : Option AV) : Prop := need x fun
    | .v (.int _) (n : Int) => 0 ≤ n ∧ n ≤ 2147483647 ∧ nop 99 [c] = true ∧ let Γ' := Γ.kill (hd d); VS X is ((Γ'.new [d] (.row deep false c (List.replicate n.toNat c.z))).put d (.sl [d])) k
    | _ => False
def CA (d : Option Nat) (lab : Bool) (f : FuncId) (x : Option (List SA)) : Prop := need x fun as => ∃ r, X.S f as r ∧ (lab = false ∨ r.safe = true) ∧ VS X is (Γ.ret d r) k
def CA2 (d : Option Nat) (lab : Bool) (x : Option RA) : Prop := need x fun r => (lab = false ∨ r.safe = true) ∧ VS X is (Γ.ret d r) k
def CV (d : Option Nat) (lab : Bool) (f : FuncId) (x : Option (List SA)) : Prop := need x fun as => ∃ r, X.S f as r ∧ (match r with
    | .v c x => (lab = false ∨ c.flat = true) ∧ VS X is (Γ.puto (.v c x) d) k
    | _ => False)
def CV2 (d : Option Nat) (lab : Bool) (x : Option RA) : Prop := need x fun
    | .v c x => (lab = false ∨ c.flat = true) ∧ VS X is (Γ.puto (.v c x) d) k
    | _ => False
def GU (t : Nat) (b : Bool) (i : I) (x : Option AV) : Prop := need x fun
    | .v .bool (x : Bool) => (x = b → VS X (i :: is) ⟨(t, .v .bool b) :: Γ.tm, Γ.ob⟩ k) ∧ (x = (!b) → VS X is (Env.skip ⟨(t, .v .bool (!b)) :: Γ.tm, Γ.ob⟩ i.dst) k)
    | _ => False
end
section
variable (Γ : Env) (k : Kont) (is : List I)
theorem VC_skip : VC X .skip Γ k = KN X k Γ := (rfl)
theorem VC_rg : VC X (.rg is) Γ k = VS X is Γ k := (rfl)
theorem VC_dr (ds js) : VC X (.dr ds is js) Γ k = VS X (is ++ js) (Γ.pre ds) k := propext vs_append.symm
theorem VC_sq (a b) : VC X (.sq a b) Γ k = VC X a Γ (.sq b k) := (rfl)
theorem VC_bk (a b) : VC X (.bk a b) Γ k = VC X b Γ (.bk a k) := (rfl)
theorem VC_cd (o a b) : VC X (.cd o a b) Γ k = CD X (ev Γ o) a b Γ k := (rfl)
theorem VC_lp (b) : VC X (.lp b) Γ k = LP X b Γ k := (rfl)
theorem VC_rt : VC X .rt Γ k = KR X k Γ := (rfl)
theorem VC_ex (n) : VC X (.ex n) Γ k = KE X n k Γ := (rfl)
theorem KN_top (K) : KN X (.top K) Γ = K .nrm Γ := (rfl)
theorem KN_sq (b) : KN X (.sq b k) Γ = VC X b Γ k := (rfl)
theorem KN_bk (b) : KN X (.bk b k) Γ = KN X k Γ := (rfl)
theorem KR_top (K) : KR X (.top K) Γ = K .rt Γ := (rfl)
theorem KR_sq (b) : KR X (.sq b k) Γ = KR X k Γ := (rfl)
theorem KR_bk (b) : KR X (.bk b k) Γ = KR X k Γ := (rfl)
theorem KE_top (n K) : KE X n (.top K) Γ = K (.ex n) Γ := (rfl)
theorem KE_sq (n b) : KE X n (.sq b k) Γ = KE X n k Γ := (rfl)
theorem KE_bk (n j) : KE X n (.bk j k) Γ = if n = j then KN X k Γ else KE X n k Γ := (rfl)
theorem VS_nil : VS X [] Γ k = KN X k Γ := (rfl)
theorem VS_mv (d o) : VS X (.mv d o :: is) Γ k = MV X d is Γ k (ev Γ o) := (rfl)
theorem VS_nck (d o) : VS X (.nck d o :: is) Γ k = NCK X d is Γ k (ev Γ o) := (rfl)
theorem VS_un (d u o) : VS X (.un d u o :: is) Γ k = UN X d is Γ k u (ev Γ o) := (rfl)
theorem VS_bi (d b x y) : VS X (.bi d b x y :: is) Γ k = BI X d is Γ k b (ev Γ x) (ev Γ y) := (rfl)
theorem VS_be (d b x y) : VS X (.be d b x y :: is) Γ k = BE X d is Γ k b (ev Γ x) (ev Γ y) := (rfl)
theorem VS_pk (d c x y) : VS X (.pk d c x y :: is) Γ k = PK X d is Γ k (ev Γ c) (ev Γ x) (ev Γ y) := (rfl)
theorem VS_fa (d o n j off) : VS X (.fa d o n j off :: is) Γ k = FA X d is Γ k n j off (ev Γ o) := (rfl)
theorem VS_ia (d o i c) : VS X (.ia d o i c :: is) Γ k = IA X d is Γ k c (ev Γ o) (ev Γ i) := (rfl)
theorem VS_ld (d o c) : VS X (.ld d o c :: is) Γ k = LD X d is Γ k c (ev Γ o) := (rfl)
theorem VS_st (o x c) : VS X (.st o x c :: is) Γ k = ST X is Γ k c (ev Γ o) (ev Γ x) := (rfl)
theorem VS_bx (d o c) : VS X (.bx d o c :: is) Γ k = BX X d is (Γ.kill (hd d)) k (ev (Γ.kill (hd d)) o) := (rfl)
theorem VS_al (d c) : VS X (.al d c :: is) Γ k = VS X is (((Γ.kill (hd d)).new [d] (.box (zA c))).put d (.pt [d] 0)) k := (rfl)
theorem VS_ln (d st o) : VS X (.ln d st o :: is) Γ k = LN X d is Γ k st (ev Γ o) := by
  cases st <;> simp only [VS, vs, vi, LN] <;> (cases ev Γ o with
    | none => rfl
    | some a => cases a with
      | v c x => cases c <;> simp [need]
      | sl l => cases h : lo Γ.ob l with
        | none => simp [need, h]
        | some q => cases q <;> simp [need, h]
      | _ => simp [need])
theorem VS_mk (d deep c n) : VS X (.mk d deep c n :: is) Γ k = MK X d is Γ k deep c (ev Γ n) := (rfl)
theorem VS_ca (d f xs) : VS X (.ca d f xs :: is) Γ k = CA X is Γ k d (coLab Γ xs) f (co Γ xs) := (rfl)
theorem VS_cv (d f xs) : VS X (.cv d f xs :: is) Γ k = CV X is Γ k d (coLab Γ xs) f (co Γ xs) := (rfl)
theorem VS_g (t b i) : VS X (.g t b i :: is) Γ k = GU X is Γ k t b i (lk Γ.tm t) := (rfl)
theorem CD_ (x : Bool) (a b) : CD X (some (.v .bool x)) a b Γ k = ((x = true → VC X a Γ k) ∧ (x = false → VC X b Γ k)) := (rfl)
variable (d : Nat)
theorem MV_ (a) : MV X d is Γ k (some a) = VS X is (Γ.put d a) k := (rfl)
theorem NCK_ptr (c : Ki) (y : c.T) : NCK X d is Γ k (some (.v (.ptr c) (sm c y))) = VS X is (Γ.put d (.v (.ptr c) (sm c y))) k := by simp [NCK, need, sm]
theorem NCK_pt (l off) : NCK X d is Γ k (some (.pt l off)) = VS X is (Γ.put d (.pt l off)) k := (rfl)
theorem NCK_ep (l c i off) : NCK X d is Γ k (some (.ep l c i off)) = VS X is (Γ.put d (.ep l c i off)) k := (rfl)
theorem UN_not (b : Bool) : UN X d is Γ k .not (some (.v .bool b)) = VS X is (Γ.put d (.v .bool (!b))) k := (rfl)
theorem UN_neg (kk) (n : Int) : UN X d is Γ k .neg (some (.v (.int kk) n)) = VS X is (Γ.put d (.v (.int kk) (kk.wrap (-n)))) k := (rfl)
section
variable (kk : IntKind) (m n : Int)
theorem BI_add : BI X d is Γ k .add (some (.v (.int kk) m)) (some (.v (.int kk) n)) = VS X is (Γ.put d (.v (.int kk) (kk.wrap (m + n)))) k := by simp [BI, need, vb]
theorem BI_sub : BI X d is Γ k .sub (some (.v (.int kk) m)) (some (.v (.int kk) n)) = VS X is (Γ.put d (.v (.int kk) (kk.wrap (m - n)))) k := by simp [BI, need, vb]
theorem BI_mul : BI X d is Γ k .mul (some (.v (.int kk) m)) (some (.v (.int kk) n)) = VS X is (Γ.put d (.v (.int kk) (kk.wrap (m * n)))) k := by simp [BI, need, vb]
theorem BI_lss : BI X d is Γ k .lss (some (.v (.int kk) m)) (some (.v (.int kk) n)) = VS X is (Γ.put d (.v .bool (decide (m < n)))) k := by simp [BI, need, vb]
theorem BI_leq : BI X d is Γ k .leq (some (.v (.int kk) m)) (some (.v (.int kk) n)) = VS X is (Γ.put d (.v .bool (decide (m ≤ n)))) k := by simp [BI, need, vb]
theorem BI_gtr : BI X d is Γ k .gtr (some (.v (.int kk) m)) (some (.v (.int kk) n)) = VS X is (Γ.put d (.v .bool (decide (n < m)))) k := by simp [BI, need, vb]
theorem BI_geq : BI X d is Γ k .geq (some (.v (.int kk) m)) (some (.v (.int kk) n)) = VS X is (Γ.put d (.v .bool (decide (n ≤ m)))) k := by simp [BI, need, vb]
theorem BI_eql : BI X d is Γ k .eql (some (.v (.int kk) m)) (some (.v (.int kk) n)) = VS X is (Γ.put d (.v .bool (m == n))) k := by simp [BI, need, vb]
theorem BI_neq : BI X d is Γ k .neq (some (.v (.int kk) m)) (some (.v (.int kk) n)) = VS X is (Γ.put d (.v .bool (!(m == n)))) k := by simp [BI, need, vb]
end
theorem BI_eqs (m n : Str) : BI X d is Γ k .eql (some (.v .str m)) (some (.v .str n)) = VS X is (Γ.put d (.v .bool (m == n))) k := (rfl)
theorem BI_lts (m n : Str) : BI X d is Γ k .lss (some (.v .str m)) (some (.v .str n)) = VS X is (Γ.put d (.v .bool (Op.bytesLess m n))) k := (rfl)
theorem BI_les (m n : Str) : BI X d is Γ k .leq (some (.v .str m)) (some (.v .str n)) = VS X is (Γ.put d (.v .bool (Op.bytesLess m n || m == n))) k := (rfl)
theorem BI_gts (m n : Str) : BI X d is Γ k .gtr (some (.v .str m)) (some (.v .str n)) = VS X is (Γ.put d (.v .bool (!(Op.bytesLess m n || m == n)))) k := (rfl)
theorem BI_ges (m n : Str) : BI X d is Γ k .geq (some (.v .str m)) (some (.v .str n)) = VS X is (Γ.put d (.v .bool (!(Op.bytesLess m n)))) k := (rfl)
theorem BI_adds (m n : Str) : BI X d is Γ k .add (some (.v .str m)) (some (.v .str n)) = (m.length + n.length ≤ 9223372036854775807 ∧ VS X is (Γ.put d (.v .str (m ++ n))) k) := (rfl)
theorem BI_nes (m n : Str) : BI X d is Γ k .neq (some (.v .str m)) (some (.v .str n)) = VS X is (Γ.put d (.v .bool (!(m == n)))) k := (rfl)
theorem BE_eq (m n : Bool) : BE X d is Γ k false (some (.v .bool m)) (some (.v .bool n)) = VS X is (Γ.put d (.v .bool (m == n))) k := (rfl)
theorem BE_ne (m n : Bool) : BE X d is Γ k true (some (.v .bool m)) (some (.v .bool n)) = VS X is (Γ.put d (.v .bool (!(m == n)))) k := (rfl)
theorem PK_ (b : Bool) (x y) : PK X d is Γ k (some (.v .bool b)) x y = ((b = true → MV X d is Γ k x) ∧ (b = false → MV X d is Γ k y)) := (rfl)
theorem FA_ptr (n m j off) (y : Sty m) : FA X d is Γ k n j off (some (.v (.ptr (.struct m)) (sm (.struct m) y))) = FA2 X d is Γ k m n (hget (flds m) (un m y) j) := by simp [FA, FA2, need, sm]
theorem FA_pt (n j off l o') : FA X d is Γ k n j off (some (.pt l o')) = VS X is (Γ.put d (.pt l (o' + off))) k := (rfl)
theorem FA_ep (n j off l c i o') : FA X d is Γ k n j off (some (.ep l c i o')) = VS X is (Γ.put d (.ep l c i (o' + off))) k := (rfl)
theorem FA2_ (n c) (z : Ki.T c) : FA2 X d is Γ k n n (some (.v c z)) = VS X is (Γ.put d (.v (.ptr c) (sm c z))) k := by simp [FA2, need, sm]
theorem IA_v (c : Ki) (xs : List c.T) (kk) (n : Int) : IA X d is Γ k c (some (.v (.slice c) xs)) (some (.v (.int kk) n)) = (0 ≤ n ∧ n < (List.length xs : Int) ∧ VS X is (Γ.put d (.v (.ptr c) (sm c (gt xs n c.z)))) k) := by simp [IA, need, sm]
theorem IA_sl (c : Ki) (l) (kk) (n : Int) : IA X d is Γ k c (some (.sl l)) (some (.v (.int kk) n)) = IAo X d is Γ k l c n (lo Γ.ob l) := (rfl)
theorem IAo_ (l) (c : Ki) (n : Int) (dp p) (xs : List c.T) : IAo X d is Γ k l c n (some (.row dp p c xs)) = (0 ≤ n ∧ n < (List.length xs : Int) ∧ VS X is (Γ.put d (.ep l c n 0)) k) := by simp [IAo, need]
theorem LD_ptr (c : Ki) (y : c.T) : LD X d is Γ k c (some (.v (.ptr c) (sm c y))) = VS X is (Γ.put d (.v c y)) k := by simp [LD, need, sm]
theorem LD_pt (c l off) : LD X d is Γ k c (some (.pt l off)) = LDo X d is Γ k c off (lo Γ.ob l) := (rfl)
theorem LD_ep (c l c' i) : LD X d is Γ k c (some (.ep l c' i 0)) = LDe X d is Γ k c c' i (lo Γ.ob l) := (rfl)
theorem LDo_st (n off ls) : LDo X d is Γ k (.struct n) off (some (.box ls)) = (off + ssz n ≤ ls.length ∧ VS X is (Γ.put d (.ag n ((ls.drop off).take (ssz n)))) k) := (rfl)
theorem LDo_int (kk off ls) : LDo X d is Γ k (.int kk) off (some (.box ls)) = LDl X d is Γ k ls[off]? := (rfl)
theorem LDo_bool (off ls) : LDo X d is Γ k .bool off (some (.box ls)) = LDl X d is Γ k ls[off]? := (rfl)
theorem LDo_str (off ls) : LDo X d is Γ k .str off (some (.box ls)) = LDl X d is Γ k ls[off]? := (rfl)
theorem LDo_slice (c off ls) : LDo X d is Γ k (.slice c) off (some (.box ls)) = LDl X d is Γ k ls[off]? := (rfl)
theorem LDo_ptr (c off ls) : LDo X d is Γ k (.ptr c) off (some (.box ls)) = LDl X d is Γ k ls[off]? := (rfl)
theorem LDl_ (a) : LDl X d is Γ k (some a) = (a.leaf = true ∧ VS X is (Γ.put d a) k) := by simp [LDl]
theorem LDe_ (c : Ki) (i dp p) (xs : List c.T) : LDe X d is Γ k c c i (some (.row dp p c xs)) = (c.flat = true ∧ 0 ≤ i ∧ i < (List.length xs : Int) ∧ VS X is (Γ.put d (.v c (gt xs i c.z))) k) := by simp [LDe, need]
theorem ST_pt (c l off y) : ST X is Γ k c (some (.pt l off)) y = STo X is Γ k l off c y (lo Γ.ob l) := (rfl)
theorem ST_ep (c l c' i y) : ST X is Γ k c (some (.ep l c' i 0)) y = STe X is Γ k l c c' i y (lo Γ.ob l) := (rfl)
theorem STo_ (l off c a ls) : STo X is Γ k l off c (some a) (some (.box ls)) = (a.stor = true ∧ (cellsOf a).length = c.sz ∧ off + c.sz ≤ ls.length ∧ VS X is ⟨Γ.tm, (l, .box (setAt ls off (cellsOf a))) :: Γ.ob⟩ k) := (rfl)
theorem STe_ (l) (c : Ki) (i a p) (xs : List c.T) : STe X is Γ k l c c i (some a) (some (.row true p c xs)) = STp X is Γ k l p c xs i (pkO Γ.ob c a) := by simp [STe, STp, need]
theorem STe2_ (l) (c : Ki) (i a p) (xs : List c.T) : STe X is Γ k l c c i (some a) (some (.row false p c xs)) = STq X is Γ k l p c xs i (a.refs fun _ => true) (pk Γ.ob c a) := by simp [STe, STq, need]
theorem STq_ (l p) (c : Ki) (xs : List c.T) (i rf x) : STq X is Γ k l p c xs i rf (so c x) = (0 ≤ i ∧ i < (xs.length : Int) ∧ rf = false ∧ VS X is ⟨Γ.tm, (l, .row false p c (xs.set i.toNat x)) :: Γ.ob⟩ k) := (rfl)
theorem pkO_int (ob k) (n : Int) : pkO ob (.int k) (.v (.int k) n) = so2 (.int k) n [] := by simp [pkO, pkOL, AV.as, so2]
theorem pkO_bool (ob) (n : Bool) : pkO ob .bool (.v .bool n) = so2 .bool n [] := by simp [pkO, pkOL, AV.as, so2]
theorem pkO_str (ob) (n : Str) : pkO ob .str (.v .str n) = so2 .str n [] := by simp [pkO, pkOL, AV.as, so2]
theorem pkO_nl (ob c) : pkO ob (.slice c) (.nl c) = so2 (.slice c) ([] : List c.T) [] := (rfl)
def pkS (c : Ki) (l : Lab) : Option Ob → Option (List c.T × List Lab)
  | some (.row dp false c' xs) => if dp || c'.flat then (Ob.as c (.row dp false c' xs)).map fun y => (y, [l]) else none
  | _ => none
theorem pkO_sl (ob c l) : pkO ob (.slice c) (.sl l) = pkS c l (lo ob l) := by
  simp only [pkO, pkOL, pkS]; split <;> simp_all
theorem pkS_ (c : Ki) (l) (dp) (xs : List c.T) : pkS c l (some (.row dp false c xs)) = if dp || c.flat then so2 (.slice c) xs [l] else none := by simp [pkS, as_row, so2]
theorem STp_ (l p) (c : Ki) (xs : List c.T) (i x ls) : STp X is Γ k l p c xs i (so2 c x ls) = (0 ≤ i ∧ i < (xs.length : Int) ∧ ls.Nodup ∧ l ∉ ls ∧ VS X is ⟨(Γ.kill (fun m => ls.contains m)).tm, (l, .row true p c (xs.set i.toNat x)) :: (Γ.kill (fun m => ls.contains m)).ob⟩ k) := (rfl)
theorem BX_ (a) : BX X d is Γ k (some a) = (a.stor = true ∧ VS X is ((Γ.new [d] (.box (cellsOf a))).put d (.pt [d] 0)) k) := (rfl)
theorem LN_v (c : Ki) (xs : List c.T) : LN X d is Γ k false (some (.v (.slice c) xs)) = ((List.length xs : Int) ≤ 9223372036854775807 → VS X is (Γ.put d (.v kI (List.length xs : Int))) k) := by simp [LN, need]
theorem LN_str (s : Str) : LN X d is Γ k true (some (.v .str s)) = ((List.length s : Int) ≤ 9223372036854775807 → VS X is (Γ.put d (.v kI (List.length s : Int))) k) := by simp [LN, need]
theorem LN_sl (l) : LN X d is Γ k false (some (.sl l)) = LNo X d is Γ k (lo Γ.ob l) := by simp [LN, LNo, need]
theorem LN_nl (c) : LN X d is Γ k false (some (.nl c)) = VS X is (Γ.put d (.v kI (0 : Int))) k := by simp [LN, need]
theorem LNo_ (dp p) (c : Ki) (xs : List c.T) : LNo X d is Γ k (some (.row dp p c xs)) = ((List.length xs : Int) ≤ 9223372036854775807 → VS X is (Γ.put d (.v kI (List.length xs : Int))) k) := (rfl)
theorem MK_ (deep c kk) (n : Int) : MK X d is Γ k deep c (some (.v (.int kk) n)) = (0 ≤ n ∧ n ≤ 2147483647 ∧ nop 99 [c] = true ∧ VS X is (((Γ.kill (hd d)).new [d] (.row deep false c (List.replicate n.toNat c.z))).put d (.sl [d])) k) := (rfl)
theorem CA_ (d lab f as) : CA X is Γ k d lab f (some as) = CA2 X is Γ k d lab ((lk X.T f).bind fun g => g as) := by
  simp only [CA, need, CA2, Cx.S, Tab.S]
  cases (lk X.T f).bind fun g => g as <;> simp
theorem CA2_ (d lab r) : CA2 X is Γ k d lab (some r) = ((lab = false ∨ r.safe = true) ∧ VS X is (Γ.ret d r) k) := (rfl)
theorem CA2_if (d lab) (p : Prop) [Decidable p] (r) : CA2 X is Γ k d lab (if p then some r else none) = (p ∧ CA2 X is Γ k d lab (some r)) := by
  split
  · rename_i h; simp [h]
  · rename_i h; simp [h, CA2, need]
theorem CV_ (d lab f as) : CV X is Γ k d lab f (some as) = CV2 X is Γ k d lab ((lk X.T f).bind fun g => g as) := by
  simp only [CV, need, CV2, Cx.S, Tab.S]
  cases (lk X.T f).bind fun g => g as <;> simp
theorem CV2_ (d lab c x) : CV2 X is Γ k d lab (some (.v c x)) = ((lab = false ∨ c.flat = true) ∧ VS X is (Γ.puto (.v c x) d) k) := (rfl)
theorem CV2_if (d lab) (p : Prop) [Decidable p] (r) : CV2 X is Γ k d lab (if p then some r else none) = (p ∧ CV2 X is Γ k d lab (some r)) := by
  split
  · rename_i h; simp [h]
  · rename_i h; simp [h, CV2, need]
theorem GU_ (t b i) (x : Bool) : GU X is Γ k t b i (some (.v .bool x)) = ((x = b → VS X (i :: is) ⟨(t, .v .bool b) :: Γ.tm, Γ.ob⟩ k) ∧ (x = (!b) → VS X is (Env.skip ⟨(t, .v .bool (!b)) :: Γ.tm, Γ.ob⟩ i.dst) k)) := (rfl)
theorem hi_CD_t (a b) : CD X (some (.v .bool true)) a b Γ k = VC X a Γ k := by simp [CD_]
theorem hi_CD_f (a b) : CD X (some (.v .bool false)) a b Γ k = VC X b Γ k := by simp [CD_]
theorem hi_PK_t (x y) : PK X d is Γ k (some (.v .bool true)) x y = MV X d is Γ k x := by simp [PK_]
theorem hi_PK_f (x y) : PK X d is Γ k (some (.v .bool false)) x y = MV X d is Γ k y := by simp [PK_]
theorem hi_GU_tt (t i) : GU X is Γ k t true i (some (.v .bool true)) = VS X (i :: is) ⟨(t, .v .bool true) :: Γ.tm, Γ.ob⟩ k := by simp [GU_]
theorem hi_GU_ff (t i) : GU X is Γ k t false i (some (.v .bool false)) = VS X (i :: is) ⟨(t, .v .bool false) :: Γ.tm, Γ.ob⟩ k := by simp [GU_]
theorem hi_GU_tf (t i) : GU X is Γ k t true i (some (.v .bool false)) = VS X is (Env.skip ⟨(t, .v .bool false) :: Γ.tm, Γ.ob⟩ i.dst) k := by simp [GU_]
theorem hi_GU_ft (t i) : GU X is Γ k t false i (some (.v .bool true)) = VS X is (Env.skip ⟨(t, .v .bool true) :: Γ.tm, Γ.ob⟩ i.dst) k := by simp [GU_]
-- what is looked up
theorem ev_t (n) : ev Γ (.t n) = lk Γ.tm n := (rfl)
theorem ev_i (n) : ev Γ (.i n) = some (.v kI n) := (rfl)
theorem ev_k (kk n) : ev Γ (.k kk n) = some (.v (.int kk) n) := (rfl)
theorem ev_b (b) : ev Γ (.b b) = some (.v .bool b) := (rfl)
theorem ev_s (s) : ev Γ (.s s) = some (.v .str s) := (rfl)
theorem ev_nl (c) : ev Γ (.nl c) = some (.nl c) := (rfl)
theorem ev_np (c) : ev Γ (.np c) = some (.v (.ptr c) (nn c)) := (rfl)
theorem ev_f (f) : ev Γ (.f f) = some (.fn f []) := (rfl)
theorem lk_cons {α : Type} (k n : Nat) (x : α) (l) : lk ((k, x) :: l) n = if k = n then some x else lk l n := (rfl)
theorem lo_cons {α : Type} (k n : Lab) (x : α) (l) : lo ((k, x) :: l) n = if k = n then some x else lo l n := (rfl)
theorem put_def (d a) (tm ob) : Env.put ⟨tm, ob⟩ d a = ⟨(d, a) :: tm, ob⟩ := (rfl)
theorem new_def (d a) (tm ob) : Env.new ⟨tm, ob⟩ d a = ⟨tm, (d, a) :: ob⟩ := (rfl)
theorem kill_def (p) (tm ob) : Env.kill p ⟨tm, ob⟩ = ⟨killT p tm, killO p ob⟩ := (rfl)
theorem killT_nil (p) : killT p [] = [] := (rfl)
theorem killT_cons (p t a l) : killT p ((t, a) :: l) = (t, a.kill p) :: killT p l := (rfl)
theorem killO_nil (p) : killO p [] = [] := (rfl)
theorem killO_cons (p l o r) : killO p ((l, o) :: r) = if p l then killO p r else (l, o.kill p) :: killO p r := (rfl)
theorem Okill_box (p ls) : (Ob.box ls).kill p = .box (killL p ls) := (rfl)
theorem Okill_row (p dp pn c xs) : (Ob.row dp pn c xs).kill p = .row dp pn c xs := (rfl)
theorem killL_nil (p) : killL p [] = [] := (rfl)
theorem killL_cons (p a l) : killL p (a :: l) = a.kill p :: killL p l := (rfl)
theorem kill_v (p c x) : (AV.v c x).kill p = .v c x := (rfl)
theorem kill_nl (p c) : (AV.nl c).kill p = .nl c := (rfl)
theorem kill_no (p) : AV.no.kill p = .no := (rfl)
theorem kill_sl (p l) : (AV.sl l).kill p = if p l then .no else .sl l := (rfl)
theorem kill_pt (p l o) : (AV.pt l o).kill p = if p l then .no else .pt l o := (rfl)
theorem kill_ep (p l c i o) : (AV.ep l c i o).kill p = if p l then .no else .ep l c i o := (rfl)
theorem kill_ag (p n ls) : (AV.ag n ls).kill p = if refsL p ls then .no else .ag n ls := (rfl)
theorem kill_fn (p n ls) : (AV.fn n ls).kill p = if refsL p ls then .no else .fn n ls := (rfl)
theorem kill_tu (p ls) : (AV.tu ls).kill p = if refsL p ls then .no else .tu ls := (rfl)
theorem refs_v (p c x) : (AV.v c x).refs p = false := (rfl)
theorem refs_nl (p c) : (AV.nl c).refs p = false := (rfl)
theorem refs_no (p) : AV.no.refs p = false := (rfl)
theorem refs_sl (p l) : (AV.sl l).refs p = p l := (rfl)
theorem refs_pt (p l o) : (AV.pt l o).refs p = p l := (rfl)
theorem refs_ep (p l c i o) : (AV.ep l c i o).refs p = p l := (rfl)
theorem refs_ag (p n ls) : (AV.ag n ls).refs p = refsL p ls := (rfl)
theorem refs_fn (p n ls) : (AV.fn n ls).refs p = refsL p ls := (rfl)
theorem refsL_nil (p) : refsL p [] = false := (rfl)
theorem refsL_cons (p a l) : refsL p (a :: l) = (a.refs p || refsL p l) := (rfl)
theorem hd_cons (d n l) : hd d (n :: l) = (n == d) := (rfl)
theorem keep_def (tm ob ts ls) : Env.keep ⟨tm, ob⟩ ts ls = ⟨keepT tm ts, keepO ob ls⟩ := (rfl)
def keepA (t : Nat) (l : List (Nat × AV)) : Option AV → List (Nat × AV)
  | some a => (t, a) :: l
  | none => l
def keepB (t : Lab) (l : List (Lab × Ob)) : Option Ob → List (Lab × Ob)
  | some a => (t, a) :: l
  | none => l
theorem keepT_nil (tm) : keepT tm [] = [] := (rfl)
theorem keepT_cons (tm t ts) : keepT tm (t :: ts) = keepA t (keepT tm ts) (lk tm t) := by
  simp only [keepT, keepA]; split <;> simp_all
theorem keepA_ (t l a) : keepA t l (some a) = (t, a) :: l := (rfl)
theorem keepO_nil (ob) : keepO ob [] = [] := (rfl)
theorem keepO_cons (ob t ts) : keepO ob (t :: ts) = keepB t (keepO ob ts) (lo ob t) := by
  simp only [keepO, keepB]; split <;> simp_all
theorem keepB_ (t l a) : keepB t l (some a) = (t, a) :: l := (rfl)
theorem puto_some (d a) : Env.puto Γ a (some d) = Γ.put d a := (rfl)
theorem puto_none (a) : Env.puto Γ a none = Γ := (rfl)
theorem skip_some (d) : Env.skip Γ (some d) = Γ.put d .no := (rfl)
theorem skip_none : Env.skip Γ none = Γ := (rfl)
theorem ret_none (r) : Env.ret Γ none r = Γ := (rfl)
theorem ret_some (d r) (tm ob) : Env.ret ⟨tm, ob⟩ (some d) r = ⟨(d, (r.intro [d]).1) :: killT (hd d) tm, (r.intro [d]).2 ++ killO (hd d) ob⟩ := (rfl)
theorem intro_v (l c x) : (RA.v c x).intro l = (.v c x, []) := (rfl)
theorem intro_s (l c xs) : (RA.s c xs).intro l = (.sl l, [(l, .row false false c xs)]) := (rfl)
theorem intro_os (l c xs) : (RA.o (.slice c) xs).intro l = (.sl l, [(l, .row true false c xs)]) := (rfl)
theorem intro_on (l n x) : (RA.o (.struct n) x).intro l = (.ag n (ownL l 0 (lvs n x)).1, (ownL l 0 (lvs n x)).2) := (rfl)
-- arguments
def refO : Option AV → Bool
  | some a => a.refs fun _ => true
  | none => true
theorem coLab_nil : coLab Γ [] = false := (rfl)
theorem coLab_cons (o m r) : coLab Γ ((o, m) :: r) = (refO (ev Γ o) || coLab Γ r) := by
  simp only [coLab, refO]; split <;> simp_all
theorem refO_ (a) : refO (some a) = a.refs fun _ => true := (rfl)
theorem co_nil : co Γ [] = some [] := (rfl)
def coA (c : Ki) (x : Option c.T) (r : Option (List SA)) : Option (List SA) := x.bind fun x => r.map fun s => .v c x :: s
def coP (ob : List (Lab × Ob)) (c : Ki) (x : Option AV) : Option c.T := x.bind (pk ob c)
theorem co_cons (o c r) : co Γ ((o, .v c) :: r) = coA c (coP Γ.ob c (ev Γ o)) (co Γ r) := by
  simp only [co, coA, coP]; cases ev Γ o <;> rfl
theorem coA_ (c : Ki) (x : c.T) (r) : coA c (so c x) (some r) = some (.v c x :: r) := (rfl)
theorem coP_ (ob c a) : coP ob c (some a) = pk ob c a := (rfl)
theorem pk_v (ob c) (x : Ki.T c) : pk ob c (.v c x) = so c x := by cases c <;> simp [pk, pkL, AV.as, so]
theorem pkL_v (ob c) (x : Ki.T c) : pkL ob c (.v c x) = so c x := by cases c <;> simp [pkL, AV.as, so]
theorem pk_nl (ob c) : pk ob (.slice c) (.nl c) = so (.slice c) ([] : List c.T) := (rfl)
theorem pkL_nl (ob c) : pkL ob (.slice c) (.nl c) = so (.slice c) ([] : List c.T) := (rfl)
def asO (c : Ki) : Option Ob → Option (List c.T)
  | some o => o.as c
  | none => none
theorem pk_sl (ob c l) : pk ob (.slice c) (.sl l) = asO c (lo ob l) := by
  simp only [pk, pkL, asO]; cases lo ob l <;> rfl
theorem pkL_sl (ob c l) : pkL ob (.slice c) (.sl l) = asO c (lo ob l) := by
  simp only [pkL, asO]; cases lo ob l <;> rfl
theorem asO_ (c : Ki) (dp p) (xs : List c.T) : asO c (some (.row dp p c xs)) = so (.slice c) xs := as_row c dp p xs
-- results
theorem Fin_rt (vs r) : Fin vs r .rt Γ = (rx Γ vs = some r) := (rfl)
theorem Fin_nrm (vs r) : Fin vs r .nrm Γ = (rx Γ vs = some r) := (rfl)
def rxA (Γ : Env) (m : RM) (x : Option AV) : Option RA := x.bind fun a => rx1 Γ a m
theorem rx_nil : rx Γ [] = some (.t []) := (rfl)
theorem rx_one (v) : rx Γ [v] = rxA Γ v.m (rav Γ v) := (rfl)
theorem rav_t (n m) : rav Γ (.t n m) = lk Γ.tm n := (rfl)
theorem RVm_t (n m) : (RV.t n m).m = m := (rfl)
theorem RVm_c (n m) : (RV.c n m).m = m := (rfl)
def ravB (m : RM) : Option Ob → Option AV
  | some (.box ls) => boxA m.k ls
  | _ => none
def ravP (ob : List (Lab × Ob)) (m : RM) : Option AV → Option AV
  | some (.pt l 0) => ravB m (lo ob l)
  | _ => none
theorem rav_c (n m) : rav Γ (.c n m) = ravP Γ.ob m (lk Γ.tm n) := by
  simp only [rav, ravP]
  split
  · rename_i l h
    simp only [h]
    unfold ravB
    split <;> simp_all
  · rename_i h
    split
    · rename_i l h2; exact absurd h2 (h l)
    · rfl
theorem ravP_ (ob m l) : ravP ob m (some (.pt l 0)) = ravB m (lo ob l) := (rfl)
theorem ravB_ (m ls) : ravB m (some (.box ls)) = boxA m.k ls := (rfl)
theorem RMk_v (c) : (RM.v c).k = c := (rfl)
theorem RMk_o (c) : (RM.o c).k = c := (rfl)
theorem RMk_s (c) : (RM.s c).k = .slice c := (rfl)
theorem boxA_st (n ls) : boxA (.struct n) ls = if ls.length = ssz n then some (.ag n ls) else none := (rfl)
theorem rxA_ (m a) : rxA Γ m (some a) = rx1 Γ a m := (rfl)
def rxV (c : Ki) (x : Option c.T) : Option RA := x.map (RA.v c)
def rxO (c : Ki) (x : Option (c.T × List Lab)) : Option RA := x.bind fun r => if nodL r.2 then some (.o c r.1) else none
theorem rx1_v (a c) : rx1 Γ a (.v c) = rxV c (pk Γ.ob c a) := (rfl)
theorem rxV_ (c : Ki) (x : c.T) : rxV c (so c x) = some (RA.v c x) := (rfl)
theorem rxO_ (c : Ki) (x : c.T) (ls) : rxO c (so2 c x ls) = if nodL ls then some (.o c x) else none := (rfl)
theorem rx1_o (a c) : rx1 Γ a (.o c) = rxO c (pkO Γ.ob c a) := (rfl)
def rxS (c : Ki) : Option Ob → Option RA
  | some (.row false p c' xs) => (Ob.as c (.row false p c' xs)).map (RA.s c)
  | _ => none
theorem rx1_s (c l) : rx1 Γ (.sl l) (.s c) = rxS c (lo Γ.ob l) := by
  simp only [rx1, rxS]; split <;> simp_all
theorem rxS_ (c : Ki) (p) (xs : List c.T) : rxS c (some (.row false p c xs)) = some (RA.s c xs) := by simp [rxS, as_row]
theorem map_some' {α β : Type} (f : α → β) (x : α) : Option.map f (some x) = some (f x) := (rfl)
theorem bind_some' {α β : Type} (f : α → Option β) (x : α) : Option.bind (some x) f = f x := (rfl)
section
variable {T : Type} (ts : List Nat) (ls : List Lab) (Iv : T → Env) (V : T → Prop) (μ : T → Nat) (n : Nat)
theorem Round_nrm (K) : Round ts ls Iv V μ n K .nrm Γ = Again ts ls Iv V μ n Γ := (rfl)
theorem Round_rt (k) : Round ts ls Iv V μ n (Kont.go X.S X.L k) .rt Γ = KR X k Γ := (rfl)
theorem Round_ex (k i) : Round ts ls Iv V μ n (Kont.go X.S X.L k) (.ex i) Γ = KE X i k Γ := (rfl)
end
end
/-- A loop's rule. -/
theorem LP_intro {X : Cx} (hT : X.T.ok X.P) {c : C} {Γ : Env} {k : Kont} {T : Type} (ts : List Nat) (ls : List Lab) (Iv : T → Env) (V : T → Prop) (μ : T → Nat)
    (h0 : ∃ t, V t ∧ Γ.keep ts ls = Iv t) (hs : ∀ t, V t → VC X c (Iv t) (.top (Round ts ls Iv V μ (μ t) (k.go X.S X.L)))) : LP X c Γ k :=
  Lq.intro (S := X.S) (Tab.sound hT) ts ls Iv V μ h0 hs
/-- A function's rule. -/
theorem Sp_intro {P : Program} (T : Tab) (hT : T.ok P) {N : Nat} {f : FuncId} {fn : Func} {c : C} {vs : List RV} {as : List SA} {r : RA} (hfn : P.funcs[f]? = some fn) (hm : fnM P fn N c vs = true) (hn : Nat.ble as.length N = true)
    (h : VC ⟨P, N, T⟩ c ⟨entry 0 as, []⟩ (.top (Fin vs r))) : Sp P f as r :=
  Sp.intro (S := T.S) (Tab.sound hT) hfn hm hn h
-- contracts
def con1 (c : Ki) (g : c.T → RA) : List SA → Option RA
  | [.v c' x] => if h : c' = c then some (g (h ▸ x)) else none
  | _ => none
def con2 (c d : Ki) (g : c.T → d.T → RA) : List SA → Option RA
  | [.v c' x, .v d' y] => if h : c' = c ∧ d' = d then some (g (h.1 ▸ x) (h.2 ▸ y)) else none
  | _ => none
def con3 (c d e : Ki) (g : c.T → d.T → e.T → RA) : List SA → Option RA
  | [.v c' x, .v d' y, .v e' z] => if h : c' = c ∧ d' = d ∧ e' = e then some (g (h.1 ▸ x) (h.2.1 ▸ y) (h.2.2 ▸ z)) else none
  | _ => none
theorem con1_ (c : Ki) (g : c.T → RA) (x : c.T) : con1 c g [.v c x] = some (g x) := by simp [con1]
theorem con2_ (c d : Ki) (g : c.T → d.T → RA) (x : c.T) (y : d.T) : con2 c d g [.v c x, .v d y] = some (g x y) := by simp [con2]
theorem con3_ (c d e : Ki) (g : c.T → d.T → e.T → RA) (x : c.T) (y : d.T) (z : e.T) : con3 c d e g [.v c x, .v d y, .v e z] = some (g x y z) := by simp [con3]
theorem con1_ok {P : Program} {f : FuncId} {c : Ki} {g : c.T → RA} (h : ∀ x, Sp P f [.v c x] (g x)) : ∀ as r, con1 c g as = some r → Sp P f as r := by
  intro as r hr
  unfold con1 at hr
  split at hr
  · split at hr
    · rename_i e; subst e; cases hr; exact h _
    · cases hr
  · cases hr
theorem con2_ok {P : Program} {f : FuncId} {c d : Ki} {g : c.T → d.T → RA} (h : ∀ x y, Sp P f [.v c x, .v d y] (g x y)) : ∀ as r, con2 c d g as = some r → Sp P f as r := by
  intro as r hr
  unfold con2 at hr
  split at hr
  · split at hr
    · rename_i e; obtain ⟨rfl, rfl⟩ := e; cases hr; exact h _ _
    · cases hr
  · cases hr
theorem con3_ok {P : Program} {f : FuncId} {c d e : Ki} {g : c.T → d.T → e.T → RA} (h : ∀ x y z, Sp P f [.v c x, .v d y, .v e z] (g x y z)) : ∀ as r, con3 c d e g as = some r → Sp P f as r := by
  intro as r hr
  unfold con3 at hr
  split at hr
  · split at hr
    · rename_i e; obtain ⟨rfl, rfl, rfl⟩ := e; cases hr; exact h _ _ _
    · cases hr
  · cases hr
-- under a condition
def con1p (c : Ki) (q : c.T → Bool) (g : c.T → RA) : List SA → Option RA
  | [.v c' x] => if h : c' = c then (if q (h ▸ x) then some (g (h ▸ x)) else none) else none
  | _ => none
def con2p (c d : Ki) (q : c.T → d.T → Bool) (g : c.T → d.T → RA) : List SA → Option RA
  | [.v c' x, .v d' y] => if h : c' = c ∧ d' = d then (if q (h.1 ▸ x) (h.2 ▸ y) then some (g (h.1 ▸ x) (h.2 ▸ y)) else none) else none
  | _ => none
def con3p (c d e : Ki) (q : c.T → d.T → e.T → Bool) (g : c.T → d.T → e.T → RA) : List SA → Option RA
  | [.v c' x, .v d' y, .v e' z] => if h : c' = c ∧ d' = d ∧ e' = e then (if q (h.1 ▸ x) (h.2.1 ▸ y) (h.2.2 ▸ z) then some (g (h.1 ▸ x) (h.2.1 ▸ y) (h.2.2 ▸ z)) else none) else none
  | _ => none
theorem con1p_ (c : Ki) (q : c.T → Bool) (g : c.T → RA) (x : c.T) : con1p c q g [.v c x] = if q x then some (g x) else none := by simp [con1p]
theorem con2p_ (c d : Ki) (q : c.T → d.T → Bool) (g : c.T → d.T → RA) (x : c.T) (y : d.T) : con2p c d q g [.v c x, .v d y] = if q x y then some (g x y) else none := by simp [con2p]
theorem con3p_ (c d e : Ki) (q : c.T → d.T → e.T → Bool) (g : c.T → d.T → e.T → RA) (x : c.T) (y : d.T) (z : e.T) : con3p c d e q g [.v c x, .v d y, .v e z] = if q x y z then some (g x y z) else none := by simp [con3p]
theorem con1p_ok {P : Program} {f : FuncId} {c : Ki} {q : c.T → Bool} {g : c.T → RA} (h : ∀ x, q x = true → Sp P f [.v c x] (g x)) : ∀ as r, con1p c q g as = some r → Sp P f as r := by
  intro as r hr
  unfold con1p at hr
  split at hr
  · split at hr
    · rename_i e; subst e
      split at hr
      · rename_i hq; cases hr; exact h _ hq
      · cases hr
    · cases hr
  · cases hr
theorem con2p_ok {P : Program} {f : FuncId} {c d : Ki} {q : c.T → d.T → Bool} {g : c.T → d.T → RA} (h : ∀ x y, q x y = true → Sp P f [.v c x, .v d y] (g x y)) : ∀ as r, con2p c d q g as = some r → Sp P f as r := by
  intro as r hr
  unfold con2p at hr
  split at hr
  · split at hr
    · rename_i e; obtain ⟨rfl, rfl⟩ := e
      split at hr
      · rename_i hq; cases hr; exact h _ _ hq
      · cases hr
    · cases hr
  · cases hr
theorem con3p_ok {P : Program} {f : FuncId} {c d e : Ki} {q : c.T → d.T → e.T → Bool} {g : c.T → d.T → e.T → RA} (h : ∀ x y z, q x y z = true → Sp P f [.v c x, .v d y, .v e z] (g x y z)) : ∀ as r, con3p c d e q g as = some r → Sp P f as r := by
  intro as r hr
  unfold con3p at hr
  split at hr
  · split at hr
    · rename_i e; obtain ⟨rfl, rfl, rfl⟩ := e
      split at hr
      · rename_i hq; cases hr; exact h _ _ _ hq
      · cases hr
    · cases hr
  · cases hr
attribute [go_sem] entry List.cons_append List.nil_append Nat.reduceAdd reduceIte Nat.reduceEqDiff reduceCtorEq VC_skip VC_rg VC_dr VC_sq VC_bk VC_cd VC_lp VC_rt VC_ex KN_top KN_sq KN_bk KR_top KR_sq KR_bk KE_top KE_sq KE_bk VS_nil VS_mv VS_nck VS_un VS_bi VS_be VS_pk VS_fa VS_ia VS_ld VS_st VS_bx VS_al VS_ln VS_mk VS_ca VS_cv VS_g CD_ MV_ NCK_ptr NCK_pt NCK_ep UN_not UN_neg BI_add BI_sub BI_mul BI_lss BI_leq BI_gtr BI_geq BI_eql BI_neq BI_eqs BI_nes BI_lts BI_les BI_gts BI_ges BI_adds BE_eq BE_ne PK_ FA_ptr FA_pt FA_ep FA2_ IA_v IA_sl IAo_ LD_ptr LD_pt LD_ep LDo_st LDo_int LDo_bool LDo_str LDo_slice LDo_ptr LDl_ LDe_ ST_pt ST_ep STo_ STe_ STe2_ STq_ pkO_int pkO_bool pkO_str pkO_nl pkO_sl pkS_ STp_ BX_ LN_v LN_str LN_sl LN_nl LNo_ MK_ CA_ CA2_ CA2_if CV_ CV2_ CV2_if GU_ ev_t ev_i ev_k ev_b ev_s ev_nl ev_np ev_f lk_cons lo_cons put_def new_def kill_def killT_nil killT_cons killO_nil killO_cons Okill_box Okill_row killL_nil killL_cons kill_v kill_nl kill_no kill_sl kill_pt kill_ep kill_ag kill_fn kill_tu refs_v refs_nl refs_no refs_sl refs_pt refs_ep refs_ag refs_fn refsL_nil refsL_cons hd_cons keep_def keepT_nil keepT_cons keepA_ keepO_nil keepO_cons keepB_ puto_some puto_none skip_some skip_none ret_none ret_some intro_v intro_s intro_os intro_on coLab_nil coLab_cons refO_ co_nil co_cons coA_ coP_ pk_v pkL_v pk_nl pkL_nl pk_sl pkL_sl asO_ Fin_rt Fin_nrm rx_nil rx_one rav_t RVm_t RVm_c rav_c ravP_ ravB_ RMk_v RMk_o RMk_s boxA_st rxA_ rx1_v rxV_ rxO_ rx1_o rx1_s rxS_ map_some' bind_some' Round_nrm Round_rt Round_ex con1_ con2_ con3_ con1p_ con2p_ con3p_
attribute [go_sem 2000] hi_CD_t hi_CD_f hi_PK_t hi_PK_f hi_GU_tt hi_GU_ff hi_GU_tf hi_GU_ft
end Go.Q

/- What the rules need of the structs. -/
set_option linter.unusedVariables false
namespace Go.Q
theorem fld_0_0 (y : Ty) : hget (flds 0) (un 0 y) 0 = some (.v kI y.kind) := (rfl)
theorem prj_0_0 (x0 : Int) (x1 : List Str) (x2 : List Ty) : (Ty.mk x0 x1 x2).kind = x0 := (rfl)
theorem fld_0_1 (y : Ty) : hget (flds 0) (un 0 y) 1 = some (.v (kL kS) y.labels) := (rfl)
theorem prj_0_1 (x0 : Int) (x1 : List Str) (x2 : List Ty) : (Ty.mk x0 x1 x2).labels = x1 := (rfl)
theorem fld_0_2 (y : Ty) : hget (flds 0) (un 0 y) 2 = some (.v (kL (kR 0)) y.args) := (rfl)
theorem prj_0_2 (x0 : Int) (x1 : List Str) (x2 : List Ty) : (Ty.mk x0 x1 x2).args = x2 := (rfl)
theorem lvs_0 (y : Ty) : lvs 0 y = [.v kI y.kind, .v (kL kS) y.labels, .v (kL (kR 0)) y.args] := (rfl)
theorem ag_0 (ob) (x0 : Int) (x1 : List Str) (x2 : List Ty) : pk ob (.struct 0) (.ag 0 [.v kI x0, .v (kL kS) x1, .v (kL (kR 0)) x2]) = so (.struct 0) ((Ty.mk x0 x1 x2) : Ty) := (rfl)
theorem eta_0 (y : Ty) : Ty.mk y.kind y.labels y.args = y := Ty.eta y
theorem ssz_0 : ssz 0 = 3 := (rfl)
theorem zA_0 : zA (.struct 0) = [.v kI (0 : Int), .nl kS, .nl (kR 0)] := (rfl)
theorem nop_0 : nop 99 [.struct 0] = true := (rfl)
theorem fld_1_0 (y : Val) : hget (flds 1) (un 1 y) 0 = some (.v kI y.kind) := (rfl)
theorem prj_1_0 (x0 : Int) (x1 : Int) (x2 : List Str) (x3 : List Val) : (Val.mk x0 x1 x2 x3).kind = x0 := (rfl)
theorem fld_1_1 (y : Val) : hget (flds 1) (un 1 y) 1 = some (.v kI y.n) := (rfl)
theorem prj_1_1 (x0 : Int) (x1 : Int) (x2 : List Str) (x3 : List Val) : (Val.mk x0 x1 x2 x3).n = x1 := (rfl)
theorem fld_1_2 (y : Val) : hget (flds 1) (un 1 y) 2 = some (.v (kL kS) y.labels) := (rfl)
theorem prj_1_2 (x0 : Int) (x1 : Int) (x2 : List Str) (x3 : List Val) : (Val.mk x0 x1 x2 x3).labels = x2 := (rfl)
theorem fld_1_3 (y : Val) : hget (flds 1) (un 1 y) 3 = some (.v (kL (kR 1)) y.args) := (rfl)
theorem prj_1_3 (x0 : Int) (x1 : Int) (x2 : List Str) (x3 : List Val) : (Val.mk x0 x1 x2 x3).args = x3 := (rfl)
theorem lvs_1 (y : Val) : lvs 1 y = [.v kI y.kind, .v kI y.n, .v (kL kS) y.labels, .v (kL (kR 1)) y.args] := (rfl)
theorem ag_1 (ob) (x0 : Int) (x1 : Int) (x2 : List Str) (x3 : List Val) : pk ob (.struct 1) (.ag 1 [.v kI x0, .v kI x1, .v (kL kS) x2, .v (kL (kR 1)) x3]) = so (.struct 1) ((Val.mk x0 x1 x2 x3) : Val) := (rfl)
theorem eta_1 (y : Val) : Val.mk y.kind y.n y.labels y.args = y := Val.eta y
theorem ssz_1 : ssz 1 = 4 := (rfl)
theorem zA_1 : zA (.struct 1) = [.v kI (0 : Int), .v kI (0 : Int), .nl kS, .nl (kR 1)] := (rfl)
theorem nop_1 : nop 99 [.struct 1] = true := (rfl)
theorem fld_2_0 (y : Tm) : hget (flds 2) (un 2 y) 0 = some (.v kI y.kind) := (rfl)
theorem prj_2_0 (x0 : Int) (x1 : Str) (x2 : Int) (x3 : Ty) (x4 : List Str) (x5 : List Tm) : (Tm.mk x0 x1 x2 x3 x4 x5).kind = x0 := (rfl)
theorem fld_2_1 (y : Tm) : hget (flds 2) (un 2 y) 1 = some (.v kS y.name) := (rfl)
theorem prj_2_1 (x0 : Int) (x1 : Str) (x2 : Int) (x3 : Ty) (x4 : List Str) (x5 : List Tm) : (Tm.mk x0 x1 x2 x3 x4 x5).name = x1 := (rfl)
theorem fld_2_2 (y : Tm) : hget (flds 2) (un 2 y) 2 = some (.v kI y.n) := (rfl)
theorem prj_2_2 (x0 : Int) (x1 : Str) (x2 : Int) (x3 : Ty) (x4 : List Str) (x5 : List Tm) : (Tm.mk x0 x1 x2 x3 x4 x5).n = x2 := (rfl)
theorem fld_2_3 (y : Tm) : hget (flds 2) (un 2 y) 3 = some (.v (kR 0) y.type) := (rfl)
theorem prj_2_3 (x0 : Int) (x1 : Str) (x2 : Int) (x3 : Ty) (x4 : List Str) (x5 : List Tm) : (Tm.mk x0 x1 x2 x3 x4 x5).type = x3 := (rfl)
theorem fld_2_4 (y : Tm) : hget (flds 2) (un 2 y) 4 = some (.v (kL kS) y.labels) := (rfl)
theorem prj_2_4 (x0 : Int) (x1 : Str) (x2 : Int) (x3 : Ty) (x4 : List Str) (x5 : List Tm) : (Tm.mk x0 x1 x2 x3 x4 x5).labels = x4 := (rfl)
theorem fld_2_5 (y : Tm) : hget (flds 2) (un 2 y) 5 = some (.v (kL (kR 2)) y.args) := (rfl)
theorem prj_2_5 (x0 : Int) (x1 : Str) (x2 : Int) (x3 : Ty) (x4 : List Str) (x5 : List Tm) : (Tm.mk x0 x1 x2 x3 x4 x5).args = x5 := (rfl)
theorem lvs_2 (y : Tm) : lvs 2 y = [.v kI y.kind, .v kS y.name, .v kI y.n, .v kI y.type.kind, .v (kL kS) y.type.labels, .v (kL (kR 0)) y.type.args, .v (kL kS) y.labels, .v (kL (kR 2)) y.args] := (rfl)
theorem ag_2 (ob) (x0 : Int) (x1 : Str) (x2 : Int) (x3 : Int) (x4 : List Str) (x5 : List Ty) (x6 : List Str) (x7 : List Tm) : pk ob (.struct 2) (.ag 2 [.v kI x0, .v kS x1, .v kI x2, .v kI x3, .v (kL kS) x4, .v (kL (kR 0)) x5, .v (kL kS) x6, .v (kL (kR 2)) x7]) = so (.struct 2) ((Tm.mk x0 x1 x2 (Ty.mk x3 x4 x5) x6 x7) : Tm) := (rfl)
theorem eta_2 (y : Tm) : Tm.mk y.kind y.name y.n y.type y.labels y.args = y := Tm.eta y
theorem ssz_2 : ssz 2 = 8 := (rfl)
theorem zA_2 : zA (.struct 2) = [.v kI (0 : Int), .v kS ([] : Str), .v kI (0 : Int), .v kI (0 : Int), .nl kS, .nl (kR 0), .nl kS, .nl (kR 2)] := (rfl)
theorem nop_2 : nop 99 [.struct 2] = true := (rfl)
theorem fld_3_0 (y : Gen) : hget (flds 3) (un 3 y) 0 = some (.v kS y.var) := (rfl)
theorem fld_3_1 (y : Gen) : hget (flds 3) (un 3 y) 1 = some (.v kS y.table) := (rfl)
theorem lvs_3 (y : Gen) : lvs 3 y = [.v kS y.var, .v kS y.table] := (rfl)
theorem ag_3 (ob) (x0 : Str) (x1 : Str) : pk ob (.struct 3) (.ag 3 [.v kS x0, .v kS x1]) = so (.struct 3) ((Gen.mk x0 x1) : Gen) := (rfl)
theorem eta_3 (y : Gen) : Gen.mk y.var y.table = y := (rfl)
theorem ssz_3 : ssz 3 = 2 := (rfl)
theorem zA_3 : zA (.struct 3) = [.v kS ([] : Str), .v kS ([] : Str)] := (rfl)
theorem nop_3 : nop 99 [.struct 3] = true := (rfl)
theorem fld_4_0 (y : TDecl) : hget (flds 4) (un 4 y) 0 = some (.v kS y.name) := (rfl)
theorem fld_4_1 (y : TDecl) : hget (flds 4) (un 4 y) 1 = some (.v (kR 0) y.row) := (rfl)
theorem lvs_4 (y : TDecl) : lvs 4 y = [.v kS y.name, .v kI y.row.kind, .v (kL kS) y.row.labels, .v (kL (kR 0)) y.row.args] := (rfl)
theorem ag_4 (ob) (x0 : Str) (x1 : Int) (x2 : List Str) (x3 : List Ty) : pk ob (.struct 4) (.ag 4 [.v kS x0, .v kI x1, .v (kL kS) x2, .v (kL (kR 0)) x3]) = so (.struct 4) ((TDecl.mk x0 (Ty.mk x1 x2 x3)) : TDecl) := (rfl)
theorem eta_4 (y : TDecl) : TDecl.mk y.name y.row = y := (rfl)
theorem ssz_4 : ssz 4 = 4 := (rfl)
theorem zA_4 : zA (.struct 4) = [.v kS ([] : Str), .v kI (0 : Int), .nl kS, .nl (kR 0)] := (rfl)
theorem nop_4 : nop 99 [.struct 4] = true := (rfl)
theorem fld_5_0 (y : Schema) : hget (flds 5) (un 5 y) 0 = some (.v (kL (kR 4)) y.tables) := (rfl)
theorem lvs_5 (y : Schema) : lvs 5 y = [.v (kL (kR 4)) y.tables] := (rfl)
theorem ag_5 (ob) (x0 : List TDecl) : pk ob (.struct 5) (.ag 5 [.v (kL (kR 4)) x0]) = so (.struct 5) ((Schema.mk x0) : Schema) := (rfl)
theorem eta_5 (y : Schema) : Schema.mk y.tables = y := (rfl)
theorem ssz_5 : ssz 5 = 1 := (rfl)
theorem zA_5 : zA (.struct 5) = [.nl (kR 4)] := (rfl)
theorem nop_5 : nop 99 [.struct 5] = true := (rfl)
theorem fld_6_0 (y : TData) : hget (flds 6) (un 6 y) 0 = some (.v kS y.name) := (rfl)
theorem fld_6_1 (y : TData) : hget (flds 6) (un 6 y) 1 = some (.v (kL (kR 1)) y.rows) := (rfl)
theorem lvs_6 (y : TData) : lvs 6 y = [.v kS y.name, .v (kL (kR 1)) y.rows] := (rfl)
theorem ag_6 (ob) (x0 : Str) (x1 : List Val) : pk ob (.struct 6) (.ag 6 [.v kS x0, .v (kL (kR 1)) x1]) = so (.struct 6) ((TData.mk x0 x1) : TData) := (rfl)
theorem eta_6 (y : TData) : TData.mk y.name y.rows = y := (rfl)
theorem ssz_6 : ssz 6 = 2 := (rfl)
theorem zA_6 : zA (.struct 6) = [.v kS ([] : Str), .nl (kR 1)] := (rfl)
theorem nop_6 : nop 99 [.struct 6] = true := (rfl)
theorem fld_7_0 (y : DBase) : hget (flds 7) (un 7 y) 0 = some (.v (kL (kR 6)) y.tables) := (rfl)
theorem lvs_7 (y : DBase) : lvs 7 y = [.v (kL (kR 6)) y.tables] := (rfl)
theorem ag_7 (ob) (x0 : List TData) : pk ob (.struct 7) (.ag 7 [.v (kL (kR 6)) x0]) = so (.struct 7) ((DBase.mk x0) : DBase) := (rfl)
theorem eta_7 (y : DBase) : DBase.mk y.tables = y := (rfl)
theorem ssz_7 : ssz 7 = 1 := (rfl)
theorem zA_7 : zA (.struct 7) = [.nl (kR 6)] := (rfl)
theorem nop_7 : nop 99 [.struct 7] = true := (rfl)
theorem fld_8_0 (y : Typing) : hget (flds 8) (un 8 y) 0 = some (.v kS y.name) := (rfl)
theorem fld_8_1 (y : Typing) : hget (flds 8) (un 8 y) 1 = some (.v (kR 0) y.type) := (rfl)
theorem lvs_8 (y : Typing) : lvs 8 y = [.v kS y.name, .v kI y.type.kind, .v (kL kS) y.type.labels, .v (kL (kR 0)) y.type.args] := (rfl)
theorem ag_8 (ob) (x0 : Str) (x1 : Int) (x2 : List Str) (x3 : List Ty) : pk ob (.struct 8) (.ag 8 [.v kS x0, .v kI x1, .v (kL kS) x2, .v (kL (kR 0)) x3]) = so (.struct 8) ((Typing.mk x0 (Ty.mk x1 x2 x3)) : Typing) := (rfl)
theorem eta_8 (y : Typing) : Typing.mk y.name y.type = y := (rfl)
theorem ssz_8 : ssz 8 = 4 := (rfl)
theorem zA_8 : zA (.struct 8) = [.v kS ([] : Str), .v kI (0 : Int), .nl kS, .nl (kR 0)] := (rfl)
theorem nop_8 : nop 99 [.struct 8] = true := (rfl)
theorem fld_9_0 (y : Head) : hget (flds 9) (un 9 y) 0 = some (.v kI y.kind) := (rfl)
theorem prj_9_0 (x0 : Int) (x1 : Tm) (x2 : List Str) (x3 : List Head) (x4 : Query) : (Head.mk x0 x1 x2 x3 x4).kind = x0 := (rfl)
theorem fld_9_1 (y : Head) : hget (flds 9) (un 9 y) 1 = some (.v (kR 2) y.term) := (rfl)
theorem prj_9_1 (x0 : Int) (x1 : Tm) (x2 : List Str) (x3 : List Head) (x4 : Query) : (Head.mk x0 x1 x2 x3 x4).term = x1 := (rfl)
theorem fld_9_2 (y : Head) : hget (flds 9) (un 9 y) 2 = some (.v (kL kS) y.labels) := (rfl)
theorem prj_9_2 (x0 : Int) (x1 : Tm) (x2 : List Str) (x3 : List Head) (x4 : Query) : (Head.mk x0 x1 x2 x3 x4).labels = x2 := (rfl)
theorem fld_9_3 (y : Head) : hget (flds 9) (un 9 y) 3 = some (.v (kL (kR 9)) y.parts) := (rfl)
theorem prj_9_3 (x0 : Int) (x1 : Tm) (x2 : List Str) (x3 : List Head) (x4 : Query) : (Head.mk x0 x1 x2 x3 x4).parts = x3 := (rfl)
theorem fld_9_4 (y : Head) : hget (flds 9) (un 9 y) 4 = some (.v (kR 11) y.query) := (rfl)
theorem prj_9_4 (x0 : Int) (x1 : Tm) (x2 : List Str) (x3 : List Head) (x4 : Query) : (Head.mk x0 x1 x2 x3 x4).query = x4 := (rfl)
theorem lvs_9 (y : Head) : lvs 9 y = [.v kI y.kind, .v kI y.term.kind, .v kS y.term.name, .v kI y.term.n, .v kI y.term.type.kind, .v (kL kS) y.term.type.labels, .v (kL (kR 0)) y.term.type.args, .v (kL kS) y.term.labels, .v (kL (kR 2)) y.term.args, .v (kL kS) y.labels, .v (kL (kR 9)) y.parts, .v (kL (kR 10)) y.query.comps] := (rfl)
theorem ag_9 (ob) (x0 : Int) (x1 : Int) (x2 : Str) (x3 : Int) (x4 : Int) (x5 : List Str) (x6 : List Ty) (x7 : List Str) (x8 : List Tm) (x9 : List Str) (x10 : List Head) (x11 : List Comp) : pk ob (.struct 9) (.ag 9 [.v kI x0, .v kI x1, .v kS x2, .v kI x3, .v kI x4, .v (kL kS) x5, .v (kL (kR 0)) x6, .v (kL kS) x7, .v (kL (kR 2)) x8, .v (kL kS) x9, .v (kL (kR 9)) x10, .v (kL (kR 10)) x11]) = so (.struct 9) ((Head.mk x0 (Tm.mk x1 x2 x3 (Ty.mk x4 x5 x6) x7 x8) x9 x10 (Query.mk x11)) : Head) := (rfl)
theorem eta_9 (y : Head) : Head.mk y.kind y.term y.labels y.parts y.query = y := Head.eta y
theorem ssz_9 : ssz 9 = 12 := (rfl)
theorem zA_9 : zA (.struct 9) = [.v kI (0 : Int), .v kI (0 : Int), .v kS ([] : Str), .v kI (0 : Int), .v kI (0 : Int), .nl kS, .nl (kR 0), .nl kS, .nl (kR 2), .nl kS, .nl (kR 9), .nl (kR 10)] := (rfl)
theorem nop_9 : nop 99 [.struct 9] = true := (rfl)
theorem fld_10_0 (y : Comp) : hget (flds 10) (un 10 y) 0 = some (.v (kL (kR 3)) y.gens) := (rfl)
theorem prj_10_0 (x0 : List Gen) (x1 : Tm) (x2 : Head) : (Comp.mk x0 x1 x2).gens = x0 := (rfl)
theorem fld_10_1 (y : Comp) : hget (flds 10) (un 10 y) 1 = some (.v (kR 2) y.whr) := (rfl)
theorem prj_10_1 (x0 : List Gen) (x1 : Tm) (x2 : Head) : (Comp.mk x0 x1 x2).whr = x1 := (rfl)
theorem fld_10_2 (y : Comp) : hget (flds 10) (un 10 y) 2 = some (.v (kR 9) y.head) := (rfl)
theorem prj_10_2 (x0 : List Gen) (x1 : Tm) (x2 : Head) : (Comp.mk x0 x1 x2).head = x2 := (rfl)
theorem lvs_10 (y : Comp) : lvs 10 y = [.v (kL (kR 3)) y.gens, .v kI y.whr.kind, .v kS y.whr.name, .v kI y.whr.n, .v kI y.whr.type.kind, .v (kL kS) y.whr.type.labels, .v (kL (kR 0)) y.whr.type.args, .v (kL kS) y.whr.labels, .v (kL (kR 2)) y.whr.args, .v kI y.head.kind, .v kI y.head.term.kind, .v kS y.head.term.name, .v kI y.head.term.n, .v kI y.head.term.type.kind, .v (kL kS) y.head.term.type.labels, .v (kL (kR 0)) y.head.term.type.args, .v (kL kS) y.head.term.labels, .v (kL (kR 2)) y.head.term.args, .v (kL kS) y.head.labels, .v (kL (kR 9)) y.head.parts, .v (kL (kR 10)) y.head.query.comps] := (rfl)
theorem ag_10 (ob) (x0 : List Gen) (x1 : Int) (x2 : Str) (x3 : Int) (x4 : Int) (x5 : List Str) (x6 : List Ty) (x7 : List Str) (x8 : List Tm) (x9 : Int) (x10 : Int) (x11 : Str) (x12 : Int) (x13 : Int) (x14 : List Str) (x15 : List Ty) (x16 : List Str) (x17 : List Tm) (x18 : List Str) (x19 : List Head) (x20 : List Comp) : pk ob (.struct 10) (.ag 10 [.v (kL (kR 3)) x0, .v kI x1, .v kS x2, .v kI x3, .v kI x4, .v (kL kS) x5, .v (kL (kR 0)) x6, .v (kL kS) x7, .v (kL (kR 2)) x8, .v kI x9, .v kI x10, .v kS x11, .v kI x12, .v kI x13, .v (kL kS) x14, .v (kL (kR 0)) x15, .v (kL kS) x16, .v (kL (kR 2)) x17, .v (kL kS) x18, .v (kL (kR 9)) x19, .v (kL (kR 10)) x20]) = so (.struct 10) ((Comp.mk x0 (Tm.mk x1 x2 x3 (Ty.mk x4 x5 x6) x7 x8) (Head.mk x9 (Tm.mk x10 x11 x12 (Ty.mk x13 x14 x15) x16 x17) x18 x19 (Query.mk x20))) : Comp) := (rfl)
theorem eta_10 (y : Comp) : Comp.mk y.gens y.whr y.head = y := Comp.eta y
theorem ssz_10 : ssz 10 = 21 := (rfl)
theorem zA_10 : zA (.struct 10) = [.nl (kR 3), .v kI (0 : Int), .v kS ([] : Str), .v kI (0 : Int), .v kI (0 : Int), .nl kS, .nl (kR 0), .nl kS, .nl (kR 2), .v kI (0 : Int), .v kI (0 : Int), .v kS ([] : Str), .v kI (0 : Int), .v kI (0 : Int), .nl kS, .nl (kR 0), .nl kS, .nl (kR 2), .nl kS, .nl (kR 9), .nl (kR 10)] := (rfl)
theorem nop_10 : nop 99 [.struct 10] = true := (rfl)
theorem fld_11_0 (y : Query) : hget (flds 11) (un 11 y) 0 = some (.v (kL (kR 10)) y.comps) := (rfl)
theorem prj_11_0 (x0 : List Comp) : (Query.mk x0).comps = x0 := (rfl)
theorem lvs_11 (y : Query) : lvs 11 y = [.v (kL (kR 10)) y.comps] := (rfl)
theorem ag_11 (ob) (x0 : List Comp) : pk ob (.struct 11) (.ag 11 [.v (kL (kR 10)) x0]) = so (.struct 11) ((Query.mk x0) : Query) := (rfl)
theorem eta_11 (y : Query) : Query.mk y.comps = y := Query.eta y
theorem ssz_11 : ssz 11 = 1 := (rfl)
theorem zA_11 : zA (.struct 11) = [.nl (kR 10)] := (rfl)
theorem nop_11 : nop 99 [.struct 11] = true := (rfl)
theorem fld_12_0 (y : FComp) : hget (flds 12) (un 12 y) 0 = some (.v kI y.outer) := (rfl)
theorem fld_12_1 (y : FComp) : hget (flds 12) (un 12 y) 1 = some (.v kI y.outerGens) := (rfl)
theorem fld_12_2 (y : FComp) : hget (flds 12) (un 12 y) 2 = some (.v kI y.tag) := (rfl)
theorem fld_12_3 (y : FComp) : hget (flds 12) (un 12 y) 3 = some (.v (kL (kR 3)) y.gens) := (rfl)
theorem fld_12_4 (y : FComp) : hget (flds 12) (un 12 y) 4 = some (.v (kR 2) y.whr) := (rfl)
theorem fld_12_5 (y : FComp) : hget (flds 12) (un 12 y) 5 = some (.v (kL (kR 2)) y.cols) := (rfl)
theorem lvs_12 (y : FComp) : lvs 12 y = [.v kI y.outer, .v kI y.outerGens, .v kI y.tag, .v (kL (kR 3)) y.gens, .v kI y.whr.kind, .v kS y.whr.name, .v kI y.whr.n, .v kI y.whr.type.kind, .v (kL kS) y.whr.type.labels, .v (kL (kR 0)) y.whr.type.args, .v (kL kS) y.whr.labels, .v (kL (kR 2)) y.whr.args, .v (kL (kR 2)) y.cols] := (rfl)
theorem ag_12 (ob) (x0 : Int) (x1 : Int) (x2 : Int) (x3 : List Gen) (x4 : Int) (x5 : Str) (x6 : Int) (x7 : Int) (x8 : List Str) (x9 : List Ty) (x10 : List Str) (x11 : List Tm) (x12 : List Tm) : pk ob (.struct 12) (.ag 12 [.v kI x0, .v kI x1, .v kI x2, .v (kL (kR 3)) x3, .v kI x4, .v kS x5, .v kI x6, .v kI x7, .v (kL kS) x8, .v (kL (kR 0)) x9, .v (kL kS) x10, .v (kL (kR 2)) x11, .v (kL (kR 2)) x12]) = so (.struct 12) ((FComp.mk x0 x1 x2 x3 (Tm.mk x4 x5 x6 (Ty.mk x7 x8 x9) x10 x11) x12) : FComp) := (rfl)
theorem eta_12 (y : FComp) : FComp.mk y.outer y.outerGens y.tag y.gens y.whr y.cols = y := (rfl)
theorem ssz_12 : ssz 12 = 13 := (rfl)
theorem zA_12 : zA (.struct 12) = [.v kI (0 : Int), .v kI (0 : Int), .v kI (0 : Int), .nl (kR 3), .v kI (0 : Int), .v kS ([] : Str), .v kI (0 : Int), .v kI (0 : Int), .nl kS, .nl (kR 0), .nl kS, .nl (kR 2), .nl (kR 2)] := (rfl)
theorem nop_12 : nop 99 [.struct 12] = true := (rfl)
theorem fld_13_0 (y : FQuery) : hget (flds 13) (un 13 y) 0 = some (.v (kL kS) y.path) := (rfl)
theorem fld_13_1 (y : FQuery) : hget (flds 13) (un 13 y) 1 = some (.v (kL (kR 12)) y.comps) := (rfl)
theorem lvs_13 (y : FQuery) : lvs 13 y = [.v (kL kS) y.path, .v (kL (kR 12)) y.comps] := (rfl)
theorem ag_13 (ob) (x0 : List Str) (x1 : List FComp) : pk ob (.struct 13) (.ag 13 [.v (kL kS) x0, .v (kL (kR 12)) x1]) = so (.struct 13) ((FQuery.mk x0 x1) : FQuery) := (rfl)
theorem eta_13 (y : FQuery) : FQuery.mk y.path y.comps = y := (rfl)
theorem ssz_13 : ssz 13 = 2 := (rfl)
theorem zA_13 : zA (.struct 13) = [.nl kS, .nl (kR 12)] := (rfl)
theorem nop_13 : nop 99 [.struct 13] = true := (rfl)
theorem fld_14_0 (y : Key) : hget (flds 14) (un 14 y) 0 = some (.v kI y.tag) := (rfl)
theorem fld_14_1 (y : Key) : hget (flds 14) (un 14 y) 1 = some (.v (kL kI) y.rows) := (rfl)
theorem lvs_14 (y : Key) : lvs 14 y = [.v kI y.tag, .v (kL kI) y.rows] := (rfl)
theorem ag_14 (ob) (x0 : Int) (x1 : List Int) : pk ob (.struct 14) (.ag 14 [.v kI x0, .v (kL kI) x1]) = so (.struct 14) ((Key.mk x0 x1) : Key) := (rfl)
theorem eta_14 (y : Key) : Key.mk y.tag y.rows = y := (rfl)
theorem ssz_14 : ssz 14 = 2 := (rfl)
theorem zA_14 : zA (.struct 14) = [.v kI (0 : Int), .nl kI] := (rfl)
theorem nop_14 : nop 99 [.struct 14] = true := (rfl)
theorem fld_15_0 (y : FRow) : hget (flds 15) (un 15 y) 0 = some (.v (kR 14) y.outer) := (rfl)
theorem fld_15_1 (y : FRow) : hget (flds 15) (un 15 y) 1 = some (.v (kR 14) y.own) := (rfl)
theorem fld_15_2 (y : FRow) : hget (flds 15) (un 15 y) 2 = some (.v (kL (kR 1)) y.cols) := (rfl)
theorem lvs_15 (y : FRow) : lvs 15 y = [.v kI y.outer.tag, .v (kL kI) y.outer.rows, .v kI y.own.tag, .v (kL kI) y.own.rows, .v (kL (kR 1)) y.cols] := (rfl)
theorem ag_15 (ob) (x0 : Int) (x1 : List Int) (x2 : Int) (x3 : List Int) (x4 : List Val) : pk ob (.struct 15) (.ag 15 [.v kI x0, .v (kL kI) x1, .v kI x2, .v (kL kI) x3, .v (kL (kR 1)) x4]) = so (.struct 15) ((FRow.mk (Key.mk x0 x1) (Key.mk x2 x3) x4) : FRow) := (rfl)
theorem eta_15 (y : FRow) : FRow.mk y.outer y.own y.cols = y := (rfl)
theorem ssz_15 : ssz 15 = 5 := (rfl)
theorem zA_15 : zA (.struct 15) = [.v kI (0 : Int), .nl kI, .v kI (0 : Int), .nl kI, .nl (kR 1)] := (rfl)
theorem nop_15 : nop 99 [.struct 15] = true := (rfl)
theorem fld_16_0 (y : NRow) : hget (flds 16) (un 16 y) 0 = some (.v kI y.outer) := (rfl)
theorem fld_16_1 (y : NRow) : hget (flds 16) (un 16 y) 1 = some (.v kI y.own) := (rfl)
theorem fld_16_2 (y : NRow) : hget (flds 16) (un 16 y) 2 = some (.v (kL (kR 1)) y.cols) := (rfl)
theorem lvs_16 (y : NRow) : lvs 16 y = [.v kI y.outer, .v kI y.own, .v (kL (kR 1)) y.cols] := (rfl)
theorem ag_16 (ob) (x0 : Int) (x1 : Int) (x2 : List Val) : pk ob (.struct 16) (.ag 16 [.v kI x0, .v kI x1, .v (kL (kR 1)) x2]) = so (.struct 16) ((NRow.mk x0 x1 x2) : NRow) := (rfl)
theorem eta_16 (y : NRow) : NRow.mk y.outer y.own y.cols = y := (rfl)
theorem ssz_16 : ssz 16 = 3 := (rfl)
theorem zA_16 : zA (.struct 16) = [.v kI (0 : Int), .v kI (0 : Int), .nl (kR 1)] := (rfl)
theorem nop_16 : nop 99 [.struct 16] = true := (rfl)
theorem fld_17_0 (y : Plan) : hget (flds 17) (un 17 y) 0 = some (.v kI y.kind) := (rfl)
theorem prj_17_0 (x0 : Int) (x1 : Str) (x2 : Str) (x3 : Tm) (x4 : List Tm) (x5 : List Plan) : (Plan.mk x0 x1 x2 x3 x4 x5).kind = x0 := (rfl)
theorem fld_17_1 (y : Plan) : hget (flds 17) (un 17 y) 1 = some (.v kS y.var) := (rfl)
theorem prj_17_1 (x0 : Int) (x1 : Str) (x2 : Str) (x3 : Tm) (x4 : List Tm) (x5 : List Plan) : (Plan.mk x0 x1 x2 x3 x4 x5).var = x1 := (rfl)
theorem fld_17_2 (y : Plan) : hget (flds 17) (un 17 y) 2 = some (.v kS y.table) := (rfl)
theorem prj_17_2 (x0 : Int) (x1 : Str) (x2 : Str) (x3 : Tm) (x4 : List Tm) (x5 : List Plan) : (Plan.mk x0 x1 x2 x3 x4 x5).table = x2 := (rfl)
theorem fld_17_3 (y : Plan) : hget (flds 17) (un 17 y) 3 = some (.v (kR 2) y.cond) := (rfl)
theorem prj_17_3 (x0 : Int) (x1 : Str) (x2 : Str) (x3 : Tm) (x4 : List Tm) (x5 : List Plan) : (Plan.mk x0 x1 x2 x3 x4 x5).cond = x3 := (rfl)
theorem fld_17_4 (y : Plan) : hget (flds 17) (un 17 y) 4 = some (.v (kL (kR 2)) y.keys) := (rfl)
theorem prj_17_4 (x0 : Int) (x1 : Str) (x2 : Str) (x3 : Tm) (x4 : List Tm) (x5 : List Plan) : (Plan.mk x0 x1 x2 x3 x4 x5).keys = x4 := (rfl)
theorem fld_17_5 (y : Plan) : hget (flds 17) (un 17 y) 5 = some (.v (kL (kR 17)) y.args) := (rfl)
theorem prj_17_5 (x0 : Int) (x1 : Str) (x2 : Str) (x3 : Tm) (x4 : List Tm) (x5 : List Plan) : (Plan.mk x0 x1 x2 x3 x4 x5).args = x5 := (rfl)
theorem lvs_17 (y : Plan) : lvs 17 y = [.v kI y.kind, .v kS y.var, .v kS y.table, .v kI y.cond.kind, .v kS y.cond.name, .v kI y.cond.n, .v kI y.cond.type.kind, .v (kL kS) y.cond.type.labels, .v (kL (kR 0)) y.cond.type.args, .v (kL kS) y.cond.labels, .v (kL (kR 2)) y.cond.args, .v (kL (kR 2)) y.keys, .v (kL (kR 17)) y.args] := (rfl)
theorem ag_17 (ob) (x0 : Int) (x1 : Str) (x2 : Str) (x3 : Int) (x4 : Str) (x5 : Int) (x6 : Int) (x7 : List Str) (x8 : List Ty) (x9 : List Str) (x10 : List Tm) (x11 : List Tm) (x12 : List Plan) : pk ob (.struct 17) (.ag 17 [.v kI x0, .v kS x1, .v kS x2, .v kI x3, .v kS x4, .v kI x5, .v kI x6, .v (kL kS) x7, .v (kL (kR 0)) x8, .v (kL kS) x9, .v (kL (kR 2)) x10, .v (kL (kR 2)) x11, .v (kL (kR 17)) x12]) = so (.struct 17) ((Plan.mk x0 x1 x2 (Tm.mk x3 x4 x5 (Ty.mk x6 x7 x8) x9 x10) x11 x12) : Plan) := (rfl)
theorem eta_17 (y : Plan) : Plan.mk y.kind y.var y.table y.cond y.keys y.args = y := Plan.eta y
theorem ssz_17 : ssz 17 = 13 := (rfl)
theorem zA_17 : zA (.struct 17) = [.v kI (0 : Int), .v kS ([] : Str), .v kS ([] : Str), .v kI (0 : Int), .v kS ([] : Str), .v kI (0 : Int), .v kI (0 : Int), .nl kS, .nl (kR 0), .nl kS, .nl (kR 2), .nl (kR 2), .nl (kR 17)] := (rfl)
theorem nop_17 : nop 99 [.struct 17] = true := (rfl)
theorem cel_st (n y) : cellsOf (.v (.struct n) y) = lvs n y := (rfl)
theorem cel_int (k n) : cellsOf (.v (.int k) n) = [.v (.int k) n] := (rfl)
theorem cel_bool (n) : cellsOf (.v .bool n) = [.v .bool n] := (rfl)
theorem cel_str (n) : cellsOf (.v .str n) = [.v .str n] := (rfl)
theorem cel_slice (c xs) : cellsOf (.v (.slice c) xs) = [.v (.slice c) xs] := (rfl)
theorem cel_ptr (c x) : cellsOf (.v (.ptr c) x) = [.v (.ptr c) x] := (rfl)
theorem cel_ag (n ls) : cellsOf (.ag n ls) = ls := (rfl)
theorem cel_sl (l) : cellsOf (.sl l) = [.sl l] := (rfl)
theorem leaf_sl (l) : (AV.sl l).leaf = true := (rfl)
theorem stor_sl (l) : (AV.sl l).stor = true := (rfl)
theorem cel_nl (c) : cellsOf (.nl c) = [.nl c] := (rfl)
theorem leaf_nl (c) : (AV.nl c).leaf = true := (rfl)
theorem stor_nl (c) : (AV.nl c).stor = true := (rfl)
theorem cel_pt (l o) : cellsOf (.pt l o) = [.pt l o] := (rfl)
theorem leaf_pt (l o) : (AV.pt l o).leaf = true := (rfl)
theorem stor_pt (l o) : (AV.pt l o).stor = true := (rfl)
theorem cel_ep (l c i o) : cellsOf (.ep l c i o) = [.ep l c i o] := (rfl)
theorem leaf_ep (l c i o) : (AV.ep l c i o).leaf = true := (rfl)
theorem stor_ep (l c i o) : (AV.ep l c i o).stor = true := (rfl)
theorem cel_fn (f ls) : cellsOf (.fn f ls) = [.fn f ls] := (rfl)
theorem leaf_fn (f ls) : (AV.fn f ls).leaf = true := (rfl)
theorem stor_fn (f ls) : (AV.fn f ls).stor = true := (rfl)
theorem leaf_vint (k) (x) : (AV.v (.int k) x).leaf = true := (rfl)
theorem sz_int (k) : (Ki.int k).sz = 1 := (rfl)
theorem flat_int (k) : (Ki.int k).flat = true := (rfl)
theorem nop_int (k) : nop 99 [.int k] = true := (rfl)
theorem leaf_vbool (x) : (AV.v (.bool) x).leaf = true := (rfl)
theorem sz_bool : (Ki.bool).sz = 1 := (rfl)
theorem flat_bool : (Ki.bool).flat = true := (rfl)
theorem nop_bool : nop 99 [.bool] = true := (rfl)
theorem leaf_vstr (x) : (AV.v (.str) x).leaf = true := (rfl)
theorem sz_str : (Ki.str).sz = 1 := (rfl)
theorem flat_str : (Ki.str).flat = true := (rfl)
theorem nop_str : nop 99 [.str] = true := (rfl)
theorem leaf_vslice (c) (x) : (AV.v (.slice c) x).leaf = true := (rfl)
theorem sz_slice (c) : (Ki.slice c).sz = 1 := (rfl)
theorem flat_slice (c) : (Ki.slice c).flat = false := (rfl)
theorem nop_slice (c) : nop 99 [.slice c] = true := (rfl)
theorem leaf_vptr (c) (x) : (AV.v (.ptr c) x).leaf = true := (rfl)
theorem sz_ptr (c) : (Ki.ptr c).sz = 1 := (rfl)
theorem flat_ptr (c) : (Ki.ptr c).flat = false := (rfl)
theorem sz_struct (n) : (Ki.struct n).sz = ssz n := (rfl)
theorem stor_v (c x) : (AV.v c x).stor = true := (rfl)
theorem stor_ag (n ls) : (AV.ag n ls).stor = storL ls := (rfl)
theorem storL_nil : storL [] = true := (rfl)
theorem storL_cons (a ls) : storL (a :: ls) = (a.leaf && a.stor && storL ls) := (rfl)
theorem setAt_nil (ls k) : setAt ls k [] = ls := by cases ls <;> rfl
theorem setAt_zero (l ls x xs) : setAt (l :: ls) 0 (x :: xs) = x :: setAt ls 0 xs := (rfl)
theorem setAt_succ (l ls k x xs) : setAt (l :: ls) (k + 1) (x :: xs) = l :: setAt ls k (x :: xs) := (rfl)
theorem idst_fa (d o n j off) : (I.fa d o n j off).dst = some d := (rfl)
theorem idst_mv (d o) : (I.mv d o).dst = some d := (rfl)
theorem idst_nck (d o) : (I.nck d o).dst = some d := (rfl)
theorem idst_un (d u o) : (I.un d u o).dst = some d := (rfl)
theorem idst_bi (d b x y) : (I.bi d b x y).dst = some d := (rfl)
theorem idst_be (d b x y) : (I.be d b x y).dst = some d := (rfl)
theorem idst_pk (d c x y) : (I.pk d c x y).dst = some d := (rfl)
theorem idst_ia (d o i c) : (I.ia d o i c).dst = some d := (rfl)
theorem idst_ld (d o c) : (I.ld d o c).dst = some d := (rfl)
theorem idst_bx (d o c) : (I.bx d o c).dst = some d := (rfl)
theorem idst_al (d c) : (I.al d c).dst = some d := (rfl)
theorem idst_ln (d s o) : (I.ln d s o).dst = some d := (rfl)
theorem idst_mk (d p c n) : (I.mk d p c n).dst = some d := (rfl)
theorem idst_ca (d f xs) : (I.ca d f xs).dst = d := (rfl)
theorem idst_cv (d f xs) : (I.cv d f xs).dst = d := (rfl)
theorem idst_st (o x c) : (I.st o x c).dst = none := (rfl)
theorem idst_g (t b i) : (I.g t b i).dst = i.dst := (rfl)
attribute [go_sem] fld_0_0 prj_0_0 fld_0_1 prj_0_1 fld_0_2 prj_0_2 lvs_0 ag_0 eta_0 ssz_0 zA_0 nop_0 fld_1_0 prj_1_0 fld_1_1 prj_1_1 fld_1_2 prj_1_2 fld_1_3 prj_1_3 lvs_1 ag_1 eta_1 ssz_1 zA_1 nop_1 fld_2_0 prj_2_0 fld_2_1 prj_2_1 fld_2_2 prj_2_2 fld_2_3 prj_2_3 fld_2_4 prj_2_4 fld_2_5 prj_2_5 lvs_2 ag_2 eta_2 ssz_2 zA_2 nop_2 fld_3_0 fld_3_1 lvs_3 ag_3 eta_3 ssz_3 zA_3 nop_3 fld_4_0 fld_4_1 lvs_4 ag_4 eta_4 ssz_4 zA_4 nop_4 fld_5_0 lvs_5 ag_5 eta_5 ssz_5 zA_5 nop_5 fld_6_0 fld_6_1 lvs_6 ag_6 eta_6 ssz_6 zA_6 nop_6 fld_7_0 lvs_7 ag_7 eta_7 ssz_7 zA_7 nop_7 fld_8_0 fld_8_1 lvs_8 ag_8 eta_8 ssz_8 zA_8 nop_8 fld_9_0 prj_9_0 fld_9_1 prj_9_1 fld_9_2 prj_9_2 fld_9_3 prj_9_3 fld_9_4 prj_9_4 lvs_9 ag_9 eta_9 ssz_9 zA_9 nop_9 fld_10_0 prj_10_0 fld_10_1 prj_10_1 fld_10_2 prj_10_2 lvs_10 ag_10 eta_10 ssz_10 zA_10 nop_10 fld_11_0 prj_11_0 lvs_11 ag_11 eta_11 ssz_11 zA_11 nop_11 fld_12_0 fld_12_1 fld_12_2 fld_12_3 fld_12_4 fld_12_5 lvs_12 ag_12 eta_12 ssz_12 zA_12 nop_12 fld_13_0 fld_13_1 lvs_13 ag_13 eta_13 ssz_13 zA_13 nop_13 fld_14_0 fld_14_1 lvs_14 ag_14 eta_14 ssz_14 zA_14 nop_14 fld_15_0 fld_15_1 fld_15_2 lvs_15 ag_15 eta_15 ssz_15 zA_15 nop_15 fld_16_0 fld_16_1 fld_16_2 lvs_16 ag_16 eta_16 ssz_16 zA_16 nop_16 fld_17_0 prj_17_0 fld_17_1 prj_17_1 fld_17_2 prj_17_2 fld_17_3 prj_17_3 fld_17_4 prj_17_4 fld_17_5 prj_17_5 lvs_17 ag_17 eta_17 ssz_17 zA_17 nop_17 cel_st cel_int cel_bool cel_str cel_slice cel_ptr cel_ag cel_sl leaf_sl stor_sl cel_nl leaf_nl stor_nl cel_pt leaf_pt stor_pt cel_ep leaf_ep stor_ep cel_fn leaf_fn stor_fn leaf_vint sz_int flat_int nop_int leaf_vbool sz_bool flat_bool nop_bool leaf_vstr sz_str flat_str nop_str leaf_vslice sz_slice flat_slice nop_slice leaf_vptr sz_ptr flat_ptr sz_struct stor_v stor_ag storL_nil storL_cons setAt_nil setAt_zero setAt_succ idst_fa idst_mv idst_nck idst_un idst_bi idst_be idst_pk idst_ia idst_ld idst_bx idst_al idst_ln idst_mk idst_ca idst_cv idst_st idst_g List.drop_succ_cons List.drop_zero List.take_succ_cons List.take_zero List.length_cons List.length_nil List.getElem?_cons_succ List.getElem?_cons_zero Nat.reduceLeDiff Nat.zero_add Nat.add_zero true_and and_true forall_const true_or or_true false_or or_false Bool.or_false Bool.false_or Bool.or_true Bool.true_or Bool.and_true Bool.true_and Bool.false_and Bool.and_false Bool.not_true Bool.not_false if_true if_false List.cons_ne_nil List.cons.injEq and_false false_and Bool.false_eq_true Bool.not_not Nat.le_refl Option.some.injEq RA.v.injEq RA.o.injEq RA.s.injEq RA.t.injEq heq_eq_eq bne_self_eq_false beq_self_eq_true Nat.reduceBEq Nat.reduceBNe and_self Bool.not_eq_true' Bool.not_eq_false' beq_iff_eq beq_eq_false_iff_ne decide_eq_true_eq decide_eq_false_iff_not ne_eq Decidable.not_not Int.not_lt Int.not_le Int.ofNat_lt Int.ofNat_le Int.natCast_inj Int.natCast_nonneg Bool.and_eq_true Bool.or_eq_false_iff Classical.not_not false_implies true_implies implies_true List.nodup_nil List.not_mem_nil not_false_eq_true Int.toNat_natCast List.contains_nil List.contains_cons Nat.not_lt Nat.not_le Int.reduceLE Int.reduceLT Int.reduceNeg
end Go.Q

/- The rules for closures, literals and append. -/
set_option linter.unusedVariables false
namespace Go.Q
section
variable (X : Cx) (Γ : Env) (k : Kont) (is : List I) (d : Nat)
theorem pre_nil : Env.pre Γ [] = Γ := (rfl)
theorem pre_cons (d ds) : Env.pre Γ (d :: ds) = Γ.kill (hds (d :: ds)) := (rfl)
theorem hds_nil (n l) : hds [] (n :: l) = false := (rfl)
theorem hds_cons (d ds n l) : hds (d :: ds) (n :: l) = (n == d || hds ds (n :: l)) := by simp only [hds, List.contains_cons]
-- function values
def fnO (x : Option AV) : Option (FuncId × List (Sigma Ki.T)) := x.bind fnS
def fnP (f : FuncId) (s : Option (List (Sigma Ki.T))) : Option (FuncId × List (Sigma Ki.T)) := s.map fun s => (f, s)
theorem fnO_ (f cs) : fnO (some (.fn f cs)) = fnP f (capS cs) := (rfl)
theorem fnP_ (f s) : fnP f (some s) = some (f, s) := (rfl)
def capC (c : Ki) (x : c.T) (s : Option (List (Sigma Ki.T))) : Option (List (Sigma Ki.T)) := s.map fun s => ⟨c, x⟩ :: s
theorem capS_nil : capS [] = some [] := (rfl)
theorem capS_int (kk x r) : capS (.v (.int kk) x :: r) = capC (.int kk) x (capS r) := (rfl)
theorem capS_bool (x r) : capS (.v .bool x :: r) = capC .bool x (capS r) := (rfl)
theorem capS_str (x r) : capS (.v .str x :: r) = capC .str x (capS r) := (rfl)
theorem capS_slice (c x r) : capS (.v (.slice c) x :: r) = capC (.slice c) x (capS r) := (rfl)
theorem capS_ptr (c x r) : capS (.v (.ptr c) x :: r) = capC (.ptr c) x (capS r) := (rfl)
theorem capC_ (c x s) : capC c x (some s) = some (⟨c, x⟩ :: s) := (rfl)
theorem capA_nil : capA [] = [] := (rfl)
theorem capA_cons (c x r) : capA (⟨c, x⟩ :: r) = .v c x :: capA r := (rfl)
theorem capV_nil : capV [] = [] := (rfl)
theorem capV_cons (c x r) : capV (⟨c, x⟩ :: r) = .v c x :: capV r := (rfl)
def coF (f : Option (FuncId × List (Sigma Ki.T))) (r : Option (List SA)) : Option (List SA) := f.bind fun f => r.map fun s => .fn f.1 f.2 :: s
theorem co_fn (o r) : co Γ ((o, .fn) :: r) = coF (fnO (ev Γ o)) (co Γ r) := by
  simp only [co, coF, fnO]; cases ev Γ o <;> rfl
theorem coF_ (f s) : coF (some f) (some s) = some (.fn f.1 f.2 :: s) := (rfl)
def CF (d : Option Nat) (lab : Bool) (f : Option (FuncId × List (Sigma Ki.T))) (x : Option (List SA)) : Prop :=
  need f fun f => need x fun as => ∃ r, X.S f.1 (as ++ capA f.2) r ∧ (lab = false ∨ r.safe = true) ∧ VS X is (Γ.ret d r) k
theorem VS_cf (d o xs) : VS X (.cf d o xs :: is) Γ k = CF X Γ k is d (coLab Γ xs) (fnO (ev Γ o)) (co Γ xs) := (rfl)
theorem CF_ (d lab f s as) : CF X Γ k is d lab (some (f, s)) (some as) = CA2 X is Γ k d lab ((lk X.T f).bind fun g => g (as ++ capA s)) := by
  simp only [CF, need, CA2, Cx.S, Tab.S]
  cases (lk X.T f).bind fun g => g (as ++ capA s) <;> simp
def evC (a : Option AV) (s : Option (List AV)) : Option (List AV) := a.bind fun a => s.map fun s => a :: s
theorem evs_nil : evs Γ [] = some [] := (rfl)
theorem evs_cons (o r) : evs Γ (o :: r) = evC (ev Γ o) (evs Γ r) := (rfl)
theorem evC_ (a s) : evC (some a) (some s) = some (a :: s) := (rfl)
def okL : List AV → Bool
  | [] => true
  | a :: as => a.leaf && a.stor && okL as
theorem okL_eq (as : List AV) : okL as = (as.all AV.leaf && as.all AV.stor) := by
  induction as with
  | nil => rfl
  | cons a as ih =>
    simp only [okL, ih, List.all_cons]
    cases a.leaf <;> cases a.stor <;> cases as.all AV.leaf <;> rfl
theorem okL_nil : okL [] = true := (rfl)
theorem okL_cons (a as) : okL (a :: as) = (a.leaf && a.stor && okL as) := (rfl)
def MF (f : FuncId) (x : Option (List AV)) : Prop := need x fun as => okL as = true ∧ VS X is (Γ.put d (.fn f as)) k
theorem VS_mf (d f xs) : VS X (.mf d f xs :: is) Γ k = MF X Γ k is d f (evs Γ xs) := by
  simp only [VS, vs, vi, MF, okL_eq]
theorem MF_ (f as) : MF X Γ k is d f (some as) = (okL as = true ∧ VS X is (Γ.put d (.fn f as)) k) := (rfl)
-- literals
def sol (c : Ki) (s : List c.T) : Option (List c.T) := some s
def pkC (c : Ki) (x : Option c.T) (s : Option (List c.T)) : Option (List c.T) := x.bind fun x => s.map fun s => x :: s
theorem pks_nil (ob c) : pks ob c [] = sol c ([] : List c.T) := (rfl)
theorem pks_cons (ob) (c : Ki) (a r) : pks ob c (a :: r) = pkC c (pk ob c a) (pks ob c r) := (rfl)
theorem pkC_ (c : Ki) (x : c.T) (s) : pkC c (so c x) (sol c s) = sol c (x :: s) := (rfl)
def BS (dp : Bool) (c : Ki) (x : Option (List AV)) : Prop := need x fun as => need (pks Γ.ob c as) fun ys => ((!dp || c.nref) && !refsL (fun _ => true) as) = true ∧ VS X is ((Γ.new [d] (.row dp false c ys)).put d (.sl [d])) k
def BS2 (dp : Bool) (c : Ki) (rf : Bool) (x : Option (List c.T)) : Prop := need x fun ys => ((!dp || c.nref) && !rf) = true ∧ VS X is ((Γ.new [d] (.row dp false c ys)).put d (.sl [d])) k
theorem VS_bs0 (d dp c) : VS X (.bs d dp c [] :: is) Γ k = VS X is (Γ.put d (.nl c)) k := (rfl)
theorem VS_bs (d dp c x xs) : VS X (.bs d dp c (x :: xs) :: is) Γ k = BS X (Γ.kill (hd d)) k is d dp c (evs (Γ.kill (hd d)) (x :: xs)) := (rfl)
theorem BS_ (dp c as) : BS X Γ k is d dp c (some as) = BS2 X Γ k is d dp c (refsL (fun _ => true) as) (pks Γ.ob c as) := (rfl)
theorem BS2_ (dp) (c : Ki) (rf) (ys : List c.T) : BS2 X Γ k is d dp c rf (sol c ys) = (((!dp || c.nref) && !rf) = true ∧ VS X is ((Γ.new [d] (.row dp false c ys)).put d (.sl [d])) k) := (rfl)
def epD (b : Bool) (off : Nat) (a : AV) (r : Option (List (Nat × AV))) : Option (List (Nat × AV)) := if b then r.map fun s => (off, a) :: s else none
def epC (off sz : Nat) (a : Option AV) (r : Option (List (Nat × AV))) : Option (List (Nat × AV)) := a.bind fun a => epD (a.stor && (cellsOf a).length == sz) off a r
theorem evp_nil : evp Γ [] = some [] := (rfl)
theorem evp_cons (off sz o r) : evp Γ ((off, sz, o) :: r) = epC off sz (ev Γ o) (evp Γ r) := (rfl)
theorem epC_ (off sz a r) : epC off sz (some a) r = epD (a.stor && (cellsOf a).length == sz) off a r := (rfl)
theorem epD_ (off a s) : epD true off a (some s) = some ((off, a) :: s) := (rfl)
def BD (n : Nat) (x : Option (List (Nat × AV))) : Prop := need x fun as => VS X is (Γ.put d (.ag n (fillA (zA (kR n)) as))) k
theorem VS_bd (d n ps) : VS X (.bd d n ps :: is) Γ k = BD X Γ k is d n (evp Γ ps) := (rfl)
theorem BD_ (n as) : BD X Γ k is d n (some as) = VS X is (Γ.put d (.ag n (fillA (zA (kR n)) as))) k := (rfl)
theorem fillA_nil (ls) : fillA ls [] = ls := by cases ls <;> rfl
theorem fillA_cons (ls off a r) : fillA ls ((off, a) :: r) = fillA (setAt ls off (cellsOf a)) r := by cases ls <;> rfl
-- two structs of two strings
def geB (ne : Bool) (m n : Gen) : Bool := if ne then !(m.var == n.var && m.table == n.table) else m.var == n.var && m.table == n.table
theorem geB_t (m n : Gen) : geB true m n = !(m.var == n.var && m.table == n.table) := (rfl)
theorem geB_f (m n : Gen) : geB false m n = (m.var == n.var && m.table == n.table) := (rfl)
def GE2 (ne : Bool) (x y : Option (kR 3).T) : Prop := need x fun (m : Gen) => need y fun (n : Gen) => VS X is (Γ.put d (.v .bool (geB ne m n))) k
def GE (ne : Bool) (x y : Option AV) : Prop := need x fun a => need y fun b => GE2 X Γ k is d ne (pk Γ.ob (kR 3) a) (pk Γ.ob (kR 3) b)
theorem VS_ge (d ne x y) : VS X (.ge d ne x y :: is) Γ k = GE X Γ k is d ne (ev Γ x) (ev Γ y) := (rfl)
theorem GE_ (ne a b) : GE X Γ k is d ne (some a) (some b) = GE2 X Γ k is d ne (pk Γ.ob (kR 3) a) (pk Γ.ob (kR 3) b) := (rfl)
theorem GE2_ (ne) (m n : Gen) : GE2 X Γ k is d ne (so (kR 3) m) (so (kR 3) n) = VS X is (Γ.put d (.v .bool (geB ne m n))) k := (rfl)
theorem idst_ge (d ne x y) : (I.ge d ne x y).dst = some d := (rfl)
-- append
def shO : Option Ob → Bool
  | some (.row dp _ _ _) => !dp
  | _ => false
theorem shr_v (ob c c' x) : shr ob c (.v c' x) = true := by simp [shr]
theorem shr_nl (ob c c') : shr ob c (.nl c') = true := by simp [shr]
theorem shr_sl (ob c l) : shr ob c (.sl l) = (c.nref || shO (lo ob l)) := by
  simp only [shr, shO]; cases lo ob l with
  | none => rfl
  | some o => cases o <;> rfl
theorem shO_ (dp p c xs) : shO (some (.row dp p c xs)) = !dp := (rfl)
theorem nref_int (kk) : (Ki.int kk).nref = true := (rfl)
theorem nref_bool : Ki.bool.nref = true := (rfl)
theorem nref_str : Ki.str.nref = true := (rfl)
theorem nref_slice (c) : (Ki.slice c).nref = false := (rfl)
theorem nref_ptr (c) : (Ki.ptr c).nref = false := (rfl)
theorem nref_0 : (kR 0).nref = false := (rfl)
theorem nref_1 : (kR 1).nref = false := (rfl)
theorem nref_2 : (kR 2).nref = false := (rfl)
theorem nref_3 : (kR 3).nref = true := (rfl)
theorem nref_4 : (kR 4).nref = false := (rfl)
theorem nref_5 : (kR 5).nref = false := (rfl)
theorem nref_6 : (kR 6).nref = false := (rfl)
theorem nref_7 : (kR 7).nref = false := (rfl)
theorem nref_8 : (kR 8).nref = false := (rfl)
theorem nref_9 : (kR 9).nref = false := (rfl)
theorem nref_10 : (kR 10).nref = false := (rfl)
theorem nref_11 : (kR 11).nref = false := (rfl)
theorem nref_12 : (kR 12).nref = false := (rfl)
theorem nref_13 : (kR 13).nref = false := (rfl)
theorem nref_14 : (kR 14).nref = false := (rfl)
theorem nref_15 : (kR 15).nref = false := (rfl)
theorem nref_16 : (kR 16).nref = false := (rfl)
theorem nref_17 : (kR 17).nref = false := (rfl)

def AN (dp : Bool) (c : Ki) (x y : Option AV) : Prop := need x fun
    | .nl _ => need y fun a => need (pk Γ.ob (.slice c) a) fun ys => ((!dp || c.nref) && shr Γ.ob c a) = true ∧ List.length ys ≤ 33554432 ∧ VS X is ((Γ.new [d] (.row dp false c ys)).put d (.sl [d])) k
    | _ => False
def AN2 (dp : Bool) (c : Ki) (sh : Bool) (x : Option (List c.T)) : Prop := need x fun ys => ((!dp || c.nref) && sh) = true ∧ ys.length ≤ 33554432 ∧ VS X is ((Γ.new [d] (.row dp false c ys)).put d (.sl [d])) k
theorem VS_an (d dp c o x) : VS X (.an d dp c o x :: is) Γ k = AN X (Γ.kill (hd d)) k is d dp c (ev (Γ.kill (hd d)) o) (ev (Γ.kill (hd d)) x) := (rfl)
theorem AN_ (dp) (c : Ki) (c' a) : AN X Γ k is d dp c (some (.nl c')) (some a) = AN2 X Γ k is d dp c (shr Γ.ob c a) (pk Γ.ob (.slice c) a) := (rfl)
theorem AN2_ (dp) (c : Ki) (sh) (ys : List c.T) : AN2 X Γ k is d dp c sh (so (.slice c) ys) = (((!dp || c.nref) && sh) = true ∧ ys.length ≤ 33554432 ∧ VS X is ((Γ.new [d] (.row dp false c ys)).put d (.sl [d])) k) := (rfl)
def AP (L : Lab) (dp : Bool) (c : Ki) (x y : Option AV) : Prop := need x fun
    | .sl l => need (lo Γ.ob l) fun
      | .row dp' false c' xs => dp' = dp ∧ need (Ob.as c (.row dp' false c' xs)) fun xs => need y fun a =>
        if dp && !c.nref then need (pkO Γ.ob (.slice c) a) fun r => r.2.Nodup ∧ l ∉ r.2 ∧ List.length xs + List.length r.1 ≤ 33554432 ∧
          let Γ' := Γ.kill (fun m => m == l || m == L || r.2.contains m); VS X is ((Γ'.new L (.row dp false c (xs ++ r.1))).put d (.sl L)) k
        else need (pk Γ.ob (.slice c) a) fun ys => shr Γ.ob c a = true ∧ List.length xs + List.length ys ≤ 33554432 ∧
          let Γ' := Γ.kill (fun m => m == l || m == L); VS X is ((Γ'.new L (.row dp false c (xs ++ ys))).put d (.sl L)) k
      | _ => False
    | _ => False
def inL (l L : Lab) (ls : List Lab) : Lab → Bool := fun m => m == l || m == L || ls.contains m
def beqL (a b : Lab) : Bool := a == b
theorem beqL_nn : beqL [] [] = true := (rfl)
theorem beqL_cn (a as) : beqL (a :: as) [] = false := (rfl)
theorem beqL_nc (a as) : beqL [] (a :: as) = false := (rfl)
theorem beqL_cc (a as b bs) : beqL (a :: as) (b :: bs) = (a == b && beqL as bs) := (rfl)
theorem inL_nil (l L m) : inL l L [] m = (beqL m l || beqL m L) := by simp [inL, beqL]
theorem inL_cons (l L a ls m) : inL l L (a :: ls) m = (beqL m a || inL l L ls m) := by
  simp only [inL, beqL, List.contains_cons]
  cases m == l <;> cases m == L <;> cases m == a <;> rfl
def APd (l L : Lab) (c : Ki) (xs : List c.T) (x : Option (List c.T × List Lab)) : Prop := need x fun r => r.2.Nodup ∧ l ∉ r.2 ∧ xs.length + r.1.length ≤ 33554432 ∧
  VS X is (((Γ.kill (inL l L r.2)).new L (.row true false c (xs ++ r.1))).put d (.sl L)) k
def APs (l L : Lab) (dp : Bool) (c : Ki) (xs : List c.T) (sh : Bool) (x : Option (List c.T)) : Prop := need x fun ys => sh = true ∧ xs.length + ys.length ≤ 33554432 ∧
  VS X is (((Γ.kill (inL l L [])).new L (.row dp false c (xs ++ ys))).put d (.sl L)) k
def APo (l L : Lab) (dp : Bool) (c : Ki) (y : Option AV) (x : Option Ob) : Prop := need x fun
      | .row dp' false c' xs => dp' = dp ∧ need (Ob.as c (.row dp' false c' xs)) fun xs => need y fun a =>
        if dp && !c.nref then APd X Γ k is d l L c xs (pkO Γ.ob (.slice c) a)
        else APs X Γ k is d l L dp c xs (shr Γ.ob c a) (pk Γ.ob (.slice c) a)
      | _ => False
theorem VS_ap (d L dp c o x) : VS X (.ap d L dp c o x :: is) Γ k = AP X Γ k is d L dp c (ev Γ o) (ev Γ x) := (rfl)
theorem AP_ (L dp c l y) : AP X Γ k is d L dp c (some (.sl l)) y = APo X Γ k is d l L dp c y (lo Γ.ob l) := by
  simp only [AP, APo, need]
  cases lo Γ.ob l with
  | none => rfl
  | some o =>
    cases o with
    | box ls => rfl
    | row dp' pn c' xs =>
      cases pn with
      | true => rfl
      | false =>
        simp only
        apply propext
        constructor
        · rintro ⟨rfl, h⟩
          refine ⟨rfl, ?_⟩
          cases ho : Ob.as c (.row dp' false c' xs) with
          | none => rw [ho] at h; exact h
          | some zs =>
            rw [ho] at h
            simp only [need] at h ⊢
            cases y with
            | none => exact h
            | some a =>
              simp only at h ⊢
              split
              · rename_i hd'
                rw [if_pos hd'] at h
                have : dp' = true := by cases dp' <;> simp_all
                subst this
                exact h
              · rename_i hd'
                rw [if_neg hd'] at h
                have e : inL l L [] = fun m => m == l || m == L := by funext m; simp [inL]
                simp only [APs, e]
                exact h
        · rintro ⟨rfl, h⟩
          refine ⟨rfl, ?_⟩
          cases ho : Ob.as c (.row dp' false c' xs) with
          | none => rw [ho] at h; exact h
          | some zs =>
            rw [ho] at h
            simp only [need] at h ⊢
            cases y with
            | none => exact h
            | some a =>
              simp only at h ⊢
              split
              · rename_i hd'
                rw [if_pos hd'] at h
                have : dp' = true := by cases dp' <;> simp_all
                subst this
                exact h
              · rename_i hd'
                rw [if_neg hd'] at h
                have e : inL l L [] = fun m => m == l || m == L := by funext m; simp [inL]
                simp only [APs, e] at h
                exact h
theorem APo_t (l L) (c : Ki) (a) (xs : List c.T) : APo X Γ k is d l L true c (some a) (some (.row true false c xs)) = if c.nref then APs X Γ k is d l L true c xs (shr Γ.ob c a) (pk Γ.ob (.slice c) a) else APd X Γ k is d l L c xs (pkO Γ.ob (.slice c) a) := by
  simp only [APo, need, as_row, true_and, Bool.true_and]
  cases c.nref <;> rfl
theorem APo_f (l L) (c : Ki) (a) (xs : List c.T) : APo X Γ k is d l L false c (some a) (some (.row false false c xs)) = APs X Γ k is d l L false c xs (shr Γ.ob c a) (pk Γ.ob (.slice c) a) := by
  simp only [APo, need, as_row, true_and, Bool.false_and, Bool.false_eq_true, if_false]
theorem APd_ (l L) (c : Ki) (xs ys : List c.T) (ls) : APd X Γ k is d l L c xs (so2 (.slice c) ys ls) = (ls.Nodup ∧ l ∉ ls ∧ xs.length + ys.length ≤ 33554432 ∧ VS X is (((Γ.kill (inL l L ls)).new L (.row true false c (xs ++ ys))).put d (.sl L)) k) := (rfl)
theorem APs_ (l L dp) (c : Ki) (xs ys : List c.T) (sh) : APs X Γ k is d l L dp c xs sh (so (.slice c) ys) = (sh = true ∧ xs.length + ys.length ≤ 33554432 ∧ VS X is (((Γ.kill (inL l L [])).new L (.row dp false c (xs ++ ys))).put d (.sl L)) k) := (rfl)
-- ghosts
def GT (t : Nat) (dp : Bool) (kk : Ki) (c : C) (x : Option AV) : Prop := need x fun
    | .nl _ => VC X c (((Γ.kill (fun m => m == [t])).new [t] (.row dp false kk [])).put t (.sl [t])) k
    | _ => False
theorem VC_gt (t dp kk c) : VC X (.gt t dp kk c) Γ k = GT X Γ k t dp kk c (lk Γ.tm t) := (rfl)
theorem GT_ (t dp kk c c') : GT X Γ k t dp kk c (some (.nl c')) = VC X c (((Γ.kill (inL [t] [t] [])).new [t] (.row dp false kk [])).put t (.sl [t])) k := by
  have e : inL [t] [t] [] = fun m => m == [t] := by funext m; simp [inL]
  rw [e]; rfl
def GB3 (l : Lab) (j : Nat) (dp : Bool) (kk : Ki) (c : C) (ls : List AV) (x : Option AV) : Prop := need x fun
        | .nl _ => VC X c (Env.mk Γ.tm ((l ++ [j], .row dp false kk []) :: (l, .box (setAt ls j [.sl (l ++ [j])])) :: Γ.ob)) k
        | _ => False
def GB2 (l : Lab) (j : Nat) (dp : Bool) (kk : Ki) (c : C) (x : Option Ob) : Prop := need x fun
      | .box ls => GB3 X Γ k l j dp kk c ls ls[j]?
      | _ => False
def GB (j : Nat) (dp : Bool) (kk : Ki) (c : C) (x : Option AV) : Prop := need x fun
    | .pt l 0 => GB2 X (Γ.kill (fun m => m == l ++ [j])) k l j dp kk c (lo (Γ.kill (fun m => m == l ++ [j])).ob l)
    | _ => False
theorem VC_gb (t j dp kk c) : VC X (.gb t j dp kk c) Γ k = GB X Γ k j dp kk c (lk Γ.tm t) := (rfl)
theorem GB_ (j dp kk c l) : GB X Γ k j dp kk c (some (.pt l 0)) = GB2 X (Γ.kill (inL (l ++ [j]) (l ++ [j]) [])) k l j dp kk c (lo (Γ.kill (inL (l ++ [j]) (l ++ [j]) [])).ob l) := by
  have e : inL (l ++ [j]) (l ++ [j]) [] = fun m => m == l ++ [j] := by funext m; simp [inL]
  rw [e]; rfl
theorem GB2_ (l j dp kk c ls) : GB2 X Γ k l j dp kk c (some (.box ls)) = GB3 X Γ k l j dp kk c ls ls[j]? := (rfl)
theorem GB3_ (l j dp kk c ls c') : GB3 X Γ k l j dp kk c ls (some (.nl c')) = VC X c (Env.mk Γ.tm ((l ++ [j], .row dp false kk []) :: (l, .box (setAt ls j [.sl (l ++ [j])])) :: Γ.ob)) k := (rfl)
theorem idst_cf (d o xs) : (I.cf d o xs).dst = d := (rfl)
theorem idst_mf (d f xs) : (I.mf d f xs).dst = some d := (rfl)
theorem idst_bs (d p c xs) : (I.bs d p c xs).dst = some d := (rfl)
theorem idst_bd (d n xs) : (I.bd d n xs).dst = some d := (rfl)
theorem idst_an (d p c o x) : (I.an d p c o x).dst = some d := (rfl)
theorem idst_ap (d L p c o x) : (I.ap d L p c o x).dst = some d := (rfl)
end
-- contracts of what takes a function
def con2f (c d : Ki) (f : FuncId) (g : c.T → d.T → RA) : List SA → Option RA
  | [.v c' x, .v d' y, .fn f' []] => if h : c' = c ∧ d' = d ∧ f' = f then some (g (h.1 ▸ x) (h.2.1 ▸ y)) else none
  | _ => none
theorem con2f_ (c d : Ki) (f) (g : c.T → d.T → RA) (x : c.T) (y : d.T) : con2f c d f g [.v c x, .v d y, .fn f []] = some (g x y) := by simp [con2f]
theorem con2f_ok {P : Program} {h : FuncId} {c d : Ki} {f : FuncId} {g : c.T → d.T → RA} (hh : ∀ x y, Sp P h [.v c x, .v d y, .fn f []] (g x y)) : ∀ as r, con2f c d f g as = some r → Sp P h as r := by
  intro as r hr
  unfold con2f at hr
  split at hr
  · split at hr
    · rename_i e; obtain ⟨rfl, rfl, rfl⟩ := e; cases hr; exact hh _ _
    · cases hr
  · cases hr
-- under a condition of the sizes
def con2fp (c d : Ki) (f : FuncId) (q : c.T → d.T → Bool) (g : c.T → d.T → RA) : List SA → Option RA
  | [.v c' x, .v d' y, .fn f' []] => if h : c' = c ∧ d' = d ∧ f' = f then (if q (h.1 ▸ x) (h.2.1 ▸ y) then some (g (h.1 ▸ x) (h.2.1 ▸ y)) else none) else none
  | _ => none
theorem con2fp_ (c d : Ki) (f) (q : c.T → d.T → Bool) (g : c.T → d.T → RA) (x : c.T) (y : d.T) : con2fp c d f q g [.v c x, .v d y, .fn f []] = if q x y then some (g x y) else none := by simp [con2fp]
theorem con2fp_ok {P : Program} {h : FuncId} {c d : Ki} {f : FuncId} {q : c.T → d.T → Bool} {g : c.T → d.T → RA} (hh : ∀ x y, q x y = true → Sp P h [.v c x, .v d y, .fn f []] (g x y)) : ∀ as r, con2fp c d f q g as = some r → Sp P h as r := by
  intro as r hr
  unfold con2fp at hr
  split at hr
  · split at hr
    · rename_i e; obtain ⟨rfl, rfl, rfl⟩ := e
      split at hr
      · rename_i hq; cases hr; exact hh _ _ hq
      · cases hr
    · cases hr
  · cases hr
-- strings and bytes
section
variable (X : Cx) (Γ : Env) (k : Kont) (is : List I) (d : Nat)
theorem BI_quo (kk kk' m n) : BI X d is Γ k .quo (some (.v (.int kk) m)) (some (.v (.int kk') n)) = (kk = kk' ∧ n ≠ 0 ∧ VS X is (Γ.put d (.v (.int kk) (kk.wrap (m.tdiv n)))) k) := (rfl)
theorem BI_rem (kk kk' m n) : BI X d is Γ k .rem (some (.v (.int kk) m)) (some (.v (.int kk') n)) = (kk = kk' ∧ n ≠ 0 ∧ VS X is (Γ.put d (.v (.int kk) (kk.wrap (m.tmod n)))) k) := (rfl)
def CI (kk : IntKind) : Option AV → Prop
  | some (.v (.int _) (n : Int)) => VS X is (Γ.put d (.v (.int kk) (kk.wrap n))) k
  | _ => False
theorem VS_ci (d kk o) : VS X (.ci d kk o :: is) Γ k = CI X Γ k is d kk (ev Γ o) := by
  simp only [VS, vs, vi, CI, need]
  cases ev Γ o with
  | none => rfl
  | some a => cases a with
    | v c x => cases c <;> rfl
    | _ => rfl
theorem CI_ (kk k' n) : CI X Γ k is d kk (some (.v (.int k') n)) = VS X is (Γ.put d (.v (.int kk) (kk.wrap n))) k := (rfl)
def CS2 : Option (List Int) → Prop := fun x => need x fun xs => VS X is (Γ.put d (.v .str (bytesOf xs))) k
def CS (x : Option AV) : Prop := need x fun a => CS2 X Γ k is d (pk Γ.ob (kL (.int .u8)) a)
theorem VS_cs (d o) : VS X (.cs d o :: is) Γ k = CS X Γ k is d (ev Γ o) := (rfl)
theorem CS_ (a) : CS X Γ k is d (some a) = CS2 X Γ k is d (pk Γ.ob (kL (.int .u8)) a) := (rfl)
theorem CS2_ (xs : List Int) : CS2 X Γ k is d (so (.slice (.int .u8)) xs) = VS X is (Γ.put d (.v .str (bytesOf xs))) k := (rfl)
def IX2 (s : Str) : Option AV → Prop
  | some (.v (.int _) (n : Int)) => 0 ≤ n ∧ n < (s.length : Int) ∧ VS X is (Γ.put d (.v (.int .u8) ((s.getD n.toNat 0).toNat : Int))) k
  | _ => False
def IX (i : Option AV) : Option AV → Prop
  | some (.v .str (s : Str)) => IX2 X Γ k is d s i
  | _ => False
theorem VS_ix (d o i) : VS X (.ix d o i :: is) Γ k = IX X Γ k is d (ev Γ i) (ev Γ o) := by
  simp only [VS, vs, vi, IX, IX2, need]
  cases ev Γ o with
  | none => rfl
  | some a =>
    cases a with
    | v c x =>
      cases c with
      | str =>
        cases ev Γ i with
        | none => rfl
        | some b => cases b with
          | v c y => cases c <;> rfl
          | _ => rfl
      | _ => rfl
    | _ => rfl
theorem IX_ (i s) : IX X Γ k is d i (some (.v .str s)) = IX2 X Γ k is d s i := (rfl)
theorem IX2_ (s k' n) : IX2 X Γ k is d s (some (.v (.int k') n)) = (0 ≤ n ∧ n < (s.length : Int) ∧ VS X is (Γ.put d (.v (.int .u8) ((s.getD n.toNat 0).toNat : Int))) k) := (rfl)
def evoC : Option AV → Option Int
  | some (.v (.int _) (n : Int)) => some n
  | _ => none
theorem evo_none (z) : evo Γ none z = some z := (rfl)
theorem evo_some (o z) : evo Γ (some o) z = evoC (ev Γ o) := by
  simp only [evo, evoC]
  cases ev Γ o with
  | none => rfl
  | some a => cases a with
    | v c x => cases c <;> rfl
    | _ => rfl
theorem evoC_ (k' n) : evoC (some (.v (.int k') n)) = some n := (rfl)
def SX2 (s : Str) (x y : Option Int) : Prop := need x fun i => need y fun j => 0 ≤ i ∧ i ≤ j ∧ j ≤ (s.length : Int) ∧ VS X is (Γ.put d (.v .str ((List.take j.toNat s).drop i.toNat))) k
def SX (lo hi : Option O) : Option AV → Prop
  | some (.v .str (s : Str)) => SX2 X Γ k is d s (evo Γ lo 0) (evo Γ hi s.length)
  | _ => False
theorem VS_sx (d o lo hi) : VS X (.sx d o lo hi :: is) Γ k = SX X Γ k is d lo hi (ev Γ o) := by
  simp only [VS, vs, vi, SX, SX2, need]
  cases ev Γ o with
  | none => rfl
  | some a =>
    cases a with
    | v c x => cases c <;> rfl
    | _ => rfl
theorem SX_ (lo hi s) : SX X Γ k is d lo hi (some (.v .str s)) = SX2 X Γ k is d s (evo Γ lo 0) (evo Γ hi s.length) := (rfl)
theorem SX2_ (s : Str) (i j) : SX2 X Γ k is d s (some i) (some j) = (0 ≤ i ∧ i ≤ j ∧ j ≤ (s.length : Int) ∧ VS X is (Γ.put d (.v .str ((List.take j.toNat s).drop i.toNat))) k) := (rfl)
def SA2 (l L : Lab) (xs : List Int) : Option AV → Prop
  | some (.v .str (s : Str)) => xs.length + s.length ≤ 33554432 ∧ VS X is (((Γ.kill (inL l L [])).new L (.row true false (.int .u8) (xs ++ intsOf s))).put d (.sl L)) k
  | _ => False
def SAo (l L : Lab) (y : Option AV) : Option Ob → Prop
  | some (.row true false c' xs) => need (Ob.as (.int .u8) (.row true false c' xs)) fun (xs : List Int) => SA2 X Γ k is d l L xs y
  | _ => False
def SAp (L : Lab) (y : Option AV) : Option AV → Prop
  | some (.sl l) => SAo X Γ k is d l L y (lo Γ.ob l)
  | _ => False
theorem inL_two (l L : Lab) : inL l L [] = fun m => m == l || m == L := by
  funext m
  simp [inL]
theorem VS_sa (d L o x) : VS X (.sa d L o x :: is) Γ k = SAp X Γ k is d L (ev Γ x) (ev Γ o) := by
  simp only [VS, vs, vi, SAp, SAo, SA2, need, inL_two]
  cases ev Γ o with
  | none => rfl
  | some a =>
    cases a with
    | sl l =>
      cases hq : lo Γ.ob l with
      | none => simp only [hq]
      | some q =>
        cases q with
        | box ls => simp only [hq]
        | row dp pn c' xs =>
          cases dp <;> cases pn <;> simp only [hq]
          cases Ob.as (.int .u8) (.row true false c' xs) with
          | none => rfl
          | some xs =>
            cases ev Γ x with
            | none => rfl
            | some b =>
              cases b with
              | v c y => cases c <;> rfl
              | _ => rfl
    | _ => rfl
theorem SAp_ (L y l) : SAp X Γ k is d L y (some (.sl l)) = SAo X Γ k is d l L y (lo Γ.ob l) := (rfl)
theorem SAo_ (l L y) (xs : List Int) : SAo X Γ k is d l L y (some (.row true false (.int .u8) xs)) = SA2 X Γ k is d l L xs y := (rfl)
theorem SA2_ (l L) (xs : List Int) (s) : SA2 X Γ k is d l L xs (some (.v .str s)) = (xs.length + s.length ≤ 33554432 ∧ VS X is (((Γ.kill (inL l L [])).new L (.row true false (.int .u8) (xs ++ intsOf s))).put d (.sl L)) k) := (rfl)
theorem idst_ci (d kk o) : (I.ci d kk o).dst = some d := (rfl)
theorem idst_cs (d o) : (I.cs d o).dst = some d := (rfl)
theorem idst_ix (d o i) : (I.ix d o i).dst = some d := (rfl)
theorem idst_sx (d o i j) : (I.sx d o i j).dst = some d := (rfl)
theorem idst_sa (d L o i) : (I.sa d L o i).dst = some d := (rfl)
end
attribute [go_sem] BI_quo BI_rem VS_ci CI_ VS_cs CS_ CS2_ VS_ix IX_ IX2_ evo_none evo_some evoC_ VS_sx SX_ SX2_ VS_sa SAp_ SAo_ SA2_ idst_ci idst_cs idst_ix idst_sx idst_sa beqL_nn beqL_cn beqL_nc beqL_cc geB_t geB_f VS_ge GE_ GE2_ idst_ge List.nodup_nil List.nodup_cons List.not_mem_nil List.mem_cons Bool.true_and Bool.and_true Bool.or_true Bool.true_or Bool.or_false Bool.false_or Bool.not_true Bool.not_false Bool.and_self beq_self_eq_true not_false_eq_true true_and and_true or_false false_or List.cons.injEq and_false false_and List.nil_append List.append_nil pre_nil pre_cons hds_nil hds_cons fnO_ fnP_ capS_nil capS_int capS_bool capS_str capS_slice capS_ptr capC_ capA_nil capA_cons capV_nil capV_cons co_fn coF_ VS_cf CF_ evs_nil evs_cons evC_ okL_nil okL_cons VS_mf MF_ pks_nil pks_cons pkC_ VS_bs0 VS_bs BS_ BS2_ evp_nil evp_cons epC_ epD_ VS_bd BD_ fillA_nil fillA_cons shr_v shr_nl shr_sl shO_ nref_int nref_bool nref_str nref_slice nref_ptr nref_0 nref_1 nref_2 nref_3 nref_4 nref_5 nref_6 nref_7 nref_8 nref_9 nref_10 nref_11 nref_12 nref_13 nref_14 nref_15 nref_16 nref_17 VS_an AN_ AN2_ inL_nil inL_cons VS_ap AP_ APo_t APo_f APd_ APs_ VC_gt GT_ VC_gb GB_ GB2_ GB3_ idst_cf idst_mf idst_bs idst_bd idst_an idst_ap con2f_ con2fp_
end Go.Q

/- Structs out of their cells. -/
set_option linter.unusedVariables false
set_option linter.unusedSimpArgs false
namespace Go.Q
theorem im_nil (ob f ls) : im ob (f + 1) [] ls = some ((), ls) := (rfl)
theorem im_int (ob f kk cs a ls) : im ob (f + 1) (.int kk :: cs) (a :: ls) = (pkL ob (.int kk) a).bind fun x => (im ob f cs ls).map fun q => ((x, q.1), q.2) := (rfl)
theorem im_str (ob f cs a ls) : im ob (f + 1) (.str :: cs) (a :: ls) = (pkL ob .str a).bind fun x => (im ob f cs ls).map fun q => ((x, q.1), q.2) := (rfl)
theorem im_slice (ob f c cs a ls) : im ob (f + 1) (.slice c :: cs) (a :: ls) = (pkL ob (.slice c) a).bind fun x => (im ob f cs ls).map fun q => ((x, q.1), q.2) := (rfl)
theorem im_struct (ob f n cs ls) : im ob (f + 1) (.struct n :: cs) ls = (im ob f (flds n) ls).bind fun r => (im ob f cs r.2).map fun q => ((mk n r.1, q.1), q.2) := (rfl)
theorem ims_0 (ob f cs ls) : im ob (f + 1) (.struct 0 :: cs) ls = (im ob f [kI, (kL kS), (kL (kR 0))] ls).bind fun (r : (Int × (List Str) × (List Ty) × Unit) × List AV) => (im ob f cs r.2).map fun q => ((mk 0 r.1, q.1), q.2) := (rfl)
theorem ims_1 (ob f cs ls) : im ob (f + 1) (.struct 1 :: cs) ls = (im ob f [kI, kI, (kL kS), (kL (kR 1))] ls).bind fun (r : (Int × Int × (List Str) × (List Val) × Unit) × List AV) => (im ob f cs r.2).map fun q => ((mk 1 r.1, q.1), q.2) := (rfl)
theorem ims_2 (ob f cs ls) : im ob (f + 1) (.struct 2 :: cs) ls = (im ob f [kI, kS, kI, (kR 0), (kL kS), (kL (kR 2))] ls).bind fun (r : (Int × Str × Int × Ty × (List Str) × (List Tm) × Unit) × List AV) => (im ob f cs r.2).map fun q => ((mk 2 r.1, q.1), q.2) := (rfl)
theorem ims_3 (ob f cs ls) : im ob (f + 1) (.struct 3 :: cs) ls = (im ob f [kS, kS] ls).bind fun (r : (Str × Str × Unit) × List AV) => (im ob f cs r.2).map fun q => ((mk 3 r.1, q.1), q.2) := (rfl)
theorem ims_4 (ob f cs ls) : im ob (f + 1) (.struct 4 :: cs) ls = (im ob f [kS, (kR 0)] ls).bind fun (r : (Str × Ty × Unit) × List AV) => (im ob f cs r.2).map fun q => ((mk 4 r.1, q.1), q.2) := (rfl)
theorem ims_5 (ob f cs ls) : im ob (f + 1) (.struct 5 :: cs) ls = (im ob f [(kL (kR 4))] ls).bind fun (r : ((List TDecl) × Unit) × List AV) => (im ob f cs r.2).map fun q => ((mk 5 r.1, q.1), q.2) := (rfl)
theorem ims_6 (ob f cs ls) : im ob (f + 1) (.struct 6 :: cs) ls = (im ob f [kS, (kL (kR 1))] ls).bind fun (r : (Str × (List Val) × Unit) × List AV) => (im ob f cs r.2).map fun q => ((mk 6 r.1, q.1), q.2) := (rfl)
theorem ims_7 (ob f cs ls) : im ob (f + 1) (.struct 7 :: cs) ls = (im ob f [(kL (kR 6))] ls).bind fun (r : ((List TData) × Unit) × List AV) => (im ob f cs r.2).map fun q => ((mk 7 r.1, q.1), q.2) := (rfl)
theorem ims_8 (ob f cs ls) : im ob (f + 1) (.struct 8 :: cs) ls = (im ob f [kS, (kR 0)] ls).bind fun (r : (Str × Ty × Unit) × List AV) => (im ob f cs r.2).map fun q => ((mk 8 r.1, q.1), q.2) := (rfl)
theorem ims_9 (ob f cs ls) : im ob (f + 1) (.struct 9 :: cs) ls = (im ob f [kI, (kR 2), (kL kS), (kL (kR 9)), (kR 11)] ls).bind fun (r : (Int × Tm × (List Str) × (List Head) × Query × Unit) × List AV) => (im ob f cs r.2).map fun q => ((mk 9 r.1, q.1), q.2) := (rfl)
theorem ims_10 (ob f cs ls) : im ob (f + 1) (.struct 10 :: cs) ls = (im ob f [(kL (kR 3)), (kR 2), (kR 9)] ls).bind fun (r : ((List Gen) × Tm × Head × Unit) × List AV) => (im ob f cs r.2).map fun q => ((mk 10 r.1, q.1), q.2) := (rfl)
theorem ims_11 (ob f cs ls) : im ob (f + 1) (.struct 11 :: cs) ls = (im ob f [(kL (kR 10))] ls).bind fun (r : ((List Comp) × Unit) × List AV) => (im ob f cs r.2).map fun q => ((mk 11 r.1, q.1), q.2) := (rfl)
theorem ims_12 (ob f cs ls) : im ob (f + 1) (.struct 12 :: cs) ls = (im ob f [kI, kI, kI, (kL (kR 3)), (kR 2), (kL (kR 2))] ls).bind fun (r : (Int × Int × Int × (List Gen) × Tm × (List Tm) × Unit) × List AV) => (im ob f cs r.2).map fun q => ((mk 12 r.1, q.1), q.2) := (rfl)
theorem ims_13 (ob f cs ls) : im ob (f + 1) (.struct 13 :: cs) ls = (im ob f [(kL kS), (kL (kR 12))] ls).bind fun (r : ((List Str) × (List FComp) × Unit) × List AV) => (im ob f cs r.2).map fun q => ((mk 13 r.1, q.1), q.2) := (rfl)
theorem ims_14 (ob f cs ls) : im ob (f + 1) (.struct 14 :: cs) ls = (im ob f [kI, (kL kI)] ls).bind fun (r : (Int × (List Int) × Unit) × List AV) => (im ob f cs r.2).map fun q => ((mk 14 r.1, q.1), q.2) := (rfl)
theorem ims_15 (ob f cs ls) : im ob (f + 1) (.struct 15 :: cs) ls = (im ob f [(kR 14), (kR 14), (kL (kR 1))] ls).bind fun (r : (Key × Key × (List Val) × Unit) × List AV) => (im ob f cs r.2).map fun q => ((mk 15 r.1, q.1), q.2) := (rfl)
theorem ims_16 (ob f cs ls) : im ob (f + 1) (.struct 16 :: cs) ls = (im ob f [kI, kI, (kL (kR 1))] ls).bind fun (r : (Int × Int × (List Val) × Unit) × List AV) => (im ob f cs r.2).map fun q => ((mk 16 r.1, q.1), q.2) := (rfl)
theorem ims_17 (ob f cs ls) : im ob (f + 1) (.struct 17 :: cs) ls = (im ob f [kI, kS, kS, (kR 2), (kL (kR 2)), (kL (kR 17))] ls).bind fun (r : (Int × Str × Str × Tm × (List Tm) × (List Plan) × Unit) × List AV) => (im ob f cs r.2).map fun q => ((mk 17 r.1, q.1), q.2) := (rfl)
def pm_0 (o0 : Option (Ki.T kI)) (o1 : Option (Ki.T (kL kS))) (o2 : Option (Ki.T (kL (kR 0)))) : Option (Ki.T (kR 0)) := o0.bind fun (x0 : Int) => o1.bind fun (x1 : (List Str)) => o2.bind fun (x2 : (List Ty)) => some ((Ty.mk x0 x1 x2) : Ty)
theorem pms_0 (x0 : Int) (x1 : (List Str)) (x2 : (List Ty)) : pm_0 (so kI x0) (so (kL kS) x1) (so (kL (kR 0)) x2) = so (kR 0) ((Ty.mk x0 x1 x2) : Ty) := (rfl)
theorem agg_0 (ob) (a0 a1 a2 : AV) : pk ob (.struct 0) (.ag 0 [a0, a1, a2]) = pm_0 (pkL ob kI a0) (pkL ob (kL kS) a1) (pkL ob (kL (kR 0)) a2) := by
  show ((im ob 99 [kI, (kL kS), (kL (kR 0))] [a0, a1, a2]).bind fun (r : (Int × (List Str) × (List Ty) × Unit) × List AV) => if r.2.isEmpty then some (mk 0 r.1) else none) = _
  simp only [im_nil, im_int, im_str, im_slice, ims_0, ims_1, ims_2, ims_3, ims_4, ims_5, ims_6, ims_7, ims_8, ims_9, ims_10, ims_11, ims_12, ims_13, ims_14, ims_15, ims_16, ims_17, pm_0]
  generalize pkL ob kI a0 = o0
  cases o0 with
  | none => rfl
  | some x0 =>
  simp only [Option.bind_some, Option.map_some, im_nil, im_int, im_str, im_slice, ims_0, ims_1, ims_2, ims_3, ims_4, ims_5, ims_6, ims_7, ims_8, ims_9, ims_10, ims_11, ims_12, ims_13, ims_14, ims_15, ims_16, ims_17]
  generalize pkL ob (kL kS) a1 = o1
  cases o1 with
  | none => rfl
  | some x1 =>
  simp only [Option.bind_some, Option.map_some, im_nil, im_int, im_str, im_slice, ims_0, ims_1, ims_2, ims_3, ims_4, ims_5, ims_6, ims_7, ims_8, ims_9, ims_10, ims_11, ims_12, ims_13, ims_14, ims_15, ims_16, ims_17]
  generalize pkL ob (kL (kR 0)) a2 = o2
  cases o2 with
  | none => rfl
  | some x2 =>
  simp only [Option.bind_some, Option.map_some, im_nil, im_int, im_str, im_slice, ims_0, ims_1, ims_2, ims_3, ims_4, ims_5, ims_6, ims_7, ims_8, ims_9, ims_10, ims_11, ims_12, ims_13, ims_14, ims_15, ims_16, ims_17]
  rfl
def pm_1 (o0 : Option (Ki.T kI)) (o1 : Option (Ki.T kI)) (o2 : Option (Ki.T (kL kS))) (o3 : Option (Ki.T (kL (kR 1)))) : Option (Ki.T (kR 1)) := o0.bind fun (x0 : Int) => o1.bind fun (x1 : Int) => o2.bind fun (x2 : (List Str)) => o3.bind fun (x3 : (List Val)) => some ((Val.mk x0 x1 x2 x3) : Val)
theorem pms_1 (x0 : Int) (x1 : Int) (x2 : (List Str)) (x3 : (List Val)) : pm_1 (so kI x0) (so kI x1) (so (kL kS) x2) (so (kL (kR 1)) x3) = so (kR 1) ((Val.mk x0 x1 x2 x3) : Val) := (rfl)
theorem agg_1 (ob) (a0 a1 a2 a3 : AV) : pk ob (.struct 1) (.ag 1 [a0, a1, a2, a3]) = pm_1 (pkL ob kI a0) (pkL ob kI a1) (pkL ob (kL kS) a2) (pkL ob (kL (kR 1)) a3) := by
  show ((im ob 99 [kI, kI, (kL kS), (kL (kR 1))] [a0, a1, a2, a3]).bind fun (r : (Int × Int × (List Str) × (List Val) × Unit) × List AV) => if r.2.isEmpty then some (mk 1 r.1) else none) = _
  simp only [im_nil, im_int, im_str, im_slice, ims_0, ims_1, ims_2, ims_3, ims_4, ims_5, ims_6, ims_7, ims_8, ims_9, ims_10, ims_11, ims_12, ims_13, ims_14, ims_15, ims_16, ims_17, pm_1]
  generalize pkL ob kI a0 = o0
  cases o0 with
  | none => rfl
  | some x0 =>
  simp only [Option.bind_some, Option.map_some, im_nil, im_int, im_str, im_slice, ims_0, ims_1, ims_2, ims_3, ims_4, ims_5, ims_6, ims_7, ims_8, ims_9, ims_10, ims_11, ims_12, ims_13, ims_14, ims_15, ims_16, ims_17]
  generalize pkL ob kI a1 = o1
  cases o1 with
  | none => rfl
  | some x1 =>
  simp only [Option.bind_some, Option.map_some, im_nil, im_int, im_str, im_slice, ims_0, ims_1, ims_2, ims_3, ims_4, ims_5, ims_6, ims_7, ims_8, ims_9, ims_10, ims_11, ims_12, ims_13, ims_14, ims_15, ims_16, ims_17]
  generalize pkL ob (kL kS) a2 = o2
  cases o2 with
  | none => rfl
  | some x2 =>
  simp only [Option.bind_some, Option.map_some, im_nil, im_int, im_str, im_slice, ims_0, ims_1, ims_2, ims_3, ims_4, ims_5, ims_6, ims_7, ims_8, ims_9, ims_10, ims_11, ims_12, ims_13, ims_14, ims_15, ims_16, ims_17]
  generalize pkL ob (kL (kR 1)) a3 = o3
  cases o3 with
  | none => rfl
  | some x3 =>
  simp only [Option.bind_some, Option.map_some, im_nil, im_int, im_str, im_slice, ims_0, ims_1, ims_2, ims_3, ims_4, ims_5, ims_6, ims_7, ims_8, ims_9, ims_10, ims_11, ims_12, ims_13, ims_14, ims_15, ims_16, ims_17]
  rfl
def pm_2 (o0 : Option (Ki.T kI)) (o1 : Option (Ki.T kS)) (o2 : Option (Ki.T kI)) (o3 : Option (Ki.T kI)) (o4 : Option (Ki.T (kL kS))) (o5 : Option (Ki.T (kL (kR 0)))) (o6 : Option (Ki.T (kL kS))) (o7 : Option (Ki.T (kL (kR 2)))) : Option (Ki.T (kR 2)) := o0.bind fun (x0 : Int) => o1.bind fun (x1 : Str) => o2.bind fun (x2 : Int) => o3.bind fun (x3 : Int) => o4.bind fun (x4 : (List Str)) => o5.bind fun (x5 : (List Ty)) => o6.bind fun (x6 : (List Str)) => o7.bind fun (x7 : (List Tm)) => some ((Tm.mk x0 x1 x2 (Ty.mk x3 x4 x5) x6 x7) : Tm)
theorem pms_2 (x0 : Int) (x1 : Str) (x2 : Int) (x3 : Int) (x4 : (List Str)) (x5 : (List Ty)) (x6 : (List Str)) (x7 : (List Tm)) : pm_2 (so kI x0) (so kS x1) (so kI x2) (so kI x3) (so (kL kS) x4) (so (kL (kR 0)) x5) (so (kL kS) x6) (so (kL (kR 2)) x7) = so (kR 2) ((Tm.mk x0 x1 x2 (Ty.mk x3 x4 x5) x6 x7) : Tm) := (rfl)
theorem agg_2 (ob) (a0 a1 a2 a3 a4 a5 a6 a7 : AV) : pk ob (.struct 2) (.ag 2 [a0, a1, a2, a3, a4, a5, a6, a7]) = pm_2 (pkL ob kI a0) (pkL ob kS a1) (pkL ob kI a2) (pkL ob kI a3) (pkL ob (kL kS) a4) (pkL ob (kL (kR 0)) a5) (pkL ob (kL kS) a6) (pkL ob (kL (kR 2)) a7) := by
  show ((im ob 99 [kI, kS, kI, (kR 0), (kL kS), (kL (kR 2))] [a0, a1, a2, a3, a4, a5, a6, a7]).bind fun (r : (Int × Str × Int × Ty × (List Str) × (List Tm) × Unit) × List AV) => if r.2.isEmpty then some (mk 2 r.1) else none) = _
  simp only [im_nil, im_int, im_str, im_slice, ims_0, ims_1, ims_2, ims_3, ims_4, ims_5, ims_6, ims_7, ims_8, ims_9, ims_10, ims_11, ims_12, ims_13, ims_14, ims_15, ims_16, ims_17, pm_2]
  generalize pkL ob kI a0 = o0
  cases o0 with
  | none => rfl
  | some x0 =>
  simp only [Option.bind_some, Option.map_some, im_nil, im_int, im_str, im_slice, ims_0, ims_1, ims_2, ims_3, ims_4, ims_5, ims_6, ims_7, ims_8, ims_9, ims_10, ims_11, ims_12, ims_13, ims_14, ims_15, ims_16, ims_17]
  generalize pkL ob kS a1 = o1
  cases o1 with
  | none => rfl
  | some x1 =>
  simp only [Option.bind_some, Option.map_some, im_nil, im_int, im_str, im_slice, ims_0, ims_1, ims_2, ims_3, ims_4, ims_5, ims_6, ims_7, ims_8, ims_9, ims_10, ims_11, ims_12, ims_13, ims_14, ims_15, ims_16, ims_17]
  generalize pkL ob kI a2 = o2
  cases o2 with
  | none => rfl
  | some x2 =>
  simp only [Option.bind_some, Option.map_some, im_nil, im_int, im_str, im_slice, ims_0, ims_1, ims_2, ims_3, ims_4, ims_5, ims_6, ims_7, ims_8, ims_9, ims_10, ims_11, ims_12, ims_13, ims_14, ims_15, ims_16, ims_17]
  generalize pkL ob kI a3 = o3
  cases o3 with
  | none => rfl
  | some x3 =>
  simp only [Option.bind_some, Option.map_some, im_nil, im_int, im_str, im_slice, ims_0, ims_1, ims_2, ims_3, ims_4, ims_5, ims_6, ims_7, ims_8, ims_9, ims_10, ims_11, ims_12, ims_13, ims_14, ims_15, ims_16, ims_17]
  generalize pkL ob (kL kS) a4 = o4
  cases o4 with
  | none => rfl
  | some x4 =>
  simp only [Option.bind_some, Option.map_some, im_nil, im_int, im_str, im_slice, ims_0, ims_1, ims_2, ims_3, ims_4, ims_5, ims_6, ims_7, ims_8, ims_9, ims_10, ims_11, ims_12, ims_13, ims_14, ims_15, ims_16, ims_17]
  generalize pkL ob (kL (kR 0)) a5 = o5
  cases o5 with
  | none => rfl
  | some x5 =>
  simp only [Option.bind_some, Option.map_some, im_nil, im_int, im_str, im_slice, ims_0, ims_1, ims_2, ims_3, ims_4, ims_5, ims_6, ims_7, ims_8, ims_9, ims_10, ims_11, ims_12, ims_13, ims_14, ims_15, ims_16, ims_17]
  generalize pkL ob (kL kS) a6 = o6
  cases o6 with
  | none => rfl
  | some x6 =>
  simp only [Option.bind_some, Option.map_some, im_nil, im_int, im_str, im_slice, ims_0, ims_1, ims_2, ims_3, ims_4, ims_5, ims_6, ims_7, ims_8, ims_9, ims_10, ims_11, ims_12, ims_13, ims_14, ims_15, ims_16, ims_17]
  generalize pkL ob (kL (kR 2)) a7 = o7
  cases o7 with
  | none => rfl
  | some x7 =>
  simp only [Option.bind_some, Option.map_some, im_nil, im_int, im_str, im_slice, ims_0, ims_1, ims_2, ims_3, ims_4, ims_5, ims_6, ims_7, ims_8, ims_9, ims_10, ims_11, ims_12, ims_13, ims_14, ims_15, ims_16, ims_17]
  rfl
def pm_3 (o0 : Option (Ki.T kS)) (o1 : Option (Ki.T kS)) : Option (Ki.T (kR 3)) := o0.bind fun (x0 : Str) => o1.bind fun (x1 : Str) => some ((Gen.mk x0 x1) : Gen)
theorem pms_3 (x0 : Str) (x1 : Str) : pm_3 (so kS x0) (so kS x1) = so (kR 3) ((Gen.mk x0 x1) : Gen) := (rfl)
theorem agg_3 (ob) (a0 a1 : AV) : pk ob (.struct 3) (.ag 3 [a0, a1]) = pm_3 (pkL ob kS a0) (pkL ob kS a1) := by
  show ((im ob 99 [kS, kS] [a0, a1]).bind fun (r : (Str × Str × Unit) × List AV) => if r.2.isEmpty then some (mk 3 r.1) else none) = _
  simp only [im_nil, im_int, im_str, im_slice, ims_0, ims_1, ims_2, ims_3, ims_4, ims_5, ims_6, ims_7, ims_8, ims_9, ims_10, ims_11, ims_12, ims_13, ims_14, ims_15, ims_16, ims_17, pm_3]
  generalize pkL ob kS a0 = o0
  cases o0 with
  | none => rfl
  | some x0 =>
  simp only [Option.bind_some, Option.map_some, im_nil, im_int, im_str, im_slice, ims_0, ims_1, ims_2, ims_3, ims_4, ims_5, ims_6, ims_7, ims_8, ims_9, ims_10, ims_11, ims_12, ims_13, ims_14, ims_15, ims_16, ims_17]
  generalize pkL ob kS a1 = o1
  cases o1 with
  | none => rfl
  | some x1 =>
  simp only [Option.bind_some, Option.map_some, im_nil, im_int, im_str, im_slice, ims_0, ims_1, ims_2, ims_3, ims_4, ims_5, ims_6, ims_7, ims_8, ims_9, ims_10, ims_11, ims_12, ims_13, ims_14, ims_15, ims_16, ims_17]
  rfl
def pm_4 (o0 : Option (Ki.T kS)) (o1 : Option (Ki.T kI)) (o2 : Option (Ki.T (kL kS))) (o3 : Option (Ki.T (kL (kR 0)))) : Option (Ki.T (kR 4)) := o0.bind fun (x0 : Str) => o1.bind fun (x1 : Int) => o2.bind fun (x2 : (List Str)) => o3.bind fun (x3 : (List Ty)) => some ((TDecl.mk x0 (Ty.mk x1 x2 x3)) : TDecl)
theorem pms_4 (x0 : Str) (x1 : Int) (x2 : (List Str)) (x3 : (List Ty)) : pm_4 (so kS x0) (so kI x1) (so (kL kS) x2) (so (kL (kR 0)) x3) = so (kR 4) ((TDecl.mk x0 (Ty.mk x1 x2 x3)) : TDecl) := (rfl)
theorem agg_4 (ob) (a0 a1 a2 a3 : AV) : pk ob (.struct 4) (.ag 4 [a0, a1, a2, a3]) = pm_4 (pkL ob kS a0) (pkL ob kI a1) (pkL ob (kL kS) a2) (pkL ob (kL (kR 0)) a3) := by
  show ((im ob 99 [kS, (kR 0)] [a0, a1, a2, a3]).bind fun (r : (Str × Ty × Unit) × List AV) => if r.2.isEmpty then some (mk 4 r.1) else none) = _
  simp only [im_nil, im_int, im_str, im_slice, ims_0, ims_1, ims_2, ims_3, ims_4, ims_5, ims_6, ims_7, ims_8, ims_9, ims_10, ims_11, ims_12, ims_13, ims_14, ims_15, ims_16, ims_17, pm_4]
  generalize pkL ob kS a0 = o0
  cases o0 with
  | none => rfl
  | some x0 =>
  simp only [Option.bind_some, Option.map_some, im_nil, im_int, im_str, im_slice, ims_0, ims_1, ims_2, ims_3, ims_4, ims_5, ims_6, ims_7, ims_8, ims_9, ims_10, ims_11, ims_12, ims_13, ims_14, ims_15, ims_16, ims_17]
  generalize pkL ob kI a1 = o1
  cases o1 with
  | none => rfl
  | some x1 =>
  simp only [Option.bind_some, Option.map_some, im_nil, im_int, im_str, im_slice, ims_0, ims_1, ims_2, ims_3, ims_4, ims_5, ims_6, ims_7, ims_8, ims_9, ims_10, ims_11, ims_12, ims_13, ims_14, ims_15, ims_16, ims_17]
  generalize pkL ob (kL kS) a2 = o2
  cases o2 with
  | none => rfl
  | some x2 =>
  simp only [Option.bind_some, Option.map_some, im_nil, im_int, im_str, im_slice, ims_0, ims_1, ims_2, ims_3, ims_4, ims_5, ims_6, ims_7, ims_8, ims_9, ims_10, ims_11, ims_12, ims_13, ims_14, ims_15, ims_16, ims_17]
  generalize pkL ob (kL (kR 0)) a3 = o3
  cases o3 with
  | none => rfl
  | some x3 =>
  simp only [Option.bind_some, Option.map_some, im_nil, im_int, im_str, im_slice, ims_0, ims_1, ims_2, ims_3, ims_4, ims_5, ims_6, ims_7, ims_8, ims_9, ims_10, ims_11, ims_12, ims_13, ims_14, ims_15, ims_16, ims_17]
  rfl
def pm_5 (o0 : Option (Ki.T (kL (kR 4)))) : Option (Ki.T (kR 5)) := o0.bind fun (x0 : (List TDecl)) => some ((Schema.mk x0) : Schema)
theorem pms_5 (x0 : (List TDecl)) : pm_5 (so (kL (kR 4)) x0) = so (kR 5) ((Schema.mk x0) : Schema) := (rfl)
theorem agg_5 (ob) (a0 : AV) : pk ob (.struct 5) (.ag 5 [a0]) = pm_5 (pkL ob (kL (kR 4)) a0) := by
  show ((im ob 99 [(kL (kR 4))] [a0]).bind fun (r : ((List TDecl) × Unit) × List AV) => if r.2.isEmpty then some (mk 5 r.1) else none) = _
  simp only [im_nil, im_int, im_str, im_slice, ims_0, ims_1, ims_2, ims_3, ims_4, ims_5, ims_6, ims_7, ims_8, ims_9, ims_10, ims_11, ims_12, ims_13, ims_14, ims_15, ims_16, ims_17, pm_5]
  generalize pkL ob (kL (kR 4)) a0 = o0
  cases o0 with
  | none => rfl
  | some x0 =>
  simp only [Option.bind_some, Option.map_some, im_nil, im_int, im_str, im_slice, ims_0, ims_1, ims_2, ims_3, ims_4, ims_5, ims_6, ims_7, ims_8, ims_9, ims_10, ims_11, ims_12, ims_13, ims_14, ims_15, ims_16, ims_17]
  rfl
def pm_6 (o0 : Option (Ki.T kS)) (o1 : Option (Ki.T (kL (kR 1)))) : Option (Ki.T (kR 6)) := o0.bind fun (x0 : Str) => o1.bind fun (x1 : (List Val)) => some ((TData.mk x0 x1) : TData)
theorem pms_6 (x0 : Str) (x1 : (List Val)) : pm_6 (so kS x0) (so (kL (kR 1)) x1) = so (kR 6) ((TData.mk x0 x1) : TData) := (rfl)
theorem agg_6 (ob) (a0 a1 : AV) : pk ob (.struct 6) (.ag 6 [a0, a1]) = pm_6 (pkL ob kS a0) (pkL ob (kL (kR 1)) a1) := by
  show ((im ob 99 [kS, (kL (kR 1))] [a0, a1]).bind fun (r : (Str × (List Val) × Unit) × List AV) => if r.2.isEmpty then some (mk 6 r.1) else none) = _
  simp only [im_nil, im_int, im_str, im_slice, ims_0, ims_1, ims_2, ims_3, ims_4, ims_5, ims_6, ims_7, ims_8, ims_9, ims_10, ims_11, ims_12, ims_13, ims_14, ims_15, ims_16, ims_17, pm_6]
  generalize pkL ob kS a0 = o0
  cases o0 with
  | none => rfl
  | some x0 =>
  simp only [Option.bind_some, Option.map_some, im_nil, im_int, im_str, im_slice, ims_0, ims_1, ims_2, ims_3, ims_4, ims_5, ims_6, ims_7, ims_8, ims_9, ims_10, ims_11, ims_12, ims_13, ims_14, ims_15, ims_16, ims_17]
  generalize pkL ob (kL (kR 1)) a1 = o1
  cases o1 with
  | none => rfl
  | some x1 =>
  simp only [Option.bind_some, Option.map_some, im_nil, im_int, im_str, im_slice, ims_0, ims_1, ims_2, ims_3, ims_4, ims_5, ims_6, ims_7, ims_8, ims_9, ims_10, ims_11, ims_12, ims_13, ims_14, ims_15, ims_16, ims_17]
  rfl
def pm_7 (o0 : Option (Ki.T (kL (kR 6)))) : Option (Ki.T (kR 7)) := o0.bind fun (x0 : (List TData)) => some ((DBase.mk x0) : DBase)
theorem pms_7 (x0 : (List TData)) : pm_7 (so (kL (kR 6)) x0) = so (kR 7) ((DBase.mk x0) : DBase) := (rfl)
theorem agg_7 (ob) (a0 : AV) : pk ob (.struct 7) (.ag 7 [a0]) = pm_7 (pkL ob (kL (kR 6)) a0) := by
  show ((im ob 99 [(kL (kR 6))] [a0]).bind fun (r : ((List TData) × Unit) × List AV) => if r.2.isEmpty then some (mk 7 r.1) else none) = _
  simp only [im_nil, im_int, im_str, im_slice, ims_0, ims_1, ims_2, ims_3, ims_4, ims_5, ims_6, ims_7, ims_8, ims_9, ims_10, ims_11, ims_12, ims_13, ims_14, ims_15, ims_16, ims_17, pm_7]
  generalize pkL ob (kL (kR 6)) a0 = o0
  cases o0 with
  | none => rfl
  | some x0 =>
  simp only [Option.bind_some, Option.map_some, im_nil, im_int, im_str, im_slice, ims_0, ims_1, ims_2, ims_3, ims_4, ims_5, ims_6, ims_7, ims_8, ims_9, ims_10, ims_11, ims_12, ims_13, ims_14, ims_15, ims_16, ims_17]
  rfl
def pm_8 (o0 : Option (Ki.T kS)) (o1 : Option (Ki.T kI)) (o2 : Option (Ki.T (kL kS))) (o3 : Option (Ki.T (kL (kR 0)))) : Option (Ki.T (kR 8)) := o0.bind fun (x0 : Str) => o1.bind fun (x1 : Int) => o2.bind fun (x2 : (List Str)) => o3.bind fun (x3 : (List Ty)) => some ((Typing.mk x0 (Ty.mk x1 x2 x3)) : Typing)
theorem pms_8 (x0 : Str) (x1 : Int) (x2 : (List Str)) (x3 : (List Ty)) : pm_8 (so kS x0) (so kI x1) (so (kL kS) x2) (so (kL (kR 0)) x3) = so (kR 8) ((Typing.mk x0 (Ty.mk x1 x2 x3)) : Typing) := (rfl)
theorem agg_8 (ob) (a0 a1 a2 a3 : AV) : pk ob (.struct 8) (.ag 8 [a0, a1, a2, a3]) = pm_8 (pkL ob kS a0) (pkL ob kI a1) (pkL ob (kL kS) a2) (pkL ob (kL (kR 0)) a3) := by
  show ((im ob 99 [kS, (kR 0)] [a0, a1, a2, a3]).bind fun (r : (Str × Ty × Unit) × List AV) => if r.2.isEmpty then some (mk 8 r.1) else none) = _
  simp only [im_nil, im_int, im_str, im_slice, ims_0, ims_1, ims_2, ims_3, ims_4, ims_5, ims_6, ims_7, ims_8, ims_9, ims_10, ims_11, ims_12, ims_13, ims_14, ims_15, ims_16, ims_17, pm_8]
  generalize pkL ob kS a0 = o0
  cases o0 with
  | none => rfl
  | some x0 =>
  simp only [Option.bind_some, Option.map_some, im_nil, im_int, im_str, im_slice, ims_0, ims_1, ims_2, ims_3, ims_4, ims_5, ims_6, ims_7, ims_8, ims_9, ims_10, ims_11, ims_12, ims_13, ims_14, ims_15, ims_16, ims_17]
  generalize pkL ob kI a1 = o1
  cases o1 with
  | none => rfl
  | some x1 =>
  simp only [Option.bind_some, Option.map_some, im_nil, im_int, im_str, im_slice, ims_0, ims_1, ims_2, ims_3, ims_4, ims_5, ims_6, ims_7, ims_8, ims_9, ims_10, ims_11, ims_12, ims_13, ims_14, ims_15, ims_16, ims_17]
  generalize pkL ob (kL kS) a2 = o2
  cases o2 with
  | none => rfl
  | some x2 =>
  simp only [Option.bind_some, Option.map_some, im_nil, im_int, im_str, im_slice, ims_0, ims_1, ims_2, ims_3, ims_4, ims_5, ims_6, ims_7, ims_8, ims_9, ims_10, ims_11, ims_12, ims_13, ims_14, ims_15, ims_16, ims_17]
  generalize pkL ob (kL (kR 0)) a3 = o3
  cases o3 with
  | none => rfl
  | some x3 =>
  simp only [Option.bind_some, Option.map_some, im_nil, im_int, im_str, im_slice, ims_0, ims_1, ims_2, ims_3, ims_4, ims_5, ims_6, ims_7, ims_8, ims_9, ims_10, ims_11, ims_12, ims_13, ims_14, ims_15, ims_16, ims_17]
  rfl
def pm_9 (o0 : Option (Ki.T kI)) (o1 : Option (Ki.T kI)) (o2 : Option (Ki.T kS)) (o3 : Option (Ki.T kI)) (o4 : Option (Ki.T kI)) (o5 : Option (Ki.T (kL kS))) (o6 : Option (Ki.T (kL (kR 0)))) (o7 : Option (Ki.T (kL kS))) (o8 : Option (Ki.T (kL (kR 2)))) (o9 : Option (Ki.T (kL kS))) (o10 : Option (Ki.T (kL (kR 9)))) (o11 : Option (Ki.T (kL (kR 10)))) : Option (Ki.T (kR 9)) := o0.bind fun (x0 : Int) => o1.bind fun (x1 : Int) => o2.bind fun (x2 : Str) => o3.bind fun (x3 : Int) => o4.bind fun (x4 : Int) => o5.bind fun (x5 : (List Str)) => o6.bind fun (x6 : (List Ty)) => o7.bind fun (x7 : (List Str)) => o8.bind fun (x8 : (List Tm)) => o9.bind fun (x9 : (List Str)) => o10.bind fun (x10 : (List Head)) => o11.bind fun (x11 : (List Comp)) => some ((Head.mk x0 (Tm.mk x1 x2 x3 (Ty.mk x4 x5 x6) x7 x8) x9 x10 (Query.mk x11)) : Head)
theorem pms_9 (x0 : Int) (x1 : Int) (x2 : Str) (x3 : Int) (x4 : Int) (x5 : (List Str)) (x6 : (List Ty)) (x7 : (List Str)) (x8 : (List Tm)) (x9 : (List Str)) (x10 : (List Head)) (x11 : (List Comp)) : pm_9 (so kI x0) (so kI x1) (so kS x2) (so kI x3) (so kI x4) (so (kL kS) x5) (so (kL (kR 0)) x6) (so (kL kS) x7) (so (kL (kR 2)) x8) (so (kL kS) x9) (so (kL (kR 9)) x10) (so (kL (kR 10)) x11) = so (kR 9) ((Head.mk x0 (Tm.mk x1 x2 x3 (Ty.mk x4 x5 x6) x7 x8) x9 x10 (Query.mk x11)) : Head) := (rfl)
theorem agg_9 (ob) (a0 a1 a2 a3 a4 a5 a6 a7 a8 a9 a10 a11 : AV) : pk ob (.struct 9) (.ag 9 [a0, a1, a2, a3, a4, a5, a6, a7, a8, a9, a10, a11]) = pm_9 (pkL ob kI a0) (pkL ob kI a1) (pkL ob kS a2) (pkL ob kI a3) (pkL ob kI a4) (pkL ob (kL kS) a5) (pkL ob (kL (kR 0)) a6) (pkL ob (kL kS) a7) (pkL ob (kL (kR 2)) a8) (pkL ob (kL kS) a9) (pkL ob (kL (kR 9)) a10) (pkL ob (kL (kR 10)) a11) := by
  show ((im ob 99 [kI, (kR 2), (kL kS), (kL (kR 9)), (kR 11)] [a0, a1, a2, a3, a4, a5, a6, a7, a8, a9, a10, a11]).bind fun (r : (Int × Tm × (List Str) × (List Head) × Query × Unit) × List AV) => if r.2.isEmpty then some (mk 9 r.1) else none) = _
  simp only [im_nil, im_int, im_str, im_slice, ims_0, ims_1, ims_2, ims_3, ims_4, ims_5, ims_6, ims_7, ims_8, ims_9, ims_10, ims_11, ims_12, ims_13, ims_14, ims_15, ims_16, ims_17, pm_9]
  generalize pkL ob kI a0 = o0
  cases o0 with
  | none => rfl
  | some x0 =>
  simp only [Option.bind_some, Option.map_some, im_nil, im_int, im_str, im_slice, ims_0, ims_1, ims_2, ims_3, ims_4, ims_5, ims_6, ims_7, ims_8, ims_9, ims_10, ims_11, ims_12, ims_13, ims_14, ims_15, ims_16, ims_17]
  generalize pkL ob kI a1 = o1
  cases o1 with
  | none => rfl
  | some x1 =>
  simp only [Option.bind_some, Option.map_some, im_nil, im_int, im_str, im_slice, ims_0, ims_1, ims_2, ims_3, ims_4, ims_5, ims_6, ims_7, ims_8, ims_9, ims_10, ims_11, ims_12, ims_13, ims_14, ims_15, ims_16, ims_17]
  generalize pkL ob kS a2 = o2
  cases o2 with
  | none => rfl
  | some x2 =>
  simp only [Option.bind_some, Option.map_some, im_nil, im_int, im_str, im_slice, ims_0, ims_1, ims_2, ims_3, ims_4, ims_5, ims_6, ims_7, ims_8, ims_9, ims_10, ims_11, ims_12, ims_13, ims_14, ims_15, ims_16, ims_17]
  generalize pkL ob kI a3 = o3
  cases o3 with
  | none => rfl
  | some x3 =>
  simp only [Option.bind_some, Option.map_some, im_nil, im_int, im_str, im_slice, ims_0, ims_1, ims_2, ims_3, ims_4, ims_5, ims_6, ims_7, ims_8, ims_9, ims_10, ims_11, ims_12, ims_13, ims_14, ims_15, ims_16, ims_17]
  generalize pkL ob kI a4 = o4
  cases o4 with
  | none => rfl
  | some x4 =>
  simp only [Option.bind_some, Option.map_some, im_nil, im_int, im_str, im_slice, ims_0, ims_1, ims_2, ims_3, ims_4, ims_5, ims_6, ims_7, ims_8, ims_9, ims_10, ims_11, ims_12, ims_13, ims_14, ims_15, ims_16, ims_17]
  generalize pkL ob (kL kS) a5 = o5
  cases o5 with
  | none => rfl
  | some x5 =>
  simp only [Option.bind_some, Option.map_some, im_nil, im_int, im_str, im_slice, ims_0, ims_1, ims_2, ims_3, ims_4, ims_5, ims_6, ims_7, ims_8, ims_9, ims_10, ims_11, ims_12, ims_13, ims_14, ims_15, ims_16, ims_17]
  generalize pkL ob (kL (kR 0)) a6 = o6
  cases o6 with
  | none => rfl
  | some x6 =>
  simp only [Option.bind_some, Option.map_some, im_nil, im_int, im_str, im_slice, ims_0, ims_1, ims_2, ims_3, ims_4, ims_5, ims_6, ims_7, ims_8, ims_9, ims_10, ims_11, ims_12, ims_13, ims_14, ims_15, ims_16, ims_17]
  generalize pkL ob (kL kS) a7 = o7
  cases o7 with
  | none => rfl
  | some x7 =>
  simp only [Option.bind_some, Option.map_some, im_nil, im_int, im_str, im_slice, ims_0, ims_1, ims_2, ims_3, ims_4, ims_5, ims_6, ims_7, ims_8, ims_9, ims_10, ims_11, ims_12, ims_13, ims_14, ims_15, ims_16, ims_17]
  generalize pkL ob (kL (kR 2)) a8 = o8
  cases o8 with
  | none => rfl
  | some x8 =>
  simp only [Option.bind_some, Option.map_some, im_nil, im_int, im_str, im_slice, ims_0, ims_1, ims_2, ims_3, ims_4, ims_5, ims_6, ims_7, ims_8, ims_9, ims_10, ims_11, ims_12, ims_13, ims_14, ims_15, ims_16, ims_17]
  generalize pkL ob (kL kS) a9 = o9
  cases o9 with
  | none => rfl
  | some x9 =>
  simp only [Option.bind_some, Option.map_some, im_nil, im_int, im_str, im_slice, ims_0, ims_1, ims_2, ims_3, ims_4, ims_5, ims_6, ims_7, ims_8, ims_9, ims_10, ims_11, ims_12, ims_13, ims_14, ims_15, ims_16, ims_17]
  generalize pkL ob (kL (kR 9)) a10 = o10
  cases o10 with
  | none => rfl
  | some x10 =>
  simp only [Option.bind_some, Option.map_some, im_nil, im_int, im_str, im_slice, ims_0, ims_1, ims_2, ims_3, ims_4, ims_5, ims_6, ims_7, ims_8, ims_9, ims_10, ims_11, ims_12, ims_13, ims_14, ims_15, ims_16, ims_17]
  generalize pkL ob (kL (kR 10)) a11 = o11
  cases o11 with
  | none => rfl
  | some x11 =>
  simp only [Option.bind_some, Option.map_some, im_nil, im_int, im_str, im_slice, ims_0, ims_1, ims_2, ims_3, ims_4, ims_5, ims_6, ims_7, ims_8, ims_9, ims_10, ims_11, ims_12, ims_13, ims_14, ims_15, ims_16, ims_17]
  rfl
def pm_10 (o0 : Option (Ki.T (kL (kR 3)))) (o1 : Option (Ki.T kI)) (o2 : Option (Ki.T kS)) (o3 : Option (Ki.T kI)) (o4 : Option (Ki.T kI)) (o5 : Option (Ki.T (kL kS))) (o6 : Option (Ki.T (kL (kR 0)))) (o7 : Option (Ki.T (kL kS))) (o8 : Option (Ki.T (kL (kR 2)))) (o9 : Option (Ki.T kI)) (o10 : Option (Ki.T kI)) (o11 : Option (Ki.T kS)) (o12 : Option (Ki.T kI)) (o13 : Option (Ki.T kI)) (o14 : Option (Ki.T (kL kS))) (o15 : Option (Ki.T (kL (kR 0)))) (o16 : Option (Ki.T (kL kS))) (o17 : Option (Ki.T (kL (kR 2)))) (o18 : Option (Ki.T (kL kS))) (o19 : Option (Ki.T (kL (kR 9)))) (o20 : Option (Ki.T (kL (kR 10)))) : Option (Ki.T (kR 10)) := o0.bind fun (x0 : (List Gen)) => o1.bind fun (x1 : Int) => o2.bind fun (x2 : Str) => o3.bind fun (x3 : Int) => o4.bind fun (x4 : Int) => o5.bind fun (x5 : (List Str)) => o6.bind fun (x6 : (List Ty)) => o7.bind fun (x7 : (List Str)) => o8.bind fun (x8 : (List Tm)) => o9.bind fun (x9 : Int) => o10.bind fun (x10 : Int) => o11.bind fun (x11 : Str) => o12.bind fun (x12 : Int) => o13.bind fun (x13 : Int) => o14.bind fun (x14 : (List Str)) => o15.bind fun (x15 : (List Ty)) => o16.bind fun (x16 : (List Str)) => o17.bind fun (x17 : (List Tm)) => o18.bind fun (x18 : (List Str)) => o19.bind fun (x19 : (List Head)) => o20.bind fun (x20 : (List Comp)) => some ((Comp.mk x0 (Tm.mk x1 x2 x3 (Ty.mk x4 x5 x6) x7 x8) (Head.mk x9 (Tm.mk x10 x11 x12 (Ty.mk x13 x14 x15) x16 x17) x18 x19 (Query.mk x20))) : Comp)
theorem pms_10 (x0 : (List Gen)) (x1 : Int) (x2 : Str) (x3 : Int) (x4 : Int) (x5 : (List Str)) (x6 : (List Ty)) (x7 : (List Str)) (x8 : (List Tm)) (x9 : Int) (x10 : Int) (x11 : Str) (x12 : Int) (x13 : Int) (x14 : (List Str)) (x15 : (List Ty)) (x16 : (List Str)) (x17 : (List Tm)) (x18 : (List Str)) (x19 : (List Head)) (x20 : (List Comp)) : pm_10 (so (kL (kR 3)) x0) (so kI x1) (so kS x2) (so kI x3) (so kI x4) (so (kL kS) x5) (so (kL (kR 0)) x6) (so (kL kS) x7) (so (kL (kR 2)) x8) (so kI x9) (so kI x10) (so kS x11) (so kI x12) (so kI x13) (so (kL kS) x14) (so (kL (kR 0)) x15) (so (kL kS) x16) (so (kL (kR 2)) x17) (so (kL kS) x18) (so (kL (kR 9)) x19) (so (kL (kR 10)) x20) = so (kR 10) ((Comp.mk x0 (Tm.mk x1 x2 x3 (Ty.mk x4 x5 x6) x7 x8) (Head.mk x9 (Tm.mk x10 x11 x12 (Ty.mk x13 x14 x15) x16 x17) x18 x19 (Query.mk x20))) : Comp) := (rfl)
theorem agg_10 (ob) (a0 a1 a2 a3 a4 a5 a6 a7 a8 a9 a10 a11 a12 a13 a14 a15 a16 a17 a18 a19 a20 : AV) : pk ob (.struct 10) (.ag 10 [a0, a1, a2, a3, a4, a5, a6, a7, a8, a9, a10, a11, a12, a13, a14, a15, a16, a17, a18, a19, a20]) = pm_10 (pkL ob (kL (kR 3)) a0) (pkL ob kI a1) (pkL ob kS a2) (pkL ob kI a3) (pkL ob kI a4) (pkL ob (kL kS) a5) (pkL ob (kL (kR 0)) a6) (pkL ob (kL kS) a7) (pkL ob (kL (kR 2)) a8) (pkL ob kI a9) (pkL ob kI a10) (pkL ob kS a11) (pkL ob kI a12) (pkL ob kI a13) (pkL ob (kL kS) a14) (pkL ob (kL (kR 0)) a15) (pkL ob (kL kS) a16) (pkL ob (kL (kR 2)) a17) (pkL ob (kL kS) a18) (pkL ob (kL (kR 9)) a19) (pkL ob (kL (kR 10)) a20) := by
  show ((im ob 99 [(kL (kR 3)), (kR 2), (kR 9)] [a0, a1, a2, a3, a4, a5, a6, a7, a8, a9, a10, a11, a12, a13, a14, a15, a16, a17, a18, a19, a20]).bind fun (r : ((List Gen) × Tm × Head × Unit) × List AV) => if r.2.isEmpty then some (mk 10 r.1) else none) = _
  simp only [im_nil, im_int, im_str, im_slice, ims_0, ims_1, ims_2, ims_3, ims_4, ims_5, ims_6, ims_7, ims_8, ims_9, ims_10, ims_11, ims_12, ims_13, ims_14, ims_15, ims_16, ims_17, pm_10]
  generalize pkL ob (kL (kR 3)) a0 = o0
  cases o0 with
  | none => rfl
  | some x0 =>
  simp only [Option.bind_some, Option.map_some, im_nil, im_int, im_str, im_slice, ims_0, ims_1, ims_2, ims_3, ims_4, ims_5, ims_6, ims_7, ims_8, ims_9, ims_10, ims_11, ims_12, ims_13, ims_14, ims_15, ims_16, ims_17]
  generalize pkL ob kI a1 = o1
  cases o1 with
  | none => rfl
  | some x1 =>
  simp only [Option.bind_some, Option.map_some, im_nil, im_int, im_str, im_slice, ims_0, ims_1, ims_2, ims_3, ims_4, ims_5, ims_6, ims_7, ims_8, ims_9, ims_10, ims_11, ims_12, ims_13, ims_14, ims_15, ims_16, ims_17]
  generalize pkL ob kS a2 = o2
  cases o2 with
  | none => rfl
  | some x2 =>
  simp only [Option.bind_some, Option.map_some, im_nil, im_int, im_str, im_slice, ims_0, ims_1, ims_2, ims_3, ims_4, ims_5, ims_6, ims_7, ims_8, ims_9, ims_10, ims_11, ims_12, ims_13, ims_14, ims_15, ims_16, ims_17]
  generalize pkL ob kI a3 = o3
  cases o3 with
  | none => rfl
  | some x3 =>
  simp only [Option.bind_some, Option.map_some, im_nil, im_int, im_str, im_slice, ims_0, ims_1, ims_2, ims_3, ims_4, ims_5, ims_6, ims_7, ims_8, ims_9, ims_10, ims_11, ims_12, ims_13, ims_14, ims_15, ims_16, ims_17]
  generalize pkL ob kI a4 = o4
  cases o4 with
  | none => rfl
  | some x4 =>
  simp only [Option.bind_some, Option.map_some, im_nil, im_int, im_str, im_slice, ims_0, ims_1, ims_2, ims_3, ims_4, ims_5, ims_6, ims_7, ims_8, ims_9, ims_10, ims_11, ims_12, ims_13, ims_14, ims_15, ims_16, ims_17]
  generalize pkL ob (kL kS) a5 = o5
  cases o5 with
  | none => rfl
  | some x5 =>
  simp only [Option.bind_some, Option.map_some, im_nil, im_int, im_str, im_slice, ims_0, ims_1, ims_2, ims_3, ims_4, ims_5, ims_6, ims_7, ims_8, ims_9, ims_10, ims_11, ims_12, ims_13, ims_14, ims_15, ims_16, ims_17]
  generalize pkL ob (kL (kR 0)) a6 = o6
  cases o6 with
  | none => rfl
  | some x6 =>
  simp only [Option.bind_some, Option.map_some, im_nil, im_int, im_str, im_slice, ims_0, ims_1, ims_2, ims_3, ims_4, ims_5, ims_6, ims_7, ims_8, ims_9, ims_10, ims_11, ims_12, ims_13, ims_14, ims_15, ims_16, ims_17]
  generalize pkL ob (kL kS) a7 = o7
  cases o7 with
  | none => rfl
  | some x7 =>
  simp only [Option.bind_some, Option.map_some, im_nil, im_int, im_str, im_slice, ims_0, ims_1, ims_2, ims_3, ims_4, ims_5, ims_6, ims_7, ims_8, ims_9, ims_10, ims_11, ims_12, ims_13, ims_14, ims_15, ims_16, ims_17]
  generalize pkL ob (kL (kR 2)) a8 = o8
  cases o8 with
  | none => rfl
  | some x8 =>
  simp only [Option.bind_some, Option.map_some, im_nil, im_int, im_str, im_slice, ims_0, ims_1, ims_2, ims_3, ims_4, ims_5, ims_6, ims_7, ims_8, ims_9, ims_10, ims_11, ims_12, ims_13, ims_14, ims_15, ims_16, ims_17]
  generalize pkL ob kI a9 = o9
  cases o9 with
  | none => rfl
  | some x9 =>
  simp only [Option.bind_some, Option.map_some, im_nil, im_int, im_str, im_slice, ims_0, ims_1, ims_2, ims_3, ims_4, ims_5, ims_6, ims_7, ims_8, ims_9, ims_10, ims_11, ims_12, ims_13, ims_14, ims_15, ims_16, ims_17]
  generalize pkL ob kI a10 = o10
  cases o10 with
  | none => rfl
  | some x10 =>
  simp only [Option.bind_some, Option.map_some, im_nil, im_int, im_str, im_slice, ims_0, ims_1, ims_2, ims_3, ims_4, ims_5, ims_6, ims_7, ims_8, ims_9, ims_10, ims_11, ims_12, ims_13, ims_14, ims_15, ims_16, ims_17]
  generalize pkL ob kS a11 = o11
  cases o11 with
  | none => rfl
  | some x11 =>
  simp only [Option.bind_some, Option.map_some, im_nil, im_int, im_str, im_slice, ims_0, ims_1, ims_2, ims_3, ims_4, ims_5, ims_6, ims_7, ims_8, ims_9, ims_10, ims_11, ims_12, ims_13, ims_14, ims_15, ims_16, ims_17]
  generalize pkL ob kI a12 = o12
  cases o12 with
  | none => rfl
  | some x12 =>
  simp only [Option.bind_some, Option.map_some, im_nil, im_int, im_str, im_slice, ims_0, ims_1, ims_2, ims_3, ims_4, ims_5, ims_6, ims_7, ims_8, ims_9, ims_10, ims_11, ims_12, ims_13, ims_14, ims_15, ims_16, ims_17]
  generalize pkL ob kI a13 = o13
  cases o13 with
  | none => rfl
  | some x13 =>
  simp only [Option.bind_some, Option.map_some, im_nil, im_int, im_str, im_slice, ims_0, ims_1, ims_2, ims_3, ims_4, ims_5, ims_6, ims_7, ims_8, ims_9, ims_10, ims_11, ims_12, ims_13, ims_14, ims_15, ims_16, ims_17]
  generalize pkL ob (kL kS) a14 = o14
  cases o14 with
  | none => rfl
  | some x14 =>
  simp only [Option.bind_some, Option.map_some, im_nil, im_int, im_str, im_slice, ims_0, ims_1, ims_2, ims_3, ims_4, ims_5, ims_6, ims_7, ims_8, ims_9, ims_10, ims_11, ims_12, ims_13, ims_14, ims_15, ims_16, ims_17]
  generalize pkL ob (kL (kR 0)) a15 = o15
  cases o15 with
  | none => rfl
  | some x15 =>
  simp only [Option.bind_some, Option.map_some, im_nil, im_int, im_str, im_slice, ims_0, ims_1, ims_2, ims_3, ims_4, ims_5, ims_6, ims_7, ims_8, ims_9, ims_10, ims_11, ims_12, ims_13, ims_14, ims_15, ims_16, ims_17]
  generalize pkL ob (kL kS) a16 = o16
  cases o16 with
  | none => rfl
  | some x16 =>
  simp only [Option.bind_some, Option.map_some, im_nil, im_int, im_str, im_slice, ims_0, ims_1, ims_2, ims_3, ims_4, ims_5, ims_6, ims_7, ims_8, ims_9, ims_10, ims_11, ims_12, ims_13, ims_14, ims_15, ims_16, ims_17]
  generalize pkL ob (kL (kR 2)) a17 = o17
  cases o17 with
  | none => rfl
  | some x17 =>
  simp only [Option.bind_some, Option.map_some, im_nil, im_int, im_str, im_slice, ims_0, ims_1, ims_2, ims_3, ims_4, ims_5, ims_6, ims_7, ims_8, ims_9, ims_10, ims_11, ims_12, ims_13, ims_14, ims_15, ims_16, ims_17]
  generalize pkL ob (kL kS) a18 = o18
  cases o18 with
  | none => rfl
  | some x18 =>
  simp only [Option.bind_some, Option.map_some, im_nil, im_int, im_str, im_slice, ims_0, ims_1, ims_2, ims_3, ims_4, ims_5, ims_6, ims_7, ims_8, ims_9, ims_10, ims_11, ims_12, ims_13, ims_14, ims_15, ims_16, ims_17]
  generalize pkL ob (kL (kR 9)) a19 = o19
  cases o19 with
  | none => rfl
  | some x19 =>
  simp only [Option.bind_some, Option.map_some, im_nil, im_int, im_str, im_slice, ims_0, ims_1, ims_2, ims_3, ims_4, ims_5, ims_6, ims_7, ims_8, ims_9, ims_10, ims_11, ims_12, ims_13, ims_14, ims_15, ims_16, ims_17]
  generalize pkL ob (kL (kR 10)) a20 = o20
  cases o20 with
  | none => rfl
  | some x20 =>
  simp only [Option.bind_some, Option.map_some, im_nil, im_int, im_str, im_slice, ims_0, ims_1, ims_2, ims_3, ims_4, ims_5, ims_6, ims_7, ims_8, ims_9, ims_10, ims_11, ims_12, ims_13, ims_14, ims_15, ims_16, ims_17]
  rfl
def pm_11 (o0 : Option (Ki.T (kL (kR 10)))) : Option (Ki.T (kR 11)) := o0.bind fun (x0 : (List Comp)) => some ((Query.mk x0) : Query)
theorem pms_11 (x0 : (List Comp)) : pm_11 (so (kL (kR 10)) x0) = so (kR 11) ((Query.mk x0) : Query) := (rfl)
theorem agg_11 (ob) (a0 : AV) : pk ob (.struct 11) (.ag 11 [a0]) = pm_11 (pkL ob (kL (kR 10)) a0) := by
  show ((im ob 99 [(kL (kR 10))] [a0]).bind fun (r : ((List Comp) × Unit) × List AV) => if r.2.isEmpty then some (mk 11 r.1) else none) = _
  simp only [im_nil, im_int, im_str, im_slice, ims_0, ims_1, ims_2, ims_3, ims_4, ims_5, ims_6, ims_7, ims_8, ims_9, ims_10, ims_11, ims_12, ims_13, ims_14, ims_15, ims_16, ims_17, pm_11]
  generalize pkL ob (kL (kR 10)) a0 = o0
  cases o0 with
  | none => rfl
  | some x0 =>
  simp only [Option.bind_some, Option.map_some, im_nil, im_int, im_str, im_slice, ims_0, ims_1, ims_2, ims_3, ims_4, ims_5, ims_6, ims_7, ims_8, ims_9, ims_10, ims_11, ims_12, ims_13, ims_14, ims_15, ims_16, ims_17]
  rfl
def pm_12 (o0 : Option (Ki.T kI)) (o1 : Option (Ki.T kI)) (o2 : Option (Ki.T kI)) (o3 : Option (Ki.T (kL (kR 3)))) (o4 : Option (Ki.T kI)) (o5 : Option (Ki.T kS)) (o6 : Option (Ki.T kI)) (o7 : Option (Ki.T kI)) (o8 : Option (Ki.T (kL kS))) (o9 : Option (Ki.T (kL (kR 0)))) (o10 : Option (Ki.T (kL kS))) (o11 : Option (Ki.T (kL (kR 2)))) (o12 : Option (Ki.T (kL (kR 2)))) : Option (Ki.T (kR 12)) := o0.bind fun (x0 : Int) => o1.bind fun (x1 : Int) => o2.bind fun (x2 : Int) => o3.bind fun (x3 : (List Gen)) => o4.bind fun (x4 : Int) => o5.bind fun (x5 : Str) => o6.bind fun (x6 : Int) => o7.bind fun (x7 : Int) => o8.bind fun (x8 : (List Str)) => o9.bind fun (x9 : (List Ty)) => o10.bind fun (x10 : (List Str)) => o11.bind fun (x11 : (List Tm)) => o12.bind fun (x12 : (List Tm)) => some ((FComp.mk x0 x1 x2 x3 (Tm.mk x4 x5 x6 (Ty.mk x7 x8 x9) x10 x11) x12) : FComp)
theorem pms_12 (x0 : Int) (x1 : Int) (x2 : Int) (x3 : (List Gen)) (x4 : Int) (x5 : Str) (x6 : Int) (x7 : Int) (x8 : (List Str)) (x9 : (List Ty)) (x10 : (List Str)) (x11 : (List Tm)) (x12 : (List Tm)) : pm_12 (so kI x0) (so kI x1) (so kI x2) (so (kL (kR 3)) x3) (so kI x4) (so kS x5) (so kI x6) (so kI x7) (so (kL kS) x8) (so (kL (kR 0)) x9) (so (kL kS) x10) (so (kL (kR 2)) x11) (so (kL (kR 2)) x12) = so (kR 12) ((FComp.mk x0 x1 x2 x3 (Tm.mk x4 x5 x6 (Ty.mk x7 x8 x9) x10 x11) x12) : FComp) := (rfl)
theorem agg_12 (ob) (a0 a1 a2 a3 a4 a5 a6 a7 a8 a9 a10 a11 a12 : AV) : pk ob (.struct 12) (.ag 12 [a0, a1, a2, a3, a4, a5, a6, a7, a8, a9, a10, a11, a12]) = pm_12 (pkL ob kI a0) (pkL ob kI a1) (pkL ob kI a2) (pkL ob (kL (kR 3)) a3) (pkL ob kI a4) (pkL ob kS a5) (pkL ob kI a6) (pkL ob kI a7) (pkL ob (kL kS) a8) (pkL ob (kL (kR 0)) a9) (pkL ob (kL kS) a10) (pkL ob (kL (kR 2)) a11) (pkL ob (kL (kR 2)) a12) := by
  show ((im ob 99 [kI, kI, kI, (kL (kR 3)), (kR 2), (kL (kR 2))] [a0, a1, a2, a3, a4, a5, a6, a7, a8, a9, a10, a11, a12]).bind fun (r : (Int × Int × Int × (List Gen) × Tm × (List Tm) × Unit) × List AV) => if r.2.isEmpty then some (mk 12 r.1) else none) = _
  simp only [im_nil, im_int, im_str, im_slice, ims_0, ims_1, ims_2, ims_3, ims_4, ims_5, ims_6, ims_7, ims_8, ims_9, ims_10, ims_11, ims_12, ims_13, ims_14, ims_15, ims_16, ims_17, pm_12]
  generalize pkL ob kI a0 = o0
  cases o0 with
  | none => rfl
  | some x0 =>
  simp only [Option.bind_some, Option.map_some, im_nil, im_int, im_str, im_slice, ims_0, ims_1, ims_2, ims_3, ims_4, ims_5, ims_6, ims_7, ims_8, ims_9, ims_10, ims_11, ims_12, ims_13, ims_14, ims_15, ims_16, ims_17]
  generalize pkL ob kI a1 = o1
  cases o1 with
  | none => rfl
  | some x1 =>
  simp only [Option.bind_some, Option.map_some, im_nil, im_int, im_str, im_slice, ims_0, ims_1, ims_2, ims_3, ims_4, ims_5, ims_6, ims_7, ims_8, ims_9, ims_10, ims_11, ims_12, ims_13, ims_14, ims_15, ims_16, ims_17]
  generalize pkL ob kI a2 = o2
  cases o2 with
  | none => rfl
  | some x2 =>
  simp only [Option.bind_some, Option.map_some, im_nil, im_int, im_str, im_slice, ims_0, ims_1, ims_2, ims_3, ims_4, ims_5, ims_6, ims_7, ims_8, ims_9, ims_10, ims_11, ims_12, ims_13, ims_14, ims_15, ims_16, ims_17]
  generalize pkL ob (kL (kR 3)) a3 = o3
  cases o3 with
  | none => rfl
  | some x3 =>
  simp only [Option.bind_some, Option.map_some, im_nil, im_int, im_str, im_slice, ims_0, ims_1, ims_2, ims_3, ims_4, ims_5, ims_6, ims_7, ims_8, ims_9, ims_10, ims_11, ims_12, ims_13, ims_14, ims_15, ims_16, ims_17]
  generalize pkL ob kI a4 = o4
  cases o4 with
  | none => rfl
  | some x4 =>
  simp only [Option.bind_some, Option.map_some, im_nil, im_int, im_str, im_slice, ims_0, ims_1, ims_2, ims_3, ims_4, ims_5, ims_6, ims_7, ims_8, ims_9, ims_10, ims_11, ims_12, ims_13, ims_14, ims_15, ims_16, ims_17]
  generalize pkL ob kS a5 = o5
  cases o5 with
  | none => rfl
  | some x5 =>
  simp only [Option.bind_some, Option.map_some, im_nil, im_int, im_str, im_slice, ims_0, ims_1, ims_2, ims_3, ims_4, ims_5, ims_6, ims_7, ims_8, ims_9, ims_10, ims_11, ims_12, ims_13, ims_14, ims_15, ims_16, ims_17]
  generalize pkL ob kI a6 = o6
  cases o6 with
  | none => rfl
  | some x6 =>
  simp only [Option.bind_some, Option.map_some, im_nil, im_int, im_str, im_slice, ims_0, ims_1, ims_2, ims_3, ims_4, ims_5, ims_6, ims_7, ims_8, ims_9, ims_10, ims_11, ims_12, ims_13, ims_14, ims_15, ims_16, ims_17]
  generalize pkL ob kI a7 = o7
  cases o7 with
  | none => rfl
  | some x7 =>
  simp only [Option.bind_some, Option.map_some, im_nil, im_int, im_str, im_slice, ims_0, ims_1, ims_2, ims_3, ims_4, ims_5, ims_6, ims_7, ims_8, ims_9, ims_10, ims_11, ims_12, ims_13, ims_14, ims_15, ims_16, ims_17]
  generalize pkL ob (kL kS) a8 = o8
  cases o8 with
  | none => rfl
  | some x8 =>
  simp only [Option.bind_some, Option.map_some, im_nil, im_int, im_str, im_slice, ims_0, ims_1, ims_2, ims_3, ims_4, ims_5, ims_6, ims_7, ims_8, ims_9, ims_10, ims_11, ims_12, ims_13, ims_14, ims_15, ims_16, ims_17]
  generalize pkL ob (kL (kR 0)) a9 = o9
  cases o9 with
  | none => rfl
  | some x9 =>
  simp only [Option.bind_some, Option.map_some, im_nil, im_int, im_str, im_slice, ims_0, ims_1, ims_2, ims_3, ims_4, ims_5, ims_6, ims_7, ims_8, ims_9, ims_10, ims_11, ims_12, ims_13, ims_14, ims_15, ims_16, ims_17]
  generalize pkL ob (kL kS) a10 = o10
  cases o10 with
  | none => rfl
  | some x10 =>
  simp only [Option.bind_some, Option.map_some, im_nil, im_int, im_str, im_slice, ims_0, ims_1, ims_2, ims_3, ims_4, ims_5, ims_6, ims_7, ims_8, ims_9, ims_10, ims_11, ims_12, ims_13, ims_14, ims_15, ims_16, ims_17]
  generalize pkL ob (kL (kR 2)) a11 = o11
  cases o11 with
  | none => rfl
  | some x11 =>
  simp only [Option.bind_some, Option.map_some, im_nil, im_int, im_str, im_slice, ims_0, ims_1, ims_2, ims_3, ims_4, ims_5, ims_6, ims_7, ims_8, ims_9, ims_10, ims_11, ims_12, ims_13, ims_14, ims_15, ims_16, ims_17]
  generalize pkL ob (kL (kR 2)) a12 = o12
  cases o12 with
  | none => rfl
  | some x12 =>
  simp only [Option.bind_some, Option.map_some, im_nil, im_int, im_str, im_slice, ims_0, ims_1, ims_2, ims_3, ims_4, ims_5, ims_6, ims_7, ims_8, ims_9, ims_10, ims_11, ims_12, ims_13, ims_14, ims_15, ims_16, ims_17]
  rfl
def pm_13 (o0 : Option (Ki.T (kL kS))) (o1 : Option (Ki.T (kL (kR 12)))) : Option (Ki.T (kR 13)) := o0.bind fun (x0 : (List Str)) => o1.bind fun (x1 : (List FComp)) => some ((FQuery.mk x0 x1) : FQuery)
theorem pms_13 (x0 : (List Str)) (x1 : (List FComp)) : pm_13 (so (kL kS) x0) (so (kL (kR 12)) x1) = so (kR 13) ((FQuery.mk x0 x1) : FQuery) := (rfl)
theorem agg_13 (ob) (a0 a1 : AV) : pk ob (.struct 13) (.ag 13 [a0, a1]) = pm_13 (pkL ob (kL kS) a0) (pkL ob (kL (kR 12)) a1) := by
  show ((im ob 99 [(kL kS), (kL (kR 12))] [a0, a1]).bind fun (r : ((List Str) × (List FComp) × Unit) × List AV) => if r.2.isEmpty then some (mk 13 r.1) else none) = _
  simp only [im_nil, im_int, im_str, im_slice, ims_0, ims_1, ims_2, ims_3, ims_4, ims_5, ims_6, ims_7, ims_8, ims_9, ims_10, ims_11, ims_12, ims_13, ims_14, ims_15, ims_16, ims_17, pm_13]
  generalize pkL ob (kL kS) a0 = o0
  cases o0 with
  | none => rfl
  | some x0 =>
  simp only [Option.bind_some, Option.map_some, im_nil, im_int, im_str, im_slice, ims_0, ims_1, ims_2, ims_3, ims_4, ims_5, ims_6, ims_7, ims_8, ims_9, ims_10, ims_11, ims_12, ims_13, ims_14, ims_15, ims_16, ims_17]
  generalize pkL ob (kL (kR 12)) a1 = o1
  cases o1 with
  | none => rfl
  | some x1 =>
  simp only [Option.bind_some, Option.map_some, im_nil, im_int, im_str, im_slice, ims_0, ims_1, ims_2, ims_3, ims_4, ims_5, ims_6, ims_7, ims_8, ims_9, ims_10, ims_11, ims_12, ims_13, ims_14, ims_15, ims_16, ims_17]
  rfl
def pm_14 (o0 : Option (Ki.T kI)) (o1 : Option (Ki.T (kL kI))) : Option (Ki.T (kR 14)) := o0.bind fun (x0 : Int) => o1.bind fun (x1 : (List Int)) => some ((Key.mk x0 x1) : Key)
theorem pms_14 (x0 : Int) (x1 : (List Int)) : pm_14 (so kI x0) (so (kL kI) x1) = so (kR 14) ((Key.mk x0 x1) : Key) := (rfl)
theorem agg_14 (ob) (a0 a1 : AV) : pk ob (.struct 14) (.ag 14 [a0, a1]) = pm_14 (pkL ob kI a0) (pkL ob (kL kI) a1) := by
  show ((im ob 99 [kI, (kL kI)] [a0, a1]).bind fun (r : (Int × (List Int) × Unit) × List AV) => if r.2.isEmpty then some (mk 14 r.1) else none) = _
  simp only [im_nil, im_int, im_str, im_slice, ims_0, ims_1, ims_2, ims_3, ims_4, ims_5, ims_6, ims_7, ims_8, ims_9, ims_10, ims_11, ims_12, ims_13, ims_14, ims_15, ims_16, ims_17, pm_14]
  generalize pkL ob kI a0 = o0
  cases o0 with
  | none => rfl
  | some x0 =>
  simp only [Option.bind_some, Option.map_some, im_nil, im_int, im_str, im_slice, ims_0, ims_1, ims_2, ims_3, ims_4, ims_5, ims_6, ims_7, ims_8, ims_9, ims_10, ims_11, ims_12, ims_13, ims_14, ims_15, ims_16, ims_17]
  generalize pkL ob (kL kI) a1 = o1
  cases o1 with
  | none => rfl
  | some x1 =>
  simp only [Option.bind_some, Option.map_some, im_nil, im_int, im_str, im_slice, ims_0, ims_1, ims_2, ims_3, ims_4, ims_5, ims_6, ims_7, ims_8, ims_9, ims_10, ims_11, ims_12, ims_13, ims_14, ims_15, ims_16, ims_17]
  rfl
def pm_15 (o0 : Option (Ki.T kI)) (o1 : Option (Ki.T (kL kI))) (o2 : Option (Ki.T kI)) (o3 : Option (Ki.T (kL kI))) (o4 : Option (Ki.T (kL (kR 1)))) : Option (Ki.T (kR 15)) := o0.bind fun (x0 : Int) => o1.bind fun (x1 : (List Int)) => o2.bind fun (x2 : Int) => o3.bind fun (x3 : (List Int)) => o4.bind fun (x4 : (List Val)) => some ((FRow.mk (Key.mk x0 x1) (Key.mk x2 x3) x4) : FRow)
theorem pms_15 (x0 : Int) (x1 : (List Int)) (x2 : Int) (x3 : (List Int)) (x4 : (List Val)) : pm_15 (so kI x0) (so (kL kI) x1) (so kI x2) (so (kL kI) x3) (so (kL (kR 1)) x4) = so (kR 15) ((FRow.mk (Key.mk x0 x1) (Key.mk x2 x3) x4) : FRow) := (rfl)
theorem agg_15 (ob) (a0 a1 a2 a3 a4 : AV) : pk ob (.struct 15) (.ag 15 [a0, a1, a2, a3, a4]) = pm_15 (pkL ob kI a0) (pkL ob (kL kI) a1) (pkL ob kI a2) (pkL ob (kL kI) a3) (pkL ob (kL (kR 1)) a4) := by
  show ((im ob 99 [(kR 14), (kR 14), (kL (kR 1))] [a0, a1, a2, a3, a4]).bind fun (r : (Key × Key × (List Val) × Unit) × List AV) => if r.2.isEmpty then some (mk 15 r.1) else none) = _
  simp only [im_nil, im_int, im_str, im_slice, ims_0, ims_1, ims_2, ims_3, ims_4, ims_5, ims_6, ims_7, ims_8, ims_9, ims_10, ims_11, ims_12, ims_13, ims_14, ims_15, ims_16, ims_17, pm_15]
  generalize pkL ob kI a0 = o0
  cases o0 with
  | none => rfl
  | some x0 =>
  simp only [Option.bind_some, Option.map_some, im_nil, im_int, im_str, im_slice, ims_0, ims_1, ims_2, ims_3, ims_4, ims_5, ims_6, ims_7, ims_8, ims_9, ims_10, ims_11, ims_12, ims_13, ims_14, ims_15, ims_16, ims_17]
  generalize pkL ob (kL kI) a1 = o1
  cases o1 with
  | none => rfl
  | some x1 =>
  simp only [Option.bind_some, Option.map_some, im_nil, im_int, im_str, im_slice, ims_0, ims_1, ims_2, ims_3, ims_4, ims_5, ims_6, ims_7, ims_8, ims_9, ims_10, ims_11, ims_12, ims_13, ims_14, ims_15, ims_16, ims_17]
  generalize pkL ob kI a2 = o2
  cases o2 with
  | none => rfl
  | some x2 =>
  simp only [Option.bind_some, Option.map_some, im_nil, im_int, im_str, im_slice, ims_0, ims_1, ims_2, ims_3, ims_4, ims_5, ims_6, ims_7, ims_8, ims_9, ims_10, ims_11, ims_12, ims_13, ims_14, ims_15, ims_16, ims_17]
  generalize pkL ob (kL kI) a3 = o3
  cases o3 with
  | none => rfl
  | some x3 =>
  simp only [Option.bind_some, Option.map_some, im_nil, im_int, im_str, im_slice, ims_0, ims_1, ims_2, ims_3, ims_4, ims_5, ims_6, ims_7, ims_8, ims_9, ims_10, ims_11, ims_12, ims_13, ims_14, ims_15, ims_16, ims_17]
  generalize pkL ob (kL (kR 1)) a4 = o4
  cases o4 with
  | none => rfl
  | some x4 =>
  simp only [Option.bind_some, Option.map_some, im_nil, im_int, im_str, im_slice, ims_0, ims_1, ims_2, ims_3, ims_4, ims_5, ims_6, ims_7, ims_8, ims_9, ims_10, ims_11, ims_12, ims_13, ims_14, ims_15, ims_16, ims_17]
  rfl
def pm_16 (o0 : Option (Ki.T kI)) (o1 : Option (Ki.T kI)) (o2 : Option (Ki.T (kL (kR 1)))) : Option (Ki.T (kR 16)) := o0.bind fun (x0 : Int) => o1.bind fun (x1 : Int) => o2.bind fun (x2 : (List Val)) => some ((NRow.mk x0 x1 x2) : NRow)
theorem pms_16 (x0 : Int) (x1 : Int) (x2 : (List Val)) : pm_16 (so kI x0) (so kI x1) (so (kL (kR 1)) x2) = so (kR 16) ((NRow.mk x0 x1 x2) : NRow) := (rfl)
theorem agg_16 (ob) (a0 a1 a2 : AV) : pk ob (.struct 16) (.ag 16 [a0, a1, a2]) = pm_16 (pkL ob kI a0) (pkL ob kI a1) (pkL ob (kL (kR 1)) a2) := by
  show ((im ob 99 [kI, kI, (kL (kR 1))] [a0, a1, a2]).bind fun (r : (Int × Int × (List Val) × Unit) × List AV) => if r.2.isEmpty then some (mk 16 r.1) else none) = _
  simp only [im_nil, im_int, im_str, im_slice, ims_0, ims_1, ims_2, ims_3, ims_4, ims_5, ims_6, ims_7, ims_8, ims_9, ims_10, ims_11, ims_12, ims_13, ims_14, ims_15, ims_16, ims_17, pm_16]
  generalize pkL ob kI a0 = o0
  cases o0 with
  | none => rfl
  | some x0 =>
  simp only [Option.bind_some, Option.map_some, im_nil, im_int, im_str, im_slice, ims_0, ims_1, ims_2, ims_3, ims_4, ims_5, ims_6, ims_7, ims_8, ims_9, ims_10, ims_11, ims_12, ims_13, ims_14, ims_15, ims_16, ims_17]
  generalize pkL ob kI a1 = o1
  cases o1 with
  | none => rfl
  | some x1 =>
  simp only [Option.bind_some, Option.map_some, im_nil, im_int, im_str, im_slice, ims_0, ims_1, ims_2, ims_3, ims_4, ims_5, ims_6, ims_7, ims_8, ims_9, ims_10, ims_11, ims_12, ims_13, ims_14, ims_15, ims_16, ims_17]
  generalize pkL ob (kL (kR 1)) a2 = o2
  cases o2 with
  | none => rfl
  | some x2 =>
  simp only [Option.bind_some, Option.map_some, im_nil, im_int, im_str, im_slice, ims_0, ims_1, ims_2, ims_3, ims_4, ims_5, ims_6, ims_7, ims_8, ims_9, ims_10, ims_11, ims_12, ims_13, ims_14, ims_15, ims_16, ims_17]
  rfl
def pm_17 (o0 : Option (Ki.T kI)) (o1 : Option (Ki.T kS)) (o2 : Option (Ki.T kS)) (o3 : Option (Ki.T kI)) (o4 : Option (Ki.T kS)) (o5 : Option (Ki.T kI)) (o6 : Option (Ki.T kI)) (o7 : Option (Ki.T (kL kS))) (o8 : Option (Ki.T (kL (kR 0)))) (o9 : Option (Ki.T (kL kS))) (o10 : Option (Ki.T (kL (kR 2)))) (o11 : Option (Ki.T (kL (kR 2)))) (o12 : Option (Ki.T (kL (kR 17)))) : Option (Ki.T (kR 17)) := o0.bind fun (x0 : Int) => o1.bind fun (x1 : Str) => o2.bind fun (x2 : Str) => o3.bind fun (x3 : Int) => o4.bind fun (x4 : Str) => o5.bind fun (x5 : Int) => o6.bind fun (x6 : Int) => o7.bind fun (x7 : (List Str)) => o8.bind fun (x8 : (List Ty)) => o9.bind fun (x9 : (List Str)) => o10.bind fun (x10 : (List Tm)) => o11.bind fun (x11 : (List Tm)) => o12.bind fun (x12 : (List Plan)) => some ((Plan.mk x0 x1 x2 (Tm.mk x3 x4 x5 (Ty.mk x6 x7 x8) x9 x10) x11 x12) : Plan)
theorem pms_17 (x0 : Int) (x1 : Str) (x2 : Str) (x3 : Int) (x4 : Str) (x5 : Int) (x6 : Int) (x7 : (List Str)) (x8 : (List Ty)) (x9 : (List Str)) (x10 : (List Tm)) (x11 : (List Tm)) (x12 : (List Plan)) : pm_17 (so kI x0) (so kS x1) (so kS x2) (so kI x3) (so kS x4) (so kI x5) (so kI x6) (so (kL kS) x7) (so (kL (kR 0)) x8) (so (kL kS) x9) (so (kL (kR 2)) x10) (so (kL (kR 2)) x11) (so (kL (kR 17)) x12) = so (kR 17) ((Plan.mk x0 x1 x2 (Tm.mk x3 x4 x5 (Ty.mk x6 x7 x8) x9 x10) x11 x12) : Plan) := (rfl)
theorem agg_17 (ob) (a0 a1 a2 a3 a4 a5 a6 a7 a8 a9 a10 a11 a12 : AV) : pk ob (.struct 17) (.ag 17 [a0, a1, a2, a3, a4, a5, a6, a7, a8, a9, a10, a11, a12]) = pm_17 (pkL ob kI a0) (pkL ob kS a1) (pkL ob kS a2) (pkL ob kI a3) (pkL ob kS a4) (pkL ob kI a5) (pkL ob kI a6) (pkL ob (kL kS) a7) (pkL ob (kL (kR 0)) a8) (pkL ob (kL kS) a9) (pkL ob (kL (kR 2)) a10) (pkL ob (kL (kR 2)) a11) (pkL ob (kL (kR 17)) a12) := by
  show ((im ob 99 [kI, kS, kS, (kR 2), (kL (kR 2)), (kL (kR 17))] [a0, a1, a2, a3, a4, a5, a6, a7, a8, a9, a10, a11, a12]).bind fun (r : (Int × Str × Str × Tm × (List Tm) × (List Plan) × Unit) × List AV) => if r.2.isEmpty then some (mk 17 r.1) else none) = _
  simp only [im_nil, im_int, im_str, im_slice, ims_0, ims_1, ims_2, ims_3, ims_4, ims_5, ims_6, ims_7, ims_8, ims_9, ims_10, ims_11, ims_12, ims_13, ims_14, ims_15, ims_16, ims_17, pm_17]
  generalize pkL ob kI a0 = o0
  cases o0 with
  | none => rfl
  | some x0 =>
  simp only [Option.bind_some, Option.map_some, im_nil, im_int, im_str, im_slice, ims_0, ims_1, ims_2, ims_3, ims_4, ims_5, ims_6, ims_7, ims_8, ims_9, ims_10, ims_11, ims_12, ims_13, ims_14, ims_15, ims_16, ims_17]
  generalize pkL ob kS a1 = o1
  cases o1 with
  | none => rfl
  | some x1 =>
  simp only [Option.bind_some, Option.map_some, im_nil, im_int, im_str, im_slice, ims_0, ims_1, ims_2, ims_3, ims_4, ims_5, ims_6, ims_7, ims_8, ims_9, ims_10, ims_11, ims_12, ims_13, ims_14, ims_15, ims_16, ims_17]
  generalize pkL ob kS a2 = o2
  cases o2 with
  | none => rfl
  | some x2 =>
  simp only [Option.bind_some, Option.map_some, im_nil, im_int, im_str, im_slice, ims_0, ims_1, ims_2, ims_3, ims_4, ims_5, ims_6, ims_7, ims_8, ims_9, ims_10, ims_11, ims_12, ims_13, ims_14, ims_15, ims_16, ims_17]
  generalize pkL ob kI a3 = o3
  cases o3 with
  | none => rfl
  | some x3 =>
  simp only [Option.bind_some, Option.map_some, im_nil, im_int, im_str, im_slice, ims_0, ims_1, ims_2, ims_3, ims_4, ims_5, ims_6, ims_7, ims_8, ims_9, ims_10, ims_11, ims_12, ims_13, ims_14, ims_15, ims_16, ims_17]
  generalize pkL ob kS a4 = o4
  cases o4 with
  | none => rfl
  | some x4 =>
  simp only [Option.bind_some, Option.map_some, im_nil, im_int, im_str, im_slice, ims_0, ims_1, ims_2, ims_3, ims_4, ims_5, ims_6, ims_7, ims_8, ims_9, ims_10, ims_11, ims_12, ims_13, ims_14, ims_15, ims_16, ims_17]
  generalize pkL ob kI a5 = o5
  cases o5 with
  | none => rfl
  | some x5 =>
  simp only [Option.bind_some, Option.map_some, im_nil, im_int, im_str, im_slice, ims_0, ims_1, ims_2, ims_3, ims_4, ims_5, ims_6, ims_7, ims_8, ims_9, ims_10, ims_11, ims_12, ims_13, ims_14, ims_15, ims_16, ims_17]
  generalize pkL ob kI a6 = o6
  cases o6 with
  | none => rfl
  | some x6 =>
  simp only [Option.bind_some, Option.map_some, im_nil, im_int, im_str, im_slice, ims_0, ims_1, ims_2, ims_3, ims_4, ims_5, ims_6, ims_7, ims_8, ims_9, ims_10, ims_11, ims_12, ims_13, ims_14, ims_15, ims_16, ims_17]
  generalize pkL ob (kL kS) a7 = o7
  cases o7 with
  | none => rfl
  | some x7 =>
  simp only [Option.bind_some, Option.map_some, im_nil, im_int, im_str, im_slice, ims_0, ims_1, ims_2, ims_3, ims_4, ims_5, ims_6, ims_7, ims_8, ims_9, ims_10, ims_11, ims_12, ims_13, ims_14, ims_15, ims_16, ims_17]
  generalize pkL ob (kL (kR 0)) a8 = o8
  cases o8 with
  | none => rfl
  | some x8 =>
  simp only [Option.bind_some, Option.map_some, im_nil, im_int, im_str, im_slice, ims_0, ims_1, ims_2, ims_3, ims_4, ims_5, ims_6, ims_7, ims_8, ims_9, ims_10, ims_11, ims_12, ims_13, ims_14, ims_15, ims_16, ims_17]
  generalize pkL ob (kL kS) a9 = o9
  cases o9 with
  | none => rfl
  | some x9 =>
  simp only [Option.bind_some, Option.map_some, im_nil, im_int, im_str, im_slice, ims_0, ims_1, ims_2, ims_3, ims_4, ims_5, ims_6, ims_7, ims_8, ims_9, ims_10, ims_11, ims_12, ims_13, ims_14, ims_15, ims_16, ims_17]
  generalize pkL ob (kL (kR 2)) a10 = o10
  cases o10 with
  | none => rfl
  | some x10 =>
  simp only [Option.bind_some, Option.map_some, im_nil, im_int, im_str, im_slice, ims_0, ims_1, ims_2, ims_3, ims_4, ims_5, ims_6, ims_7, ims_8, ims_9, ims_10, ims_11, ims_12, ims_13, ims_14, ims_15, ims_16, ims_17]
  generalize pkL ob (kL (kR 2)) a11 = o11
  cases o11 with
  | none => rfl
  | some x11 =>
  simp only [Option.bind_some, Option.map_some, im_nil, im_int, im_str, im_slice, ims_0, ims_1, ims_2, ims_3, ims_4, ims_5, ims_6, ims_7, ims_8, ims_9, ims_10, ims_11, ims_12, ims_13, ims_14, ims_15, ims_16, ims_17]
  generalize pkL ob (kL (kR 17)) a12 = o12
  cases o12 with
  | none => rfl
  | some x12 =>
  simp only [Option.bind_some, Option.map_some, im_nil, im_int, im_str, im_slice, ims_0, ims_1, ims_2, ims_3, ims_4, ims_5, ims_6, ims_7, ims_8, ims_9, ims_10, ims_11, ims_12, ims_13, ims_14, ims_15, ims_16, ims_17]
  rfl
attribute [go_sem] pms_0 agg_0 pms_1 agg_1 pms_2 agg_2 pms_3 agg_3 pms_4 agg_4 pms_5 agg_5 pms_6 agg_6 pms_7 agg_7 pms_8 agg_8 pms_9 agg_9 pms_10 agg_10 pms_11 agg_11 pms_12 agg_12 pms_13 agg_13 pms_14 agg_14 pms_15 agg_15 pms_16 agg_16 pms_17 agg_17
end Go.Q

/- Helpers for the plain side. -/
set_option linter.unusedVariables false
namespace Go.Q
noncomputable def eqb {α : Type} (a b : α) : Bool := @decide (a = b) (Classical.propDecidable _)
theorem eqb_true {α : Type} {a b : α} : eqb a b = true ↔ a = b := by simp [eqb]
theorem eqb_false {α : Type} {a b : α} : eqb a b = false ↔ a ≠ b := by simp [eqb]
theorem eqb_self {α : Type} (a : α) : eqb a a = true := eqb_true.2 rfl
theorem eqb_eq {α : Type} {a b : α} (h : a = b) : true = eqb a b := (eqb_true.2 h).symm
theorem eqb_ne {α : Type} {a b : α} (h : a ≠ b) : false = eqb a b := (eqb_false.2 h).symm
theorem gt_at {α : Type} (xs : List α) (i : Nat) (h : i < xs.length) (z : α) : gt xs (i : Int) z = xs[i] := by
  simp [gt, List.getD_eq_getElem?_getD, List.getElem?_eq_getElem h]
theorem wrap_id {n : Int} (h0 : -9223372036854775808 ≤ n) (h1 : n ≤ 9223372036854775807) : IntKind.i64.wrap n = n := by
  simp only [IntKind.wrap, IntKind.bits, IntKind.signed]
  simp
  omega
theorem wrap_nat {n : Nat} (h1 : n < 9223372036854775807) : IntKind.i64.wrap ((n : Int) + 1) = ((n + 1 : Nat) : Int) := by
  rw [wrap_id (by omega) (by omega)]; rfl
/-- Two rows that agree everywhere. -/
theorem row_eq {α : Type} {a b : List α} (h : a.length = b.length) {z z' : α} (hh : ∀ j : Nat, j < a.length → gt a (j : Int) z = gt b (j : Int) z') : a = b := by
  apply List.ext_getElem h
  intro i h1 h2
  have := hh i h1
  rwa [gt_at _ _ h1, gt_at _ _ h2] at this
theorem below_succ {p : Nat → Prop} {i : Nat} (h : ∀ j, j < i → p j) (hi : p i) : ∀ j, j < i + 1 → p j := fun j hj => by
  rcases Nat.lt_or_ge j i with h' | h'
  · exact h j h'
  · have : j = i := by omega
    subst this; exact hi
/-- A row that has been copied in part. -/
def cpy {α : Type} (a : List α) (i : Nat) (z : α) : List α := a.take i ++ List.replicate (a.length - i) z
theorem cpy_len {α : Type} (a : List α) (i : Nat) (z : α) : (cpy a i z).length = a.length := by
  simp [cpy]; omega
theorem cpy_zero {α : Type} (a : List α) (z : α) : List.replicate a.length z = cpy a 0 z := by simp [cpy]
theorem cpy_all {α : Type} (a : List α) (z : α) {i : Nat} (h : a.length ≤ i) : cpy a i z = a := by
  simp [cpy, List.take_of_length_le h, Nat.sub_eq_zero_of_le h]
theorem cpy_set {α : Type} (a : List α) {i : Nat} (z z' : α) (h : i < a.length) : (cpy a i z).set i (gt a (i : Int) z') = cpy a (i + 1) z := by
  rw [gt_at a i h]
  apply List.ext_getElem
  · simp [cpy]; omega
  · intro j h1 h2
    simp only [List.length_set, cpy_len] at h1
    rw [List.getElem_set]
    simp only [cpy]
    by_cases e : i = j
    · subst e
      simp only [if_true]
      rw [List.getElem_append_left (by simp; omega), List.getElem_take]
    · simp only [e, if_false]
      by_cases hj : j < i
      · rw [List.getElem_append_left (by simp; omega), List.getElem_append_left (by simp; omega), List.getElem_take, List.getElem_take]
      · rw [List.getElem_append_right (by simp; omega), List.getElem_append_right (by simp; omega)]
        simp
/-- What is left of a bound. -/
def sz1 (k n : Int) : Int := if n - k < 0 then -1 else n - k
theorem sz1_nn {k n : Int} (h : 0 ≤ sz1 k n) : k ≤ n ∧ sz1 k n = n - k := by
  unfold sz1 at h ⊢
  split at h
  · omega
  · rename_i h'
    rw [if_neg h']
    omega
end Go.Q
namespace Go.Q
/-- The sizes of a row's first elements. -/
def pfx {α : Type} (f : α → Nat) (a : List α) (i : Nat) : Nat := ((a.take i).map f).sum
def szL {α : Type} (f : α → Nat) (a : List α) : Nat := a.length + (a.map f).sum
theorem pfx_zero {α : Type} (f : α → Nat) (a : List α) : pfx f a 0 = 0 := rfl
theorem pfx_succ {α : Type} (f : α → Nat) (a : List α) {i : Nat} (h : i < a.length) (z : α) : pfx f a (i + 1) = pfx f a i + f (gt a (i : Int) z) := by
  rw [gt_at a i h]
  simp only [pfx, List.take_add_one, List.getElem?_eq_getElem h, Option.toList_some, List.map_append, List.sum_append, List.map_cons, List.map_nil, List.sum_cons, List.sum_nil]
  omega
theorem pfx_all {α : Type} (f : α → Nat) (a : List α) {i : Nat} (h : a.length ≤ i) : pfx f a i = (a.map f).sum := by rw [pfx, List.take_of_length_le h]
theorem pfx_le {α : Type} (f : α → Nat) : ∀ (a : List α) (i : Nat), pfx f a i ≤ (a.map f).sum
  | [], i => by simp [pfx]
  | x :: xs, 0 => by simp [pfx]
  | x :: xs, i + 1 => by
    have := pfx_le f xs i
    simp only [pfx, List.take_succ_cons, List.map_cons, List.sum_cons] at this ⊢
    omega
end Go.Q
namespace Go.Q
theorem sz1_neg {k n : Int} (h : sz1 k n < 0) : n - k < 0 := by
  unfold sz1 at h
  split at h
  · assumption
  · omega
theorem sz1_of_neg {k n : Int} (h : n - k < 0) : -1 = sz1 k n := by rw [sz1, if_pos h]
theorem sz1_of_nn {k n m : Int} (h : m = n - k) (h0 : 0 ≤ m) : m = sz1 k n := by rw [sz1, if_neg (by omega)]; exact h
end Go.Q

/- Sizes of the data. -/
set_option linter.unusedVariables false
namespace Go.Q
mutual
def zTy : Ty → Nat
  | .mk _ x1 x2 => szL List.length x1 + zTys x2
def zTys : List Ty → Nat
  | [] => 0
  | x :: xs => 1 + zTy x + zTys xs
end
theorem zTys_eq : ∀ (a : List Ty), zTys a = szL zTy a
  | [] => by simp [zTys, szL]
  | x :: xs => by
    have := zTys_eq xs
    simp only [zTys, szL, List.length_cons, List.map_cons, List.sum_cons] at this ⊢
    omega
theorem zTy_f (t : Ty) : zTy t = szL List.length t.labels + szL zTy t.args := by
  cases t; simp only [zTy, zTys_eq]; rfl
mutual
def zVal : Val → Nat
  | .mk _ _ x2 x3 => szL List.length x2 + zVals x3
def zVals : List Val → Nat
  | [] => 0
  | x :: xs => 1 + zVal x + zVals xs
end
theorem zVals_eq : ∀ (a : List Val), zVals a = szL zVal a
  | [] => by simp [zVals, szL]
  | x :: xs => by
    have := zVals_eq xs
    simp only [zVals, szL, List.length_cons, List.map_cons, List.sum_cons] at this ⊢
    omega
theorem zVal_f (t : Val) : zVal t = szL List.length t.labels + szL zVal t.args := by
  cases t; simp only [zVal, zVals_eq]; rfl
mutual
def zTm : Tm → Nat
  | .mk _ x1 _ x3 x4 x5 => x1.length + zTy x3 + szL List.length x4 + zTms x5
def zTms : List Tm → Nat
  | [] => 0
  | x :: xs => 1 + zTm x + zTms xs
end
theorem zTms_eq : ∀ (a : List Tm), zTms a = szL zTm a
  | [] => by simp [zTms, szL]
  | x :: xs => by
    have := zTms_eq xs
    simp only [zTms, szL, List.length_cons, List.map_cons, List.sum_cons] at this ⊢
    omega
theorem zTm_f (t : Tm) : zTm t = t.name.length + zTy t.type + szL List.length t.labels + szL zTm t.args := by
  cases t; simp only [zTm, zTms_eq]; rfl
def zGen (t : Gen) : Nat := t.var.length + t.table.length
theorem zGen_f (t : Gen) : zGen t = t.var.length + t.table.length := (rfl)
def zTDecl (t : TDecl) : Nat := t.name.length + zTy t.row
theorem zTDecl_f (t : TDecl) : zTDecl t = t.name.length + zTy t.row := (rfl)
def zSchema (t : Schema) : Nat := szL zTDecl t.tables
theorem zSchema_f (t : Schema) : zSchema t = szL zTDecl t.tables := (rfl)
def zTData (t : TData) : Nat := t.name.length + szL zVal t.rows
theorem zTData_f (t : TData) : zTData t = t.name.length + szL zVal t.rows := (rfl)
def zDBase (t : DBase) : Nat := szL zTData t.tables
theorem zDBase_f (t : DBase) : zDBase t = szL zTData t.tables := (rfl)
def zTyping (t : Typing) : Nat := t.name.length + zTy t.type
theorem zTyping_f (t : Typing) : zTyping t = t.name.length + zTy t.type := (rfl)
mutual
def zHead : Head → Nat
  | .mk _ x1 x2 x3 x4 => zTm x1 + szL List.length x2 + zHeads x3 + zQuery x4
def zHeads : List Head → Nat
  | [] => 0
  | x :: xs => 1 + zHead x + zHeads xs
def zComp : Comp → Nat
  | .mk x0 x1 x2 => szL zGen x0 + zTm x1 + zHead x2
def zComps : List Comp → Nat
  | [] => 0
  | x :: xs => 1 + zComp x + zComps xs
def zQuery : Query → Nat
  | .mk x0 => zComps x0
end
theorem zHeads_eq : ∀ (a : List Head), zHeads a = szL zHead a
  | [] => by simp [zHeads, szL]
  | x :: xs => by
    have := zHeads_eq xs
    simp only [zHeads, szL, List.length_cons, List.map_cons, List.sum_cons] at this ⊢
    omega
theorem zComps_eq : ∀ (a : List Comp), zComps a = szL zComp a
  | [] => by simp [zComps, szL]
  | x :: xs => by
    have := zComps_eq xs
    simp only [zComps, szL, List.length_cons, List.map_cons, List.sum_cons] at this ⊢
    omega
theorem zHead_f (t : Head) : zHead t = zTm t.term + szL List.length t.labels + szL zHead t.parts + zQuery t.query := by
  cases t; simp only [zHead, zHeads_eq]; rfl
theorem zComp_f (t : Comp) : zComp t = szL zGen t.gens + zTm t.whr + zHead t.head := by
  cases t; simp only [zComp]; rfl
theorem zQuery_f (t : Query) : zQuery t = szL zComp t.comps := by
  cases t; simp only [zQuery, zComps_eq]; rfl
def zFComp (t : FComp) : Nat := szL zGen t.gens + zTm t.whr + szL zTm t.cols
theorem zFComp_f (t : FComp) : zFComp t = szL zGen t.gens + zTm t.whr + szL zTm t.cols := (rfl)
def zFQuery (t : FQuery) : Nat := szL List.length t.path + szL zFComp t.comps
theorem zFQuery_f (t : FQuery) : zFQuery t = szL List.length t.path + szL zFComp t.comps := (rfl)
def zKey (t : Key) : Nat := t.rows.length
theorem zKey_f (t : Key) : zKey t = t.rows.length := (rfl)
def zFRow (t : FRow) : Nat := zKey t.outer + zKey t.own + szL zVal t.cols
theorem zFRow_f (t : FRow) : zFRow t = zKey t.outer + zKey t.own + szL zVal t.cols := (rfl)
def zNRow (t : NRow) : Nat := szL zVal t.cols
theorem zNRow_f (t : NRow) : zNRow t = szL zVal t.cols := (rfl)
mutual
def zPlan : Plan → Nat
  | .mk _ x1 x2 x3 x4 x5 => x1.length + x2.length + zTm x3 + szL zTm x4 + zPlans x5
def zPlans : List Plan → Nat
  | [] => 0
  | x :: xs => 1 + zPlan x + zPlans xs
end
theorem zPlans_eq : ∀ (a : List Plan), zPlans a = szL zPlan a
  | [] => by simp [zPlans, szL]
  | x :: xs => by
    have := zPlans_eq xs
    simp only [zPlans, szL, List.length_cons, List.map_cons, List.sum_cons] at this ⊢
    omega
theorem zPlan_f (t : Plan) : zPlan t = t.var.length + t.table.length + zTm t.cond + szL zTm t.keys + szL zPlan t.args := by
  cases t; simp only [zPlan, zPlans_eq]; rfl
theorem ext_0 (a b : Ty) : a = b ↔ a.kind = b.kind ∧ a.labels = b.labels ∧ a.args = b.args := by
  constructor
  · rintro rfl; exact ⟨rfl, rfl, rfl⟩
  · rintro ⟨h0, h1, h2⟩; cases a; cases b; simp_all [Ty.kind, Ty.labels, Ty.args]
theorem ext_1 (a b : Val) : a = b ↔ a.kind = b.kind ∧ a.n = b.n ∧ a.labels = b.labels ∧ a.args = b.args := by
  constructor
  · rintro rfl; exact ⟨rfl, rfl, rfl, rfl⟩
  · rintro ⟨h0, h1, h2, h3⟩; cases a; cases b; simp_all [Val.kind, Val.n, Val.labels, Val.args]
theorem ext_2 (a b : Tm) : a = b ↔ a.kind = b.kind ∧ a.name = b.name ∧ a.n = b.n ∧ a.type = b.type ∧ a.labels = b.labels ∧ a.args = b.args := by
  constructor
  · rintro rfl; exact ⟨rfl, rfl, rfl, rfl, rfl, rfl⟩
  · rintro ⟨h0, h1, h2, h3, h4, h5⟩; cases a; cases b; simp_all [Tm.kind, Tm.name, Tm.n, Tm.type, Tm.labels, Tm.args]
theorem ext_3 (a b : Gen) : a = b ↔ a.var = b.var ∧ a.table = b.table := by
  constructor
  · rintro rfl; exact ⟨rfl, rfl⟩
  · rintro ⟨h0, h1⟩; cases a; cases b; simp_all [Gen.var, Gen.table]
theorem ext_4 (a b : TDecl) : a = b ↔ a.name = b.name ∧ a.row = b.row := by
  constructor
  · rintro rfl; exact ⟨rfl, rfl⟩
  · rintro ⟨h0, h1⟩; cases a; cases b; simp_all [TDecl.name, TDecl.row]
theorem ext_5 (a b : Schema) : a = b ↔ a.tables = b.tables := by
  constructor
  · rintro rfl; rfl
  · intro h; cases a; cases b; simp_all [Schema.tables]
theorem ext_6 (a b : TData) : a = b ↔ a.name = b.name ∧ a.rows = b.rows := by
  constructor
  · rintro rfl; exact ⟨rfl, rfl⟩
  · rintro ⟨h0, h1⟩; cases a; cases b; simp_all [TData.name, TData.rows]
theorem ext_7 (a b : DBase) : a = b ↔ a.tables = b.tables := by
  constructor
  · rintro rfl; rfl
  · intro h; cases a; cases b; simp_all [DBase.tables]
theorem ext_8 (a b : Typing) : a = b ↔ a.name = b.name ∧ a.type = b.type := by
  constructor
  · rintro rfl; exact ⟨rfl, rfl⟩
  · rintro ⟨h0, h1⟩; cases a; cases b; simp_all [Typing.name, Typing.type]
theorem ext_9 (a b : Head) : a = b ↔ a.kind = b.kind ∧ a.term = b.term ∧ a.labels = b.labels ∧ a.parts = b.parts ∧ a.query = b.query := by
  constructor
  · rintro rfl; exact ⟨rfl, rfl, rfl, rfl, rfl⟩
  · rintro ⟨h0, h1, h2, h3, h4⟩; cases a; cases b; simp_all [Head.kind, Head.term, Head.labels, Head.parts, Head.query]
theorem ext_10 (a b : Comp) : a = b ↔ a.gens = b.gens ∧ a.whr = b.whr ∧ a.head = b.head := by
  constructor
  · rintro rfl; exact ⟨rfl, rfl, rfl⟩
  · rintro ⟨h0, h1, h2⟩; cases a; cases b; simp_all [Comp.gens, Comp.whr, Comp.head]
theorem ext_11 (a b : Query) : a = b ↔ a.comps = b.comps := by
  constructor
  · rintro rfl; rfl
  · intro h; cases a; cases b; simp_all [Query.comps]
theorem ext_12 (a b : FComp) : a = b ↔ a.outer = b.outer ∧ a.outerGens = b.outerGens ∧ a.tag = b.tag ∧ a.gens = b.gens ∧ a.whr = b.whr ∧ a.cols = b.cols := by
  constructor
  · rintro rfl; exact ⟨rfl, rfl, rfl, rfl, rfl, rfl⟩
  · rintro ⟨h0, h1, h2, h3, h4, h5⟩; cases a; cases b; simp_all [FComp.outer, FComp.outerGens, FComp.tag, FComp.gens, FComp.whr, FComp.cols]
theorem ext_13 (a b : FQuery) : a = b ↔ a.path = b.path ∧ a.comps = b.comps := by
  constructor
  · rintro rfl; exact ⟨rfl, rfl⟩
  · rintro ⟨h0, h1⟩; cases a; cases b; simp_all [FQuery.path, FQuery.comps]
theorem ext_14 (a b : Key) : a = b ↔ a.tag = b.tag ∧ a.rows = b.rows := by
  constructor
  · rintro rfl; exact ⟨rfl, rfl⟩
  · rintro ⟨h0, h1⟩; cases a; cases b; simp_all [Key.tag, Key.rows]
theorem ext_15 (a b : FRow) : a = b ↔ a.outer = b.outer ∧ a.own = b.own ∧ a.cols = b.cols := by
  constructor
  · rintro rfl; exact ⟨rfl, rfl, rfl⟩
  · rintro ⟨h0, h1, h2⟩; cases a; cases b; simp_all [FRow.outer, FRow.own, FRow.cols]
theorem ext_16 (a b : NRow) : a = b ↔ a.outer = b.outer ∧ a.own = b.own ∧ a.cols = b.cols := by
  constructor
  · rintro rfl; exact ⟨rfl, rfl, rfl⟩
  · rintro ⟨h0, h1, h2⟩; cases a; cases b; simp_all [NRow.outer, NRow.own, NRow.cols]
theorem ext_17 (a b : Plan) : a = b ↔ a.kind = b.kind ∧ a.var = b.var ∧ a.table = b.table ∧ a.cond = b.cond ∧ a.keys = b.keys ∧ a.args = b.args := by
  constructor
  · rintro rfl; exact ⟨rfl, rfl, rfl, rfl, rfl, rfl⟩
  · rintro ⟨h0, h1, h2, h3, h4, h5⟩; cases a; cases b; simp_all [Plan.kind, Plan.var, Plan.table, Plan.cond, Plan.keys, Plan.args]
theorem szL_at {α : Type} (f : α → Nat) (a : List α) {i : Nat} (h : i < a.length) (z : α) : 1 + f (gt a (i : Int) z) ≤ szL f a := by
  have h1 := pfx_succ f a h z
  have h2 := pfx_le f a (i + 1)
  unfold szL
  omega
theorem RAv_int (k : IntKind) (m n : Int) : (RA.v (.int k) m = RA.v (.int k) n) = (m = n) := by simp
theorem RAv_bool (m n : Bool) : (RA.v .bool m = RA.v .bool n) = (m = n) := by simp
theorem feqb {α : Type} (a b : α) : (false = eqb a b) = ¬ (a = b) := by
  have := @eqb_false α a b
  exact propext ⟨fun h => this.1 h.symm, fun h => (this.2 h).symm⟩
theorem teqb {α : Type} (a b : α) : (true = eqb a b) = (a = b) := by
  have := @eqb_true α a b
  exact propext ⟨fun h => this.1 h.symm, fun h => (this.2 h).symm⟩
theorem eqbf {α : Type} (a b : α) : (eqb a b = false) = ¬ (a = b) := propext eqb_false
theorem eqbt {α : Type} (a b : α) : (eqb a b = true) = (a = b) := propext eqb_true
attribute [go_sem] feqb teqb eqbf eqbt
attribute [go_sem 2000] RAv_int RAv_bool
end Go.Q

/- Comparing values. -/
set_option linter.unusedVariables false
namespace Go.Q
def cmpI (a b : Int) : Int := if a < b then -1 else if b < a then 1 else 0
theorem cmpI_zero {a b : Int} : cmpI a b = 0 ↔ a = b := by
  unfold cmpI; split
  · constructor <;> intro h <;> omega
  · split
    · constructor <;> intro h <;> omega
    · constructor <;> intro h <;> omega
def cmpS (a b : Str) : Int := if Op.bytesLess a b then -1 else if a = b then 0 else 1
theorem less_irrefl : ∀ a : Str, Op.bytesLess a a = false
  | [] => rfl
  | x :: a => by simp [Op.bytesLess, less_irrefl a]
theorem cmpS_zero {a b : Str} : cmpS a b = 0 ↔ a = b := by
  unfold cmpS
  constructor
  · intro h
    split at h
    · cases h
    · split at h
      · assumption
      · cases h
  · rintro rfl
    simp [less_irrefl]
def or0 (a b : Int) : Int := if a = 0 then b else a
theorem or0_zero {a b : Int} : or0 a b = 0 ↔ a = 0 ∧ b = 0 := by
  unfold or0; split <;> simp_all
theorem or0_of {a b : Int} (h : a ≠ 0) : or0 a b = a := if_neg h
theorem or0_z (b : Int) : or0 0 b = b := if_pos rfl
theorem or0_n (a : Int) : or0 a 0 = a := by unfold or0; split <;> simp_all
def cmpL : List Str → List Str → Int
  | [], [] => 0
  | [], _ :: _ => -1
  | _ :: _, [] => 1
  | x :: xs, y :: ys => or0 (cmpS x y) (cmpL xs ys)
theorem cmpL_zero : ∀ {a b : List Str}, cmpL a b = 0 ↔ a = b
  | [], [] => by simp [cmpL]
  | [], _ :: _ => by simp [cmpL]
  | _ :: _, [] => by simp [cmpL]
  | x :: xs, y :: ys => by rw [cmpL, or0_zero, cmpS_zero, cmpL_zero]; simp
mutual
def cmpV : Val → Val → Int
  | .mk k n l a, .mk k' n' l' a' => or0 (or0 (cmpI k k') (or0 (cmpI n n') (or0 (cmpI a.length a'.length) (cmpL l l')))) (cmpVs a a')
def cmpVs : List Val → List Val → Int
  | x :: xs, y :: ys => or0 (cmpV x y) (cmpVs xs ys)
  | _, _ => 0
end
def cmpH (a b : Val) : Int := or0 (cmpI a.kind b.kind) (or0 (cmpI a.n b.n) (or0 (cmpI a.args.length b.args.length) (cmpL a.labels b.labels)))
theorem cmpV_f (a b : Val) : cmpV a b = or0 (cmpH a b) (cmpVs a.args b.args) := by cases a; cases b; rfl
theorem cmpH_zero {a b : Val} : cmpH a b = 0 ↔ a.kind = b.kind ∧ a.n = b.n ∧ a.args.length = b.args.length ∧ a.labels = b.labels := by
  simp only [cmpH, or0_zero, cmpI_zero, cmpL_zero, Int.natCast_inj]
mutual
theorem cmpV_zero : ∀ {a b : Val}, cmpV a b = 0 ↔ a = b
  | .mk k n l a, .mk k' n' l' a' => by
    rw [cmpV, or0_zero, or0_zero, or0_zero, or0_zero, cmpI_zero, cmpI_zero, cmpI_zero, cmpL_zero, Int.natCast_inj]
    constructor
    · rintro ⟨⟨rfl, rfl, h, rfl⟩, h2⟩
      rw [(cmpVs_zero h).1 h2]
    · intro h
      cases h
      exact ⟨⟨rfl, rfl, rfl, rfl⟩, (cmpVs_zero rfl).2 rfl⟩
theorem cmpVs_zero : ∀ {a b : List Val}, a.length = b.length → (cmpVs a b = 0 ↔ a = b)
  | [], [], _ => by simp [cmpVs]
  | [], _ :: _, h => by simp at h
  | _ :: _, [], h => by simp at h
  | x :: xs, y :: ys, h => by
    rw [cmpVs, or0_zero, cmpV_zero, cmpVs_zero (by simpa using h)]; simp
end
theorem drop_at {α : Type} (xs : List α) {i : Nat} (h : i < xs.length) (z : α) : xs.drop i = gt xs (i : Int) z :: xs.drop (i + 1) := by
  rw [gt_at xs i h]; exact List.drop_eq_getElem_cons h
theorem cmpVs_drop (a b : List Val) {i : Nat} (h : i < a.length) (h' : i < b.length) (z : Val) : cmpVs (a.drop i) (b.drop i) = or0 (cmpV (gt a (i : Int) z) (gt b (i : Int) z)) (cmpVs (a.drop (i + 1)) (b.drop (i + 1))) := by
  rw [drop_at a h z, drop_at b h' z, cmpVs]
theorem cmpVs_end (a b : List Val) {i : Nat} (h : a.length ≤ i) : cmpVs (a.drop i) (b.drop i) = 0 := by
  rw [List.drop_eq_nil_of_le h]; rfl
theorem cmpL_drop (a b : List Str) {i : Nat} (h : i < a.length) (h' : i < b.length) (z : Str) : cmpL (a.drop i) (b.drop i) = or0 (cmpS (gt a (i : Int) z) (gt b (i : Int) z)) (cmpL (a.drop (i + 1)) (b.drop (i + 1))) := by
  rw [drop_at a h z, drop_at b h' z, cmpL]
theorem cmpL_end (a b : List Str) {i : Nat} (h : a.length ≤ i) (h2 : i ≤ a.length) : cmpL (a.drop i) (b.drop i) = if (a.length : Int) < b.length then -1 else 0 := by
  rw [List.drop_eq_nil_of_le h]
  cases hb : b.drop i with
  | nil => have := List.drop_eq_nil_iff.1 hb; rw [if_neg (by omega)]; rfl
  | cons y ys => have : i < b.length := by rcases Nat.lt_or_ge i b.length with h3 | h3; exact h3; rw [List.drop_eq_nil_of_le h3] at hb; cases hb
                 rw [if_pos (by omega)]; rfl
theorem cmpL_over (a b : List Str) {i : Nat} (h : i < a.length) (h' : b.length ≤ i) : cmpL (a.drop i) (b.drop i) = 1 := by
  rw [List.drop_eq_nil_of_le h', List.drop_eq_getElem_cons h]; rfl
end Go.Q

/- From a row's reading of its arguments to plain data. -/
set_option linter.unusedVariables false
namespace Go.Q
/-- Types, and the codes that they bear. -/
abbrev TT := List (TypeId × Ki)
def inT (T : TT) (t : TypeId) (c : Ki) : Bool := T.any fun p => p.1 == t && decide (p.2 = c)
section
variable (P : Program) (T : TT)
def fsOk : Nat → List Field → List Ki → Bool
  | _, [], [] => true
  | o, f :: fs, c :: cs => f.offset == o && inT T f.type c && P.cellsOf f.type == c.sz && fsOk (o + c.sz) fs cs
  | _, _, _ => false
def tyOk : TypeId × Ki → Bool
  | (t, .int k) => (match P.underlying t with | some (.int k') => k == k' | _ => false)
  | (t, .bool) => (match P.underlying t with | some .bool => true | _ => false)
  | (t, .str) => (match P.underlying t with | some .string => true | _ => false)
  | (t, .slice c) => (match P.underlying t with | some (.slice e) => inT T e c && P.cellsOf e == c.sz && Nat.blt 0 c.sz | _ => false)
  | (t, .struct n) => (match P.underlying t with | some (.struct fs) => fsOk P T 0 fs.toList (flds n) && P.cellsOf t == ssz n | _ => false)
  | (_, .ptr _) => false
def ttOk : Bool := T.all (tyOk P T)
end
theorem exists_list {α : Type} {n : Nat} {p : Nat → α → Prop} (h : ∀ i, i < n → ∃ x, p i x) : ∃ xs : List α, xs.length = n ∧ ∀ i (hi : i < xs.length), p i xs[i] := by
  induction n with
  | zero => exact ⟨[], rfl, fun i hi => absurd hi (Nat.not_lt_zero _)⟩
  | succ n ih =>
    obtain ⟨xs, hl, hx⟩ := ih fun i hi => h i (Nat.lt_succ_of_lt hi)
    obtain ⟨x, hp⟩ := h n (Nat.lt_succ_self n)
    refine ⟨xs ++ [x], by simp [hl], fun i hi => ?_⟩
    by_cases e : i < xs.length
    · rw [List.getElem_append_left e]; exact hx i e
    · have e' : i = n := by simp at hi; omega
      subst e'
      rw [List.getElem_append_right (by omega)]
      simpa [hl] using hp
section
variable {P : Program} {T : TT} {H : Type} {enc : TypeId × Value → H} {w : World} {sp : Nat → Bool} {hd : Bool}
theorem ttOk_at (hT : ttOk P T = true) {t : TypeId} {c : Ki} (h : inT T t c = true) : tyOk P T (t, c) = true := by
  simp only [inT, List.any_eq_true, Bool.and_eq_true, beq_iff_eq, decide_eq_true_eq] at h
  obtain ⟨⟨t', c'⟩, hm, rfl, rfl⟩ := h
  exact List.all_eq_true.1 hT _ hm
theorem cell_lt {a : Addr} {u : Value} (h : w.cell? a = some u) : a.block < w.heap.size := by
  rcases Nat.lt_or_ge a.block w.heap.size with h' | h'
  · exact h'
  · simp [World.cell?, Array.getElem?_eq_none h'] at h
theorem cells_of {a : Addr} {n : Nat} {cs : List Value} (h : w.cells? 0 a n = some cs) : cs.length = n ∧ Cells w a cs := by
  simp only [World.cells?, Nat.zero_le, if_true] at h
  have hl := mapM_some_length h
  simp only [List.length_range] at hl
  refine ⟨hl, fun j u hj => ?_⟩
  have hlt : j < n := hl ▸ (List.getElem?_eq_some_iff.1 hj).1
  have := mapM_some_get h j j (by simp [hlt])
  rw [this, hj]
theorem fs_K {n : Nat} {F : Nat → Prop} (ih : ∀ {t c cs x}, inT T t c = true → DataW.trod enc P w 0 sp hd n t cs = some x → ∃ y : c.T, K F w n c y cs) {cs : List Value} : ∀ {fs : List Field} {ks : List Ki} {o : Nat}, fsOk P T o fs ks = true → o + szs ks ≤ cs.length →
    (∀ f ∈ fs, ∃ r, DataW.trod enc P w 0 sp hd n f.type ((cs.drop f.offset).take (P.cellsOf f.type)) = some r) → ∃ h : HL ks, HAll (K F w n) ks h ((cs.drop o).take (szs ks))
  | [], [], o, _, _, _ => ⟨(), by simp [szs, HAll]⟩
  | [], _ :: _, _, h, _, _ => by simp [fsOk] at h
  | _ :: _, [], _, h, _, _ => by simp [fsOk] at h
  | f :: fs, c :: ks, o, h, hl, hr => by
    simp only [fsOk, Bool.and_eq_true, beq_iff_eq] at h
    obtain ⟨⟨⟨rfl, ht⟩, hc⟩, hfs⟩ := h
    simp only [szs] at hl ⊢
    obtain ⟨r, h1⟩ := hr f (by simp)
    obtain ⟨y, hy⟩ := ih ht h1
    obtain ⟨hh, hhy⟩ := fs_K ih hfs (by omega) fun g hg => hr g (List.mem_cons_of_mem _ hg)
    rw [hc] at hy
    refine ⟨(y, hh), (cs.drop f.offset).take c.sz, (cs.drop (f.offset + c.sz)).take (szs ks), ?_, by simp; omega, hy, hhy⟩
    rw [← List.drop_drop, ← List.take_add]
/-- What a row reads is plain data. -/
theorem trod_K (hT : ttOk P T = true) : ∀ {fuel : Nat} {t : TypeId} {c : Ki} {cs : List Value} {x : DataW H × List MemPlace}, inT T t c = true → DataW.trod enc P w 0 sp hd fuel t cs = some x → ∃ y : c.T, K (fun b => b < w.heap.size) w fuel c y cs := by
  intro fuel
  induction fuel with
  | zero => intro t c cs x _ h; simp [DataW.trod] at h
  | succ fuel ih =>
    intro t c cs x hin h
    have hty := ttOk_at hT hin
    cases c with
    | int k =>
      simp only [tyOk] at hty
      split at hty
      · rename_i k' hu
        obtain rfl : k = k' := by simpa using hty
        obtain ⟨n, rfl, _, hw⟩ := DataW.trod_int hu h
        refine ⟨n, rfl, ?_⟩
        simpa [Lit.wf, inR] using hw
      · cases hty
    | bool =>
      simp only [tyOk] at hty
      split at hty
      · rename_i hu
        obtain ⟨b, rfl, _⟩ := DataW.trod_bool hu h
        exact ⟨b, rfl⟩
      · cases hty
    | str =>
      simp only [tyOk] at hty
      split at hty
      · rename_i hu
        obtain ⟨s, rfl, _, hs⟩ := DataW.trod_string hu h
        refine ⟨s.data.toList, by simp, ?_⟩
        have : s.data.size = s.size := rfl
        simp only [Array.length_toList]
        omega
      · cases hty
    | slice c =>
      simp only [tyOk] at hty
      split at hty
      · rename_i e hu
        simp only [Bool.and_eq_true, beq_iff_eq] at hty
        obtain ⟨⟨hin', hsz⟩, hpos⟩ := hty
        have hpos' : 0 < c.sz := by simpa [Nat.blt_eq] using hpos
        rcases DataW.trod_slice hu h with ⟨rfl, _⟩ | ⟨a, len, cap, elems, rest, n, hn, rfl, _, _, hl, hcap, hel, hat, _, _⟩
        · exact ⟨[], none, 0, rfl, Nat.le_refl _, Nat.zero_le _, fun i hi => absurd hi (Nat.not_lt_zero _)⟩
        · cases hn
          have key : ∀ i, i < len → ∃ y : c.T, ∃ es, es.length = c.sz ∧ Cells w (a.add (i * c.sz)) es ∧ K (fun b => b < w.heap.size) w fuel c y es := fun i hi => by
            have h1 := hat i hi
            rw [hsz] at h1
            have h2 : elems[i]? = some elems[i] := List.getElem?_eq_getElem (by omega)
            rw [h2, Option.bind_eq_some_iff] at h1
            obtain ⟨es, hcs, htr⟩ := h1
            obtain ⟨hlen, hcells⟩ := cells_of hcs
            obtain ⟨y, hy⟩ := ih hin' htr
            exact ⟨y, es, hlen, hcells, hy⟩
          obtain ⟨xs, hxl, hx⟩ := exists_list key
          refine ⟨xs, some a, cap, by rw [hxl], by omega, hcap, fun i hi => ?_⟩
          obtain ⟨es, h1, h2, h3⟩ := hx i hi
          refine ⟨a, es, rfl, ?_, h1, h2, h3⟩
          obtain ⟨e0, he0⟩ : ∃ e0, es[0]? = some e0 := ⟨es[0]'(by omega), List.getElem?_eq_getElem (by omega)⟩
          have := cell_lt (h2 0 e0 he0)
          have hb : ((a.add (i * c.sz)).add 0).block = a.block := by
            unfold Addr.add
            split <;> split <;> rfl
          rwa [hb] at this
      · cases hty
    | struct n =>
      simp only [tyOk] at hty
      split at hty
      · rename_i fs hu
        simp only [Bool.and_eq_true, beq_iff_eq] at hty
        obtain ⟨hfs, hsz⟩ := hty
        obtain ⟨xs, m, hm, _, hlen, hxl, hat⟩ := DataW.trod_struct hu h
        cases hm
        have hall : ∀ f ∈ fs.toList, ∃ r, DataW.trod enc P w 0 sp hd fuel f.type ((cs.drop f.offset).take (P.cellsOf f.type)) = some r := fun f hf => by
          obtain ⟨i, hi⟩ := List.getElem?_of_mem hf
          have hi' : fs[i]? = some f := by simpa using hi
          have hlt : i < fs.size := (Array.getElem?_eq_some_iff.1 hi').1
          exact ⟨xs[i]'(by omega), (hat i f hi').trans (List.getElem?_eq_getElem (by omega))⟩
        obtain ⟨hh, hhy⟩ := fs_K ih hfs (by rw [hlen, hsz, ssz_flds]; omega) hall
        refine ⟨mk n hh, ?_⟩
        show HAll _ (flds n) (un n (mk n hh)) cs
        rw [un_mk]
        rw [List.drop_zero, List.take_of_length_le (by rw [hlen, hsz, ssz_flds]; omega)] at hhy
        exact hhy
      · cases hty
    | ptr c => simp [tyOk] at hty
/-- An argument's value. -/
theorem trod_arg (hT : ttOk P T = true) {t : TypeId} {c : Ki} {v : Value} {d : DataW H} {ps : List MemPlace} {r : Reach} {base : Nat} (hin : inT T t c = true) (hval : Value.okWide P w r base t v) (h : DataW.Trod enc P w 0 sp hd t v d ps) :
    ∃ x : c.T, RepV (fun _ => undef) (fun b => b < w.heap.size) w (.v c x) v := by
  obtain ⟨fuel, h⟩ := h
  obtain ⟨x, hx⟩ := trod_K hT hin h
  refine ⟨x, RepV_cells ⟨fuel, hx⟩ ?_⟩
  have hty := ttOk_at hT hin
  cases c with
  | int k =>
    simp only [tyOk] at hty
    split at hty
    · rename_i k' hu
      obtain ⟨n, rfl⟩ := WideShapes.okWide_int hu hval
      simp [valOf, Ki.isS, Value.cells]
    · cases hty
  | bool =>
    simp only [tyOk] at hty
    split at hty
    · rename_i hu
      obtain ⟨n, rfl⟩ := WideShapes.okWide_bool hu hval
      simp [valOf, Ki.isS, Value.cells]
    · cases hty
  | str =>
    simp only [tyOk] at hty
    split at hty
    · rename_i hu
      obtain ⟨n, rfl⟩ := WideShapes.okWide_string hu hval
      simp [valOf, Ki.isS, Value.cells]
    · cases hty
  | slice c =>
    simp only [tyOk] at hty
    split at hty
    · rename_i e hu
      obtain ⟨a, l, cp, rfl⟩ := WideShapes.okWide_slice hu hval
      simp [valOf, Ki.isS, Value.cells]
    · cases hty
  | struct n =>
    simp only [tyOk] at hty
    split at hty
    · rename_i fs hu
      obtain ⟨cs, rfl, _⟩ := WideShapes.okWide_struct hu hval
      simp [valOf, Ki.isS, Value.cells]
    · cases hty
  | ptr c => simp [tyOk] at hty
end
end Go.Q

/- A law's row, from its contract. -/
set_option linter.unusedVariables false
namespace Go.Q
open Go.ChangeShapes Go.WideShapes Go.RowKit
/-- Arguments of these kinds. -/
def Kinds : List Ki → List SA → Prop
  | [], [] => True
  | c :: cs, .v c' _ :: r => c = c' ∧ Kinds cs r
  | _, _ => False
def inTs (T : TT) : List TypeId → List Ki → Bool
  | [], [] => true
  | t :: ts, c :: cs => inT T t c && inTs T ts cs
  | _, _ => false
section
variable {P : Program} {T : TT} {H : Type} {enc : TypeId × Value → H} {w : World}
theorem trod_args (hT : ttOk P T = true) {base : Nat} : ∀ {ts : List TypeId} {ks : List Ki} {vs : List Value} {ds : List (DataW H)} {ps : List MemPlace}, inTs T ts ks = true → (∀ (j : Nat) t v, ts[j]? = some t → vs[j]? = some v → Value.okWide P w .any base t v) →
    DataW.TrodAll enc P w 0 (fun _ => true) true ts vs ds ps → ∃ as, Kinds ks as ∧ ArgsR (fun b => b < w.heap.size) w as vs
  | [], [], vs, ds, ps, _, _, h => by
    obtain ⟨rfl, rfl, rfl⟩ := trodAll_nil h
    exact ⟨[], trivial, rfl⟩
  | [], _ :: _, _, _, _, hi, _, _ => by simp [inTs] at hi
  | _ :: _, [], _, _, _, hi, _, _ => by simp [inTs] at hi
  | t :: ts, c :: ks, vs, ds, ps, hi, hv, h => by
    simp only [inTs, Bool.and_eq_true] at hi
    obtain ⟨v, vs', d, ds', a, b, rfl, rfl, rfl, h1, h2⟩ := trodAll_cons h
    obtain ⟨x, hx⟩ := trod_arg hT hi.1 (hv 0 t v rfl rfl) h1
    obtain ⟨as, hk, has⟩ := trod_args hT hi.2 (fun j t v h h' => hv (j + 1) t v (by simpa using h) (by simpa using h')) h2
    exact ⟨.v c x :: as, ⟨rfl, hk⟩, v, vs', rfl, hx, has⟩
theorem trod_stay (hl : laidOutB P = true) {W' : World} (hb : Below w.heap.size w W') : ∀ {ts : List TypeId} {vs : List Value} {ds : List (DataW H)} {ps : List MemPlace}, (∀ t ∈ ts, P.readableRec t = true ∧ t < P.types.size) → (∀ x ∈ ps, x.block < w.heap.size) →
    DataW.TrodAll enc P w 0 (fun _ => true) true ts vs ds ps → DataW.TrodAll enc P W' 0 (fun b => decide (b < w.heap.size)) true ts vs ds ps
  | [], vs, ds, ps, _, _, h => by
    obtain ⟨rfl, rfl, rfl⟩ := trodAll_nil h
    exact trodAll_mk0
  | t :: ts, vs, ds, ps, hr, hp, h => by
    obtain ⟨v, vs', d, ds', a, b, rfl, rfl, rfl, h1, h2⟩ := trodAll_cons h
    exact ⟨a, b, Below.trod hl (hr t (by simp)).1 (hr t (by simp)).2 h1 hb (fun x hx => hp x (List.mem_append_left _ hx)), trod_stay hl hb (fun t ht => hr t (List.mem_cons_of_mem _ ht)) (fun x hx => hp x (List.mem_append_right _ hx)) h2, rfl⟩
theorem Ext.below {ow' : Own} {W W' : World} (h : Ext (fun _ => none) W ow' W') : Below W.heap.size W W' :=
  ⟨h.os, h.tape, h.output, h.size, fun k hk => (h.block k hk rfl).2⟩
/-- A law that holds of all data of its parameters' kinds answers as its row says. -/
theorem law_post {f : FuncId} {fn : Func} {s : ChangeSpec} {ks : List Ki} {tb : TypeId} (hT : ttOk P T = true) (hl : laidOutB P = true) (hin : inTs T fn.params.toList ks = true)
    (hread : fn.params.toList.all (fun t => P.readableRec t && decide (t < P.types.size)) = true) (hres : fn.resultTypes = #[tb]) (htb : P.underlying tb = some .bool) (hvars : s.vars = [])
    (hspec : ∀ as : List SA, Kinds ks as → ∀ (ds : List (DataW H)), ds.length = ks.length → (s.fn H (ds ++ [])).results = [.lit (.bool true)] ∧ (s.fn H (ds ++ [])).args = ds ∧ (s.fn H (ds ++ [])).vars = [])
    (hlaw : ∀ as, Kinds ks as → Sp P f as (.v .bool true))
    (W : World) (base : Nat) (args : Array Value) (ds gs : List (DataW H)) (before : List MemPlace)
    (hval : ∀ (j : Nat) t v, fn.params[j]? = some t → args[j]? = some v → Value.okWide P W .any base t v)
    (hW : DataW.Whole enc P fn.params.toList s.vars false W args.toList ds gs before) :
    Calls P f args W fun e W' => ∃ v, e = .returned v ∧ s.post enc P fn false true false false W args v W' := by
  have hW' := hW
  obtain ⟨p, q, hA, hV, rfl, _, _⟩ := hW
  rw [hvars] at hV
  obtain ⟨rfl, rfl⟩ := trodVars_none hV
  simp only [List.append_nil] at hW'
  have hlt : ∀ x ∈ p, x.block < W.heap.size := fun x hx => by simpa using hW'.lt x hx
  obtain ⟨as, hk, has⟩ := trod_args hT hin (fun j t v h h' => hval j t v (by simpa using h) (by simpa using h')) hA
  have hlen : ∀ {ts : List TypeId} {ks : List Ki} {vs : List Value} {ds : List (DataW H)} {ps : List MemPlace}, inTs T ts ks = true → DataW.TrodAll enc P W 0 (fun _ => true) true ts vs ds ps → ds.length = ks.length := by
    intro ts
    induction ts with
    | nil => intro ks vs ds ps hi h; cases ks with
      | nil => obtain ⟨_, rfl, _⟩ := trodAll_nil h; rfl
      | cons _ _ => simp [inTs] at hi
    | cons t ts ih => intro ks vs ds ps hi h; cases ks with
      | nil => simp [inTs] at hi
      | cons c ks =>
        simp only [inTs, Bool.and_eq_true] at hi
        obtain ⟨v, vs', d, ds', a, b, rfl, rfl, rfl, h1, h2⟩ := trodAll_cons h
        simp [ih hi.2 h2]
  obtain ⟨e1, e2, e3⟩ := hspec as hk ds (hlen hin hA)
  have hc := (hlaw as hk).2 (fun b => b < W.heap.size) W args.toList (fun b h => h) has
  have harr : args.toList.toArray = args := by simp
  rw [harr] at hc
  refine hc.mono fun e W' h => ?_
  obtain ⟨u, ow', rfl, hR, he⟩ := h
  obtain ⟨σ, hV, _⟩ := hR
  obtain rfl : u = .bool true := RepV_bool.1 hV
  have hb := he.below
  refine ⟨_, rfl, ⟨ds, [], p, [], p, [], hW', ?_, ?_, ?_, hb.frame _, fun h => by cases h⟩⟩
  · rw [e1, hres]
    exact trodAll_cons_mk (shut_bool htb _) trodAll_mk0
  · rw [e2]
    exact trod_stay hl hb (fun t ht => by
      have := List.all_eq_true.1 hread t ht
      simpa using this) hlt hA
  · rw [e3, hvars]
    rfl
end
end Go.Q
