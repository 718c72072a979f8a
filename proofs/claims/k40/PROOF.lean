import PyProof.Rows.All
import Wide.All
import OpenK.AllK
import Wide.FinOn
import HandS.ForMost
import HandS.Wide
import HandS.WideMore
import HandS.WideBits
import HandS.IsInst
import HandS.SortInts
import HandS.SetFor
import HandS.Zip
import HandS.Rev
import HandS.RevRange
import HandS.Flow
import HandS.Style
import HandS.Conv
import HandS.NoneIn
import HandS.EndBits
import HandS.More
import HandS.Dict
import HandS.Iter
import HandS.Strs
import PySem.Challenge.RW_everyplace_k40_lines_and_points
set_option Elab.async false
set_option linter.all false
set_option maxRecDepth 100000
set_option maxHeartbeats 4000000
/-! MiP: partial functions of plain Lean, into which the program is read. -/
namespace Mi

/-! ### plain side: partial functions of plain Lean -/
theorem bind_some {α β : Type} {m : Option α} {f : α → Option β} {r : β} (h : m.bind f = some r) : ∃ a, m = some a ∧ f a = some r := by
  cases m with
  | none => cases h
  | some a => exact ⟨a, rfl, h⟩
def mulO (a b : Int) : Option Int := if a.natAbs.log2 + b.natAbs.log2 < 134000000 then some (a * b) else none
def divO (a b : Int) : Option Int := if b ≠ 0 ∧ (b.natAbs.log2 < 9000 ∨ a.natAbs.log2 ≤ b.natAbs.log2 + 3000) then some (a.fdiv b) else none
def modO (a b : Int) : Option Int := if b ≠ 0 then some (a.fmod b) else none
def powO (a b : Int) : Option Int := if 0 ≤ b ∧ b ≤ 1000000 ∧ a.natAbs < 2 ^ 64 then some (a ^ b.toNat) else none
def shlO (a b : Int) : Option Int := if 0 ≤ b ∧ b ≤ 1000000 ∧ a.natAbs < 2 ^ 64 then some (a * 2 ^ b.toNat) else none
def shrO (a b : Int) : Option Int := if 0 ≤ b then some (a / 2 ^ b.toNat) else none
/-- the item at a place, counted from the end where it is below 0 -/
def ixO {α : Type} (xs : List α) (i : Int) : Option α := if 0 ≤ i then xs[i.toNat]? else if -(xs.length : Int) ≤ i then xs[(i + xs.length).toNat]? else none
def setO {α : Type} (xs : List α) (i : Int) (x : α) : Option (List α) := if 0 ≤ i ∧ i < xs.length then some (xs.set i.toNat x) else if i < 0 ∧ -(xs.length : Int) ≤ i then some (xs.set (i + xs.length).toNat x) else none
def appO {α : Type} (xs : List α) (x : α) : Option (List α) := if xs.length < 16000000 then some (xs ++ [x]) else none
def catO {α : Type} (xs ys : List α) : Option (List α) := if xs.length + ys.length ≤ 16000000 then some (xs ++ ys) else none
def cutIx (n d : Nat) : Option Int → Nat
  | none => d
  | some v => ((if v < 0 then max (v + (n : Int)) 0 else min v (n : Int))).toNat
def cutL {α : Type} (xs : List α) (lo hi : Option Int) : List α := (xs.drop (cutIx xs.length 0 lo)).take (cutIx xs.length xs.length hi - cutIx xs.length 0 lo)
/-- lo, lo + 1 .. below hi -/
def rangeL (lo hi : Int) : List Int := (List.range (hi - lo).toNat).map fun (i : Nat) => lo + (i : Int)
def rangeO (lo hi : Int) : Option (List Int) := if -(2 ^ 62) ≤ lo ∧ lo < 2 ^ 62 ∧ -(2 ^ 62) ≤ hi ∧ hi < 2 ^ 62 then some (rangeL lo hi) else none
/-- .. of no more than sixteen million -/
def rangeC (lo hi : Int) : Option (List Int) := if -(2 ^ 62) ≤ lo ∧ lo < 2 ^ 62 ∧ -(2 ^ 62) ≤ hi ∧ hi < 2 ^ 62 ∧ (hi - lo).toNat ≤ 16000000 then some (rangeL lo hi) else none
/-- how a turn ends: on, out, or handing back -/
inductive Fl (S R : Type) where
  | nx (s : S) | ex (s : S) | rt (r : R)
section
variable {S R α β : Type}
def itN (c : S → Option Bool) (b : S → Option S) : Nat → S → Option S
  | 0, _ => none
  | n + 1, s => (c s).bind fun t => cond t ((b s).bind fun s' => itN c b n s') (some s)
theorem itN_mono {c : S → Option Bool} {b : S → Option S} : ∀ {n m : Nat} {s r : S}, itN c b n s = some r → n ≤ m → itN c b m s = some r
  | 0, _, _, _, h, _ => by cases h
  | n + 1, 0, _, _, _, l => absurd l (Nat.not_succ_le_zero n)
  | n + 1, m + 1, s, r, h, l => by
    obtain ⟨t, h1, h2⟩ := bind_some (show (c s).bind _ = some r from h)
    show (c s).bind _ = some r
    rw [h1]
    cases t with
    | false => exact h2
    | true =>
      obtain ⟨s', h3, h4⟩ := bind_some (show (b s).bind _ = some r from h2)
      show (b s).bind _ = some r
      rw [h3]
      exact itN_mono h4 (Nat.le_of_succ_le_succ l)
open Classical in
/-- while, without a return in it -/
noncomputable def whileN (c : S → Option Bool) (b : S → Option S) (s : S) : Option S := if h : ∃ n r, itN c b n s = some r then some (Classical.choose (Classical.choose_spec h)) else none
theorem whileN_iff {c : S → Option Bool} {b : S → Option S} {s r : S} : whileN c b s = some r ↔ ∃ n, itN c b n s = some r := by
  unfold whileN
  by_cases h : ∃ n r, itN c b n s = some r
  · rw [dif_pos h]
    have q := Classical.choose_spec (Classical.choose_spec h)
    refine ⟨fun e => ⟨Classical.choose h, ?_⟩, fun ⟨n, e⟩ => ?_⟩
    · rw [q]
      exact e
    · have x := itN_mono q (Nat.le_max_left (Classical.choose h) n)
      have y := itN_mono e (Nat.le_max_right (Classical.choose h) n)
      rw [x] at y
      exact y
  · rw [dif_neg h]
    exact ⟨fun e => (nomatch e), fun ⟨n, e⟩ => absurd ⟨n, r, e⟩ h⟩
def itR (c : S → Option Bool) (b : S → Option (Fl S R)) : Nat → S → Option (Sum S R)
  | 0, _ => none
  | n + 1, s => (c s).bind fun t => cond t ((b s).bind fun f => match f with
    | .nx s' => itR c b n s'
    | .ex s' => some (.inl s')
    | .rt r => some (.inr r)) (some (.inl s))
theorem itR_mono {c : S → Option Bool} {b : S → Option (Fl S R)} : ∀ {n m : Nat} {s : S} {r : Sum S R}, itR c b n s = some r → n ≤ m → itR c b m s = some r
  | 0, _, _, _, h, _ => by cases h
  | n + 1, 0, _, _, _, l => absurd l (Nat.not_succ_le_zero n)
  | n + 1, m + 1, s, r, h, l => by
    obtain ⟨t, h1, h2⟩ := bind_some (show (c s).bind _ = some r from h)
    show (c s).bind _ = some r
    rw [h1]
    cases t with
    | false => exact h2
    | true =>
      obtain ⟨s', h3, h4⟩ := bind_some (show (b s).bind _ = some r from h2)
      show (b s).bind _ = some r
      rw [h3]
      cases s' with
      | nx s' => exact itR_mono (n := n) (m := m) h4 (Nat.le_of_succ_le_succ l)
      | ex s' => exact h4
      | rt r => exact h4
open Classical in
/-- while, with a return or a break in it -/
noncomputable def whileR (c : S → Option Bool) (b : S → Option (Fl S R)) (s : S) : Option (Sum S R) := if h : ∃ n r, itR c b n s = some r then some (Classical.choose (Classical.choose_spec h)) else none
theorem whileR_iff {c : S → Option Bool} {b : S → Option (Fl S R)} {s : S} {r : Sum S R} : whileR c b s = some r ↔ ∃ n, itR c b n s = some r := by
  unfold whileR
  by_cases h : ∃ n r, itR c b n s = some r
  · rw [dif_pos h]
    have q := Classical.choose_spec (Classical.choose_spec h)
    refine ⟨fun e => ⟨Classical.choose h, ?_⟩, fun ⟨n, e⟩ => ?_⟩
    · rw [q]
      exact e
    · have x := itR_mono q (Nat.le_max_left (Classical.choose h) n)
      have y := itR_mono e (Nat.le_max_right (Classical.choose h) n)
      rw [x] at y
      exact y
  · rw [dif_neg h]
    exact ⟨fun e => (nomatch e), fun ⟨n, e⟩ => absurd ⟨n, r, e⟩ h⟩
/-- for, without a return in it -/
def forN (b : S → α → Option S) : List α → S → Option S
  | [], s => some s
  | x :: xs, s => (b s x).bind fun s' => forN b xs s'
def forR (b : S → α → Option (Fl S R)) : List α → S → Option (Sum S R)
  | [], s => some (.inl s)
  | x :: xs, s => (b s x).bind fun f => match f with
    | .nx s' => forR b xs s'
    | .ex s' => some (.inl s')
    | .rt r => some (.inr r)
/-- a comprehension -/
def mapO (f : α → Option β) : List α → Option (List β)
  | [] => some []
  | x :: xs => (f x).bind fun y => (mapO f xs).bind fun ys => some (y :: ys)
def filO (c : α → Option Bool) (f : α → Option β) : List α → Option (List β)
  | [] => some []
  | x :: xs => (c x).bind fun t => cond t ((f x).bind fun y => (filO c f xs).bind fun ys => some (y :: ys)) (filO c f xs)
end
structure T3 (α β γ : Type) where
  a : α
  b : β
  c : γ
  deriving DecidableEq
structure T4 (α β γ δ : Type) where
  a : α
  b : β
  c : γ
  d : δ
  deriving DecidableEq
structure T5 (α β γ δ ε : Type) where
  a : α
  b : β
  c : γ
  d : δ
  e : ε
  deriving DecidableEq
structure KL (α : Type) where
  l : List α
structure TL (α : Type) where
  l : List α
def flE {S R β : Type} (f : S → β) (g : R → β) : Fl S R → β
  | .nx s => f s
  | .ex s => f s
  | .rt r => g r
/-- lo, lo + c, .. below hi, c above 0 -/
def rangeS (lo hi c : Int) : Option (List Int) := if -(2 ^ 61) ≤ lo ∧ lo < 2 ^ 61 ∧ -(2 ^ 61) ≤ hi ∧ hi < 2 ^ 61 then some ((List.range ((hi - lo + c - 1) / c).toNat).map fun (i : Nat) => lo + (i : Int) * c) else none
/-- sorted -/
def insI (x : Int) : List Int → List Int
  | [] => [x]
  | y :: r => if x ≤ y then x :: y :: r else y :: insI x r
def sortI : List Int → List Int
  | [] => []
  | x :: r => insI x (sortI r)
/-! dicts with whole numbers as keys -/
structure DI (β : Type) where
  l : List (Int × β)
section
variable {β : Type}
def dfind (l : List (Int × β)) (k : Int) : Option β := (l.find? fun x => decide (x.1 = k)).map (·.2)
def dput (l : List (Int × β)) (k : Int) (v : β) : List (Int × β) := if (l.any fun x => decide (x.1 = k)) = true then l.map (fun x => if x.1 = k then (x.1, v) else x) else l ++ [(k, v)]
def dputO (d : DI β) (k : Int) (v : β) : Option (DI β) := if d.l.length < 16000000 then some ⟨dput d.l k v⟩ else none
def dgetO (d : DI β) (k : Int) : Option β := dfind d.l k
def dhas (d : DI β) (k : Int) : Bool := (dfind d.l k).isSome
def dgetD (d : DI β) (k : Int) (x : β) : β := (dfind d.l k).getD x
def dput2 (l : List (Int × β)) : List (Int × β) → List (Int × β)
  | [] => l
  | x :: r => dput2 (dput l x.1 x.2) r
/-- a written dict -/
def dmk (l : List (Int × β)) : DI β := ⟨dput2 [] l⟩
/-- sorted(d) -/
def dsortO (d : DI β) : Option (List Int) := if d.l.length < 64 then some (sortI (d.l.map (·.1))) else none
end
/-! a value of one of two kinds -/
def sumB {α β : Type} (a b : Bool) : Sum α β → Bool
  | .inl _ => a
  | .inr _ => b
def outL {α β : Type} : Sum α β → Option α
  | .inl x => some x
  | .inr _ => none
def outR {α β : Type} : Sum α β → Option β
  | .inl _ => none
  | .inr x => some x
/-! a list of two unlike things -/
structure HL (α β : Type) where
  a : α
  b : β
  deriving DecidableEq
/-- enumerate -/
def enumL {α : Type} (k : Int) : List α → List (Int × α)
  | [] => []
  | x :: r => (k, x) :: enumL (k + 1) r
end Mi

/-! PlB: plain rules for partial functions: Tot m P says that m has a value, and that P holds of it. -/
namespace Mi
section
variable {α β S R : Type} {P Q : α → Prop} {m : Option α}
def Tot (m : Option α) (P : α → Prop) : Prop := ∃ a, m = some a ∧ P a
/-- not by rfl: the kernel need not unfold what stands around it -/
theorem bS {a : α} {f : α → Option β} : (some a).bind f = f a := by
  cases h : some a with
  | none => cases h
  | some b => cases h; rfl
theorem bA {γ : Type} {m : Option α} {f : α → Option β} {g : β → Option γ} : (m.bind f).bind g = m.bind fun x => (f x).bind g := Option.bind_assoc m f g
theorem bI {m : Option α} : (m.bind fun x => some x) = m := by cases m <;> rfl
theorem tot_some {a : α} (h : P a) : Tot (some a) P := ⟨a, rfl, h⟩
theorem tot_eq {a : α} (e : m = some a) (h : P a) : Tot m P := ⟨a, e, h⟩
theorem tot_bind {f : α → Option β} {P : β → Prop} (h : Tot m Q) (k : ∀ a, Q a → Tot (f a) P) : Tot (m.bind f) P := by
  obtain ⟨a, rfl, q⟩ := h
  exact k a q
theorem tot_bindE {f : α → Option β} {P : β → Prop} {a : α} (h : m = some a) (k : Tot (f a) P) : Tot (m.bind f) P := by
  subst h
  exact k
theorem tot_mono (h : Tot m Q) (k : ∀ a, Q a → P a) : Tot m P := by
  obtain ⟨a, e, q⟩ := h
  exact ⟨a, e, k a q⟩
theorem Tot.is {a : α} (h : Tot m (· = a)) : m = some a := by
  obtain ⟨b, e, rfl⟩ := h
  exact e
theorem tot_is {a : α} (h : m = some a) : Tot m (· = a) := ⟨a, h, rfl⟩
theorem tot_cond {b : Bool} {x y : Option α} (h1 : b = true → Tot x P) (h2 : b = false → Tot y P) : Tot (cond b x y) P := by
  cases b with
  | true => exact h1 rfl
  | false => exact h2 rfl
theorem tot_if {p : Prop} [Decidable p] {x y : Option α} (h1 : p → Tot x P) (h2 : ¬p → Tot y P) : Tot (cond (decide p) x y) P := by
  by_cases h : p
  · rw [decide_eq_true h]
    exact h1 h
  · rw [decide_eq_false h]
    exact h2 h
theorem tot_ifn {p : Prop} [Decidable p] {x y : Option α} (h1 : ¬p → Tot x P) (h2 : p → Tot y P) : Tot (cond (!decide p) x y) P := by
  by_cases h : p
  · rw [decide_eq_true h]
    exact h2 h
  · rw [decide_eq_false h]
    exact h1 h
/-- a test joined by or, and -/
theorem tot_or {p : Bool} {q : Bool} {x y : Option α} (h1 : (p = true ∨ q = true) → Tot x P) (h2 : p = false → q = false → Tot y P) : Tot (cond (p || q) x y) P := by
  cases p <;> cases q
  · exact h2 rfl rfl
  · exact h1 (.inr rfl)
  · exact h1 (.inl rfl)
  · exact h1 (.inl rfl)
theorem tot_and {p : Bool} {q : Bool} {x y : Option α} (h1 : p = true → q = true → Tot x P) (h2 : (p = false ∨ q = false) → Tot y P) : Tot (cond (p && q) x y) P := by
  cases p <;> cases q
  · exact h2 (.inl rfl)
  · exact h2 (.inl rfl)
  · exact h2 (.inr rfl)
  · exact h1 rfl rfl

/-! ### loops -/
/-- an invariant over what is done -/
theorem tot_forN {b : S → α → Option S} {Q : S → Prop} (I : List α → S → Prop) : ∀ {xs pre : List α} {s : S}, I pre s →
    (∀ pre x s, x ∈ xs → I pre s → Tot (b s x) (I (pre ++ [x]))) → (∀ s, I (pre ++ xs) s → Q s) → Tot (forN b xs s) Q
  | [], pre, s, h0, _, hq => tot_some (hq s (by rwa [List.append_nil]))
  | x :: xs, pre, s, h0, st, hq => by
    refine tot_bind (st pre x s List.mem_cons_self h0) fun s' h' => ?_
    refine tot_forN I (pre := pre ++ [x]) h' (fun p y s m h => st p y s (List.mem_cons_of_mem _ m) h) (fun s h => hq s ?_)
    rwa [List.append_assoc] at h
/-- an invariant over what is still to come -/
theorem tot_for {b : S → α → Option S} {Q : S → Prop} (I : List α → S → Prop) : ∀ {xs : List α} {s : S}, I xs s →
    (∀ x r s, I (x :: r) s → Tot (b s x) (I r)) → (∀ s, I [] s → Q s) → Tot (forN b xs s) Q
  | [], s, h0, _, hq => tot_some (hq s h0)
  | x :: xs, s, h0, st, hq => tot_bind (st x xs s h0) fun s' h' => tot_for I h' st hq
/-- an invariant that names no list -/
theorem tot_forI {b : S → α → Option S} {Q : S → Prop} (I : S → Prop) : ∀ {xs : List α} {s : S}, I s →
    (∀ x s, x ∈ xs → I s → Tot (b s x) I) → (∀ s, I s → Q s) → Tot (forN b xs s) Q
  | [], s, h0, _, hq => tot_some (hq s h0)
  | x :: xs, s, h0, st, hq => tot_bind (st x s List.mem_cons_self h0) fun s' h' => tot_forI I h' (fun y s m h => st y s (List.mem_cons_of_mem _ m) h) hq
def FlP (I : S → Prop) (Q : Sum S R → Prop) : Fl S R → Prop
  | .nx s => I s
  | .ex s => Q (.inl s)
  | .rt r => Q (.inr r)
theorem tot_forR {b : S → α → Option (Fl S R)} {Q : Sum S R → Prop} (I : List α → S → Prop) : ∀ {xs : List α} {s : S}, I xs s →
    (∀ x r s, I (x :: r) s → Tot (b s x) (FlP (I r) Q)) → (∀ s, I [] s → Q (.inl s)) → Tot (forR b xs s) Q
  | [], s, h0, _, hq => tot_some (hq s h0)
  | x :: xs, s, h0, st, hq => by
    refine tot_bind (st x xs s h0) fun f hf => ?_
    cases f with
    | nx s' => exact tot_forR I hf st hq
    | ex s' => exact tot_some hf
    | rt r => exact tot_some hf
theorem tot_forRI {b : S → α → Option (Fl S R)} {Q : Sum S R → Prop} (I : S → Prop) : ∀ {xs : List α} {s : S}, I s →
    (∀ x s, x ∈ xs → I s → Tot (b s x) (FlP I Q)) → (∀ s, I s → Q (.inl s)) → Tot (forR b xs s) Q
  | [], s, h0, _, hq => tot_some (hq s h0)
  | x :: xs, s, h0, st, hq => by
    refine tot_bind (st x s List.mem_cons_self h0) fun f hf => ?_
    cases f with
    | nx s' => exact tot_forRI I hf (fun y s m h => st y s (List.mem_cons_of_mem _ m) h) hq
    | ex s' => exact tot_some hf
    | rt r => exact tot_some hf
theorem rangeL_nil {lo hi : Int} (h : hi ≤ lo) : rangeL lo hi = [] := by
  unfold rangeL
  rw [Int.toNat_of_nonpos (by omega)]
  rfl
theorem rangeL_cons {lo hi : Int} (h : lo < hi) : rangeL lo hi = lo :: rangeL (lo + 1) hi := by
  unfold rangeL
  have e : (hi - lo).toNat = (hi - (lo + 1)).toNat + 1 := by omega
  rw [e, List.range_succ_eq_map, List.map_cons, List.map_map]
  congr 1
  · simp
  · apply List.map_congr_left
    intro a _
    show lo + ((a + 1 : Nat) : Int) = lo + 1 + (a : Int)
    omega
theorem mem_rangeL {lo hi x : Int} : x ∈ rangeL lo hi ↔ lo ≤ x ∧ x < hi := by
  unfold rangeL
  rw [List.mem_map]
  constructor
  · rintro ⟨a, ha, rfl⟩
    rw [List.mem_range] at ha
    omega
  · rintro ⟨h1, h2⟩
    exact ⟨(x - lo).toNat, List.mem_range.mpr (by omega), by omega⟩
theorem rangeL_length {lo hi : Int} : (rangeL lo hi).length = (hi - lo).toNat := by simp [rangeL]
/-- over a range, by the number -/
theorem tot_forI2 {b : S → Int → Option S} {Q : S → Prop} (I : Int → S → Prop) {lo hi : Int} (hl : lo ≤ hi) {s : S} (h0 : I lo s)
    (st : ∀ i s, lo ≤ i → i < hi → I i s → Tot (b s i) (I (i + 1))) (hq : ∀ s, I hi s → Q s) : Tot (forN b (rangeL lo hi) s) Q := by
  by_cases h : lo < hi
  · rw [rangeL_cons h]
    refine tot_bind (st lo s (Int.le_refl lo) h h0) fun s' h' => ?_
    exact tot_forI2 I (lo := lo + 1) (by omega) h' (fun i s h1 h2 => st i s (by omega) h2) hq
  · have e : lo = hi := by omega
    subst e
    rw [rangeL_nil (Int.le_refl _)]
    exact tot_some (hq s h0)
termination_by (hi - lo).toNat
decreasing_by omega
theorem tot_forR2 {b : S → Int → Option (Fl S R)} {Q : Sum S R → Prop} (I : Int → S → Prop) {lo hi : Int} (hl : lo ≤ hi) {s : S} (h0 : I lo s)
    (st : ∀ i s, lo ≤ i → i < hi → I i s → Tot (b s i) (FlP (I (i + 1)) Q)) (hq : ∀ s, I hi s → Q (.inl s)) : Tot (forR b (rangeL lo hi) s) Q := by
  by_cases h : lo < hi
  · rw [rangeL_cons h]
    refine tot_bind (st lo s (Int.le_refl lo) h h0) fun f hf => ?_
    cases f with
    | nx s' => exact tot_forR2 I (lo := lo + 1) (by omega) hf (fun i s h1 h2 => st i s (by omega) h2) hq
    | ex s' => exact tot_some hf
    | rt r => exact tot_some hf
  · have e : lo = hi := by omega
    subst e
    rw [rangeL_nil (Int.le_refl _)]
    exact tot_some (hq s h0)
termination_by (hi - lo).toNat
decreasing_by omega
theorem tot_itN {c : S → Option Bool} {b : S → Option S} {Q : S → Prop} (I : S → Prop) (μ : S → Nat)
    (st : ∀ s, I s → Tot (c s) fun t => (t = true → Tot (b s) fun s' => I s' ∧ μ s' < μ s) ∧ (t = false → Q s)) : ∀ (n : Nat) (s : S), I s → μ s < n → ∃ r, itN c b n s = some r ∧ Q r
  | 0, s, h0, h => absurd h (Nat.not_lt_zero _)
  | n + 1, s, h0, h => by
    obtain ⟨t, e, h1, h2⟩ := st s h0
    cases t with
    | false => exact ⟨s, by unfold itN; rw [e]; rfl, h2 rfl⟩
    | true =>
      obtain ⟨s', e2, h3, h4⟩ := h1 rfl
      obtain ⟨r, e3, hr⟩ := tot_itN I μ st n s' h3 (by omega)
      exact ⟨r, by unfold itN; rw [e]; show (b s).bind _ = _; rw [e2]; exact e3, hr⟩
theorem tot_while {c : S → Option Bool} {b : S → Option S} {Q : S → Prop} (I : S → Prop) (μ : S → Nat) {s : S} (h0 : I s)
    (st : ∀ s, I s → Tot (c s) fun t => (t = true → Tot (b s) fun s' => I s' ∧ μ s' < μ s) ∧ (t = false → Q s)) : Tot (whileN c b s) Q := by
  obtain ⟨r, e, hr⟩ := tot_itN I μ st _ s h0 (Nat.lt_succ_self _)
  exact ⟨r, whileN_iff.mpr ⟨_, e⟩, hr⟩
theorem tot_itR {c : S → Option Bool} {b : S → Option (Fl S R)} {Q : Sum S R → Prop} (I : S → Prop) (μ : S → Nat)
    (st : ∀ s, I s → Tot (c s) fun t => (t = true → Tot (b s) (FlP (fun s' => I s' ∧ μ s' < μ s) Q)) ∧ (t = false → Q (.inl s))) : ∀ (n : Nat) (s : S), I s → μ s < n → ∃ r, itR c b n s = some r ∧ Q r
  | 0, s, h0, h => absurd h (Nat.not_lt_zero _)
  | n + 1, s, h0, h => by
    obtain ⟨t, e, h1, h2⟩ := st s h0
    cases t with
    | false => exact ⟨.inl s, by unfold itR; rw [e]; rfl, h2 rfl⟩
    | true =>
      obtain ⟨f, e2, hf⟩ := h1 rfl
      cases f with
      | nx s' =>
        obtain ⟨h3, h4⟩ := hf
        obtain ⟨r, e3, hr⟩ := tot_itR I μ st n s' h3 (by omega)
        exact ⟨r, by unfold itR; rw [e]; show (b s).bind _ = _; rw [e2]; exact e3, hr⟩
      | ex s' => exact ⟨.inl s', by unfold itR; rw [e]; show (b s).bind _ = _; rw [e2]; rfl, hf⟩
      | rt r => exact ⟨.inr r, by unfold itR; rw [e]; show (b s).bind _ = _; rw [e2]; rfl, hf⟩
theorem tot_whileR {c : S → Option Bool} {b : S → Option (Fl S R)} {Q : Sum S R → Prop} (I : S → Prop) (μ : S → Nat) {s : S} (h0 : I s)
    (st : ∀ s, I s → Tot (c s) fun t => (t = true → Tot (b s) (FlP (fun s' => I s' ∧ μ s' < μ s) Q)) ∧ (t = false → Q (.inl s))) : Tot (whileR c b s) Q := by
  obtain ⟨r, e, hr⟩ := tot_itR I μ st _ s h0 (Nat.lt_succ_self _)
  exact ⟨r, whileR_iff.mpr ⟨_, e⟩, hr⟩
end

/-! ### the numbers' sizes -/
/-- no more than so many bits -/
def Sz (n : Nat) (a : Int) : Prop := a.natAbs < 2 ^ n
instance (n : Nat) (a : Int) : Decidable (Sz n a) := inferInstanceAs (Decidable (a.natAbs < 2 ^ n))
section
variable {a b : Int} {m n k : Nat}
theorem sz_log (h : Sz n a) (h1 : 1 ≤ n) : a.natAbs.log2 < n := by
  unfold Sz at h
  by_cases h0 : a.natAbs = 0
  · rw [h0, Nat.log2_zero]
    exact h1
  · exact (Nat.log2_lt h0).mpr h
theorem Sz.mono (h : Sz m a) (l : m ≤ n) : Sz n a := Nat.lt_of_lt_of_le h (Nat.pow_le_pow_right (by decide) l)
theorem Sz.mul (h : Sz m a) (g : Sz n b) : Sz (m + n) (a * b) := by
  unfold Sz at *
  rw [Int.natAbs_mul, Nat.pow_add]
  exact Nat.mul_lt_mul'' h g
theorem Sz.add (h : Sz m a) (g : Sz m b) : Sz (m + 1) (a + b) := by
  unfold Sz at *
  have := Int.natAbs_add_le a b
  rw [Nat.pow_succ]
  omega
theorem Sz.sub (h : Sz m a) (g : Sz m b) : Sz (m + 1) (a - b) := by
  unfold Sz at *
  have := Int.natAbs_sub_le a b
  rw [Nat.pow_succ]
  omega
theorem Sz.neg (h : Sz m a) : Sz m (-a) := by
  unfold Sz at *
  rwa [Int.natAbs_neg]
theorem Sz.le (h : Sz m b) (l : a.natAbs ≤ b.natAbs) : Sz m a := Nat.lt_of_le_of_lt l h
theorem dvd_le {a b : Int} (h : a ∣ b) (hb : b ≠ 0) : a.natAbs ≤ b.natAbs := Nat.le_of_dvd (by omega) (Int.natAbs_dvd_natAbs.mpr h)
theorem mulO_sz (h : Sz m a) (g : Sz n b) (l : m + n ≤ 134000000) : mulO a b = some (a * b) := by
  have h' : a.natAbs.log2 ≤ m := by
    by_cases h0 : a.natAbs = 0
    · rw [h0, Nat.log2_zero]; exact Nat.zero_le _
    · exact Nat.le_of_lt ((Nat.log2_lt h0).mpr h)
  have g' : b.natAbs.log2 < n + 1 := sz_log (g.mono (Nat.le_succ n)) (by omega)
  unfold mulO
  by_cases h0 : a.natAbs.log2 + b.natAbs.log2 < 134000000
  · rw [if_pos h0]
  · by_cases ha : a.natAbs = 0
    · exfalso
      rw [ha, Nat.log2_zero] at h0
      by_cases hb : b.natAbs = 0
      · rw [hb, Nat.log2_zero] at h0
        omega
      · have := (Nat.log2_lt hb).mpr g
        omega
    · have h3 := (Nat.log2_lt ha).mpr h
      omega
theorem log2_le_of_lt {x n : Nat} (h : x < 2 ^ n) : x.log2 ≤ n := by
  by_cases h0 : x = 0
  · rw [h0, Nat.log2_zero]
    exact Nat.zero_le _
  · exact Nat.le_of_lt ((Nat.log2_lt h0).mpr h)
theorem log2_lt_of_lt {x n : Nat} (h : x < 2 ^ n) (l : 0 < n) : x.log2 < n := by
  by_cases h0 : x = 0
  · rw [h0, Nat.log2_zero]
    exact l
  · exact (Nat.log2_lt h0).mpr h
theorem divO_sz (h0 : b ≠ 0) (g : Sz n b) (l : n ≤ 9000) : divO a b = some (a.fdiv b) := if_pos ⟨h0, Or.inl (Nat.lt_of_lt_of_le (log2_lt_of_lt g (Nat.pos_of_ne_zero fun e => by
  subst e
  unfold Sz at g
  omega)) l)⟩
theorem modO_ne (h : b ≠ 0) : modO a b = some (a.fmod b) := if_pos h
theorem modO_pos (h : 0 < b) : modO a b = some (a % b) := by
  rw [modO_ne (by omega), Int.fmod_eq_emod_of_nonneg _ (by omega)]
theorem divO_pos (h0 : 0 < b) (g : Sz n b) (l : n ≤ 9000) : divO a b = some (a / b) := by
  rw [divO_sz (by omega) g l, Int.fdiv_eq_ediv_of_nonneg _ (by omega)]
/-- sizes of middling numbers by their bounds -/
theorem sz250 (h : -2 ^ 250 < a) (g : a < 2 ^ 250) : Sz 250 a := by
  unfold Sz
  omega
theorem mulO_s (h1 : -2 ^ 250 < a) (h2 : a < 2 ^ 250) (h3 : -2 ^ 250 < b) (h4 : b < 2 ^ 250) : mulO a b = some (a * b) := mulO_sz (sz250 h1 h2) (sz250 h3 h4) (by decide)
theorem rangeO_s (h1 : -2 ^ 62 ≤ a) (h2 : a < 2 ^ 62) (h3 : -2 ^ 62 ≤ b) (h4 : b < 2 ^ 62) : rangeO a b = some (rangeL a b) := if_pos ⟨h1, h2, h3, h4⟩
theorem rangeC_s (h1 : -2 ^ 62 ≤ a) (h2 : a < 2 ^ 62) (h3 : -2 ^ 62 ≤ b) (h4 : b < 2 ^ 62) (h5 : b - a ≤ 16000000) : rangeC a b = some (rangeL a b) := if_pos ⟨h1, h2, h3, h4, by omega⟩
theorem rangeS_in {lo hi c : Int} (hc : 0 < c) (h1 : -(2 ^ 61) ≤ lo ∧ lo < 2 ^ 61) (h2 : -(2 ^ 61) ≤ hi ∧ hi < 2 ^ 61) : ∃ xs, rangeS lo hi c = some xs ∧ ∀ x ∈ xs, lo ≤ x ∧ x < hi := by
  refine ⟨_, if_pos ⟨h1.1, h1.2, h2⟩, fun x hx => ?_⟩
  simp only [List.mem_map, List.mem_range] at hx
  obtain ⟨n, hn, rfl⟩ := hx
  have hp : 0 ≤ (n : Int) * c := Int.mul_nonneg (by omega) (by omega)
  have h3 : (n : Int) + 1 ≤ (hi - lo + c - 1) / c := by omega
  have h4 := Int.mul_le_of_le_ediv hc h3
  rw [Int.add_mul, Int.one_mul] at h4
  omega
theorem ixO_nat {α : Type} {xs : List α} {i : Nat} (h : i < xs.length) : ixO xs (i : Int) = some xs[i] := by
  unfold ixO
  rw [if_pos (by omega), Int.toNat_natCast, List.getElem?_eq_getElem h]
theorem ixO_in {α : Type} {xs : List α} {i : Int} (h0 : 0 ≤ i) (h : i < xs.length) : ∃ x, ixO xs i = some x ∧ x ∈ xs := by
  obtain ⟨n, rfl⟩ := Int.eq_ofNat_of_zero_le h0
  have hn : n < xs.length := by omega
  exact ⟨xs[n], ixO_nat hn, List.getElem_mem hn⟩
end
end Mi

/-! MiW: values by types, what readings evaluate to, loops, calls: from readings to functions of plain Lean. -/
namespace Mi
open PySem L2

/-! ### the view G (what is not changed any more) within the heap H -/
structure Ext (G H G' H' : Hp) : Prop where
  g : Same G G'
  s : Same G' H'
  h : Same H H'
  a : ∀ b, H b ≠ none → G' b = G b
section
variable {G H G1 H1 G2 H2 G3 H3 : Hp} {K : PySem.W.Frag} {p q : Addr} {o : HO}
theorem Ext.refl (s : Same G H) : Ext G H G H := ⟨Same.refl _, s, Same.refl _, fun _ _ => rfl⟩
theorem same_ne (h : Same H H1) (n : H p ≠ none) : H1 p ≠ none := by
  cases e : H p with
  | none => exact absurd e n
  | some o =>
    rw [h _ _ e]
    intro z
    cases z
theorem Ext.trans (x : Ext G H G1 H1) (y : Ext G1 H1 G2 H2) : Ext G H G2 H2 :=
  ⟨x.g.trans y.g, y.s, x.h.trans y.h, fun b n => (y.a b (same_ne x.h n)).trans (x.a b n)⟩
theorem Ext.s0 (x : Ext G H G1 H1) (s : Same G H) : Same G1 H1 := x.s
theorem same_new (n : H p = none) : Same H (upd H p o) := fun b u e => by
  rw [upd_ne (ne_of_none e n)]
  exact e
theorem same_under (s : Same G H) (n : G p = none) : Same G (upd H p o) := fun b u e => by
  rw [upd_ne (ne_of_none e n)]
  exact s _ _ e
theorem same_both (s : Same G H) : Same (upd G p o) (upd H p o) := fun b u e => by
  by_cases hb : b = p
  · subst hb
    rw [upd_same] at e ⊢
    exact e
  · rw [upd_ne hb] at e ⊢
    exact s _ _ e
theorem Ext.own (s : Same G H) (n : H p = none) : Ext G H G (upd H p o) := ⟨Same.refl _, same_under s (s.free n), same_new n, fun _ _ => rfl⟩
theorem Ext.new (s : Same G H) (n : H p = none) : Ext G H (upd G p o) (upd H p o) :=
  ⟨same_new (s.free n), same_both s, same_new n, fun b h => by rw [upd_ne (fun e => h (by rw [e]; exact n))]⟩
/-- what is new may be shown -/
theorem Ext.show (x : Ext G H G1 H1) (n : H p = none) (g : G1 p = none) (h : H1 p = some o) : Ext G H (upd G1 p o) H1 :=
  ⟨x.g.trans (same_new g), fun b u e => by
    by_cases hb : b = p
    · subst hb
      rw [upd_same] at e
      rw [← e]
      exact h
    · rw [upd_ne hb] at e
      exact x.s _ _ e, x.h, fun b hb => by rw [upd_ne (fun e => hb (by rw [e]; exact n)), x.a b hb]⟩
/-- what is new may be changed -/
theorem Ext.put (x : Ext G H G1 H1) (n : H p = none) (g : G1 p = none) : Ext G H G1 (upd H1 p o) :=
  ⟨x.g, same_under x.s g, fun b u e => by
    rw [upd_ne (ne_of_none e n)]
    exact x.h _ _ e, x.a⟩
theorem same_tup {a : Addr} {xs : List V} (e : Same G H) (h : SqT K G a xs) : SqT K H a xs := by
  rcases h with (h | ⟨o, h⟩) | h
  · exact .inl (.inl (e _ _ h))
  · exact .inl (.inr ⟨o, e _ _ h⟩)
  · exact .inr h
end

/-! ### values by types -/
class Rp (α : Type) where
  rep : PySem.W.Frag → Hp → V → α → Prop
  mono : ∀ {K : PySem.W.Frag} {G G' : Hp} {v : V} {d : α}, Same G G' → rep K G v d → rep K G' v d
open Rp (rep)

instance : Rp Int := ⟨fun _ _ v d => v = .int d, fun _ h => h⟩
instance : Rp Bool := ⟨fun _ _ v d => v = .bl d, fun _ h => h⟩
instance : Rp Unit := ⟨fun _ _ v _ => v = .non, fun _ h => h⟩
instance : Rp Str := ⟨fun _ _ v d => v = .str d, fun _ h => h⟩
/-- None, or a value that isn't None -/
def ROpt {α : Type} [Rp α] (K : PySem.W.Frag) (G : Hp) (v : V) : Option α → Prop
  | none => v = .non
  | some x => rep K G v x ∧ v ≠ .non
instance {α : Type} [Rp α] : Rp (Option α) := ⟨ROpt, fun {_ _ _ _ d} s h => by
  cases d with
  | none => exact h
  | some x => exact ⟨Rp.mono s h.1, h.2⟩⟩
instance {α β : Type} [Rp α] [Rp β] : Rp (α × β) := ⟨fun K G v d => ∃ a x y, v = .ref a ∧ SqT K G a [x, y] ∧ rep K G x d.1 ∧ rep K G y d.2,
  fun s ⟨a, x, y, e, h, h1, h2⟩ => ⟨a, x, y, e, same_tup s h, Rp.mono s h1, Rp.mono s h2⟩⟩
section
variable {α β γ δ ε : Type} [Rp α] [Rp β] [Rp γ] [Rp δ] [Rp ε]
instance : Rp (T3 α β γ) := ⟨fun K G v d => ∃ p x y z, v = .ref p ∧ SqT K G p [x, y, z] ∧ rep K G x d.a ∧ rep K G y d.b ∧ rep K G z d.c,
  fun s ⟨p, x, y, z, e, h, h1, h2, h3⟩ => ⟨p, x, y, z, e, same_tup s h, Rp.mono s h1, Rp.mono s h2, Rp.mono s h3⟩⟩
instance : Rp (T4 α β γ δ) := ⟨fun K G v d => ∃ p x y z u, v = .ref p ∧ SqT K G p [x, y, z, u] ∧ rep K G x d.a ∧ rep K G y d.b ∧ rep K G z d.c ∧ rep K G u d.d,
  fun s ⟨p, x, y, z, u, e, h, h1, h2, h3, h4⟩ => ⟨p, x, y, z, u, e, same_tup s h, Rp.mono s h1, Rp.mono s h2, Rp.mono s h3, Rp.mono s h4⟩⟩
instance : Rp (T5 α β γ δ ε) := ⟨fun K G v d => ∃ p x y z u w, v = .ref p ∧ SqT K G p [x, y, z, u, w] ∧ rep K G x d.a ∧ rep K G y d.b ∧ rep K G z d.c ∧ rep K G u d.d ∧ rep K G w d.e,
  fun s ⟨p, x, y, z, u, w, e, h, h1, h2, h3, h4, h5⟩ => ⟨p, x, y, z, u, w, e, same_tup s h, Rp.mono s h1, Rp.mono s h2, Rp.mono s h3, Rp.mono s h4, Rp.mono s h5⟩⟩
end
abbrev Reps {α : Type} [Rp α] (K : PySem.W.Frag) (G : Hp) (vs : List V) (ds : List α) : Prop := Paired (rep K G) vs ds
section
variable {α β : Type} [Rp α] [Rp β] {K : PySem.W.Frag} {G G' : Hp} {vs ws : List V} {ds es : List α} {v : V} {d : α}
theorem Reps.mono (s : Same G G') (h : Reps K G vs ds) : Reps K G' vs ds := Paired.mapP h fun _ _ r => Rp.mono s r
theorem Reps.len (h : Reps K G vs ds) : vs.length = ds.length := Paired.length h
theorem Reps.get : ∀ {vs : List V} {ds : List α} {i : Nat} {d : α}, Reps K G vs ds → ds[i]? = some d → ∃ v, vs[i]? = some v ∧ rep K G v d
  | _, _, _, _, .nil, e => by simp at e
  | _, _, 0, _, .cons r _, e => by simp at e; subst e; exact ⟨_, rfl, r⟩
  | _, _, i + 1, d, .cons _ t, e => by
    obtain ⟨u, h1, h2⟩ := Reps.get (i := i) (d := d) t (by simpa using e)
    exact ⟨u, by simpa using h1, h2⟩
theorem Reps.set : ∀ {vs : List V} {ds : List α} (i : Nat), Reps K G vs ds → rep K G v d → Reps K G (vs.set i v) (ds.set i d)
  | _, _, _, .nil, _ => .nil
  | _, _, 0, .cons _ t, r => .cons r t
  | _, _, i + 1, .cons q t, r => .cons q (Reps.set i t r)
theorem Reps.app : ∀ {vs ws : List V} {ds es : List α}, Reps K G vs ds → Reps K G ws es → Reps K G (vs ++ ws) (ds ++ es)
  | _, _, _, _, .nil, s => s
  | _, _, _, _, .cons r t, s => .cons r (Reps.app t s)
theorem Reps.take : ∀ {vs : List V} {ds : List α} (n : Nat), Reps K G vs ds → Reps K G (vs.take n) (ds.take n)
  | _, _, 0, _ => .nil
  | _, _, _ + 1, .nil => .nil
  | _, _, n + 1, .cons r t => .cons r (Reps.take n t)
theorem Reps.drop : ∀ {vs : List V} {ds : List α} (n : Nat), Reps K G vs ds → Reps K G (vs.drop n) (ds.drop n)
  | _, _, 0, r => r
  | _, _, _ + 1, .nil => .nil
  | _, _, n + 1, .cons _ t => Reps.drop n t
theorem Reps.cut {lo hi : Option Int} (h : Reps K G vs ds) : Reps K G (cutV vs lo hi) (cutL ds lo hi) := by
  have e : ∀ (n d : Nat) (o : Option Int), HT.sIx n d o = cutIx n d o := fun n d o => by
    cases o with
    | none => rfl
    | some v =>
      have q := HT.clip_eq v n d
      show _ = ((if v < 0 then max (v + (n : Int)) 0 else min v (n : Int))).toNat
      rw [q]
      rfl
  unfold cutV cutL
  rw [e, e, h.len]
  exact (h.drop _).take _
theorem Reps.ints {ns : List Int} : ∀ {vs : List V}, Reps K G vs ns → vs = ns.map V.int := by
  induction ns with
  | nil =>
    intro vs h
    cases h
    rfl
  | cons n ns ih =>
    intro vs h
    cases h with
    | cons r t => rw [ih t, show _ = V.int n from r]; rfl
theorem reps_ints : ∀ (ns : List Int), Reps K G (ns.map V.int) ns
  | [] => .nil
  | n :: ns => .cons rfl (reps_ints ns)
theorem Reps.bls {ns : List Bool} : ∀ {vs : List V}, Reps K G vs ns → vs = ns.map V.bl := by
  induction ns with
  | nil =>
    intro vs h
    cases h
    rfl
  | cons n ns ih =>
    intro vs h
    cases h with
    | cons r t => rw [ih t, show _ = V.bl n from r]; rfl
end
/-- a list that is not changed any more -/
instance {α : Type} [Rp α] : Rp (List α) := ⟨fun K G v ds => ∃ a vs, v = .ref a ∧ G a = some (.lst vs) ∧ vs.length ≤ sizeLine ∧ Reps K G vs ds,
  fun s ⟨a, vs, e, h, l, r⟩ => ⟨a, vs, e, s _ _ h, l, r.mono s⟩⟩
instance {α : Type} [Rp α] : Rp (KL α) := ⟨fun K G v ds => ∃ a vs, v = .ref a ∧ SqL K G a vs ∧ vs.length ≤ sizeLine ∧ Reps K G vs ds.l,
  fun s ⟨a, vs, e, h, l, r⟩ => ⟨a, vs, e, s.seq h, l, r.mono s⟩⟩
instance {α : Type} [Rp α] : Rp (TL α) := ⟨fun K G v ds => ∃ a vs, v = .ref a ∧ SqT K G a vs ∧ vs.length ≤ sizeLine ∧ Reps K G vs ds.l,
  fun s ⟨a, vs, e, h, l, r⟩ => ⟨a, vs, e, same_tup s h, l, r.mono s⟩⟩
/-- a list of one's own: it stands in the heap, not in the view -/
structure Own {α : Type} [Rp α] (K : PySem.W.Frag) (H0 G H : Hp) (p : Addr) (ds : List α) : Prop where
  z : H0 p = none
  g : G p = none
  h : ∃ vs, H p = some (.lst vs) ∧ vs.length ≤ sizeLine ∧ Reps K G vs ds
section
variable {α β γ : Type} [Rp α] [Rp β] [Rp γ] {K : PySem.W.Frag} {G0 H0 G H G1 H1 G2 H2 : Hp} {p q : Addr} {ds : List α} {d : α} {v : V}
theorem Own.ne (x : Own K H0 G H p ds) : H p ≠ none := by
  obtain ⟨vs, h, _⟩ := x.h
  rw [h]
  intro z
  cases z
theorem Own.mono (x : Own K H0 G H p ds) (e : Ext G H G1 H1) : Own K H0 G1 H1 p ds := by
  obtain ⟨vs, h, l, r⟩ := x.h
  exact ⟨x.z, (e.a p x.ne).trans x.g, vs, e.h _ _ h, l, r.mono e.g⟩
/-- seen from nearer -/
theorem Own.at (x : Own K H0 G H p ds) : ∃ vs, H p = some (.lst vs) ∧ vs.length ≤ sizeLine ∧ Reps K G vs ds := x.h
/-- a change elsewhere -/
theorem Own.off {o : HO} (x : Own K H0 G H p ds) (n : p ≠ q) : Own K H0 G (upd H q o) p ds := by
  obtain ⟨vs, h, l, r⟩ := x.h
  exact ⟨x.z, x.g, vs, by rw [upd_ne n]; exact h, l, r⟩
/-- another one is shown -/
theorem Own.off2 {o : HO} (x : Own K H0 G H p ds) (n : p ≠ q) (gq : G q = none) : Own K H0 (upd G q o) H p ds := by
  obtain ⟨vs, h, l, r⟩ := x.h
  exact ⟨x.z, by rw [upd_ne n]; exact x.g, vs, h, l, r.mono (same_new gq)⟩
theorem Own.ne2 (x : Own K H0 G H p ds) (n : H q = none) : p ≠ q := fun e => x.ne (e ▸ n)
/-- it is shown: not changed any more -/
theorem Own.show (x : Own K H0 G H p ds) (e : Ext G0 H0 G H) : ∃ vs, Ext G0 H0 (upd G p (.lst vs)) H ∧ Same G (upd G p (.lst vs)) ∧ rep K (upd G p (.lst vs)) (.ref p) ds := by
  obtain ⟨vs, h, l, r⟩ := x.h
  exact ⟨vs, e.show x.z x.g h, same_new x.g, p, vs, rfl, upd_same, l, r.mono (same_new x.g)⟩
end

/-! ### what a reading evaluates to -/
section
variable {α β γ : Type} [Rp α] [Rp β] [Rp γ]
def SE (K : PySem.W.Frag) (te : TE) (σ : St) (G H : Hp) (m : Option α) : Prop :=
  ∀ G1 H1, Ext G H G1 H1 → ∀ r, m = some r → ∀ Q : VK, (∀ v G2 H2, Ext G1 H1 G2 H2 → rep K G2 v r → Q v H2) → te σ H1 Q
/-- .. a new list of one's own -/
def FE (K : PySem.W.Frag) (te : TE) (σ : St) (G H : Hp) (m : Option (List α)) : Prop :=
  ∀ G1 H1, Ext G H G1 H1 → ∀ r, m = some r → ∀ Q : VK, (∀ p G2 H2, Ext G1 H1 G2 H2 → Own K H1 G2 H2 p r → Q (.ref p) H2) → te σ H1 Q
def ST (tt : TT) (σ : St) (G H : Hp) (m : Option Bool) : Prop :=
  ∀ G1 H1, Ext G H G1 H1 → ∀ r, m = some r → ∀ Q : Bool → Hp → Prop, (∀ G2 H2, Ext G1 H1 G2 H2 → Q r H2) → tt σ H1 Q
def RO (K : PySem.W.Frag) (r : R2) (f : α → β → Option γ) : Prop :=
  ∀ {G H : Hp} {v w : V} {x : α} {y : β} {z : γ}, Same G H → rep K G v x → rep K G w y → f x y = some z → ∀ Q : VK, (∀ u G2 H2, Ext G H G2 H2 → rep K G2 u z → Q u H2) → r v w H Q
/-- a call on values: one, two -/
def RC1 (K : PySem.W.Frag) (r : List V → Hp → VK → Prop) (f : α → Option γ) : Prop :=
  ∀ {G H : Hp} {v : V} {x : α} {z : γ}, Same G H → rep K G v x → f x = some z → ∀ Q : VK, (∀ u G2 H2, Ext G H G2 H2 → rep K G2 u z → Q u H2) → r [v] H Q
def RC2 (K : PySem.W.Frag) (r : List V → Hp → VK → Prop) (f : α → β → Option γ) : Prop :=
  ∀ {G H : Hp} {v w : V} {x : α} {y : β} {z : γ}, Same G H → rep K G v x → rep K G w y → f x y = some z → ∀ Q : VK, (∀ u G2 H2, Ext G H G2 H2 → rep K G2 u z → Q u H2) → r [v, w] H Q
variable {K : PySem.W.Frag} {σ : St} {G H G1 H1 : Hp} {ta tb te : TE} {tc tt : TT} {ma : Option α} {mb : Option β} {r : R2} {f : α → β → Option γ} {i : Nat} {v : V} {d : α}
theorem SE.mono (h : SE K te σ G H ma) (e : Ext G H G1 H1) : SE K te σ G1 H1 ma := fun G2 H2 e2 => h G2 H2 (e.trans e2)
theorem SE.is {m' : Option α} (h : SE K te σ G H ma) (e : ma = m') : SE K te σ G H m' := e ▸ h
theorem ST.is {m m' : Option Bool} (h : ST tt σ G H m) (e : m = m') : ST tt σ G H m' := e ▸ h
theorem FE.se {m : Option (List α)} (h : FE K te σ G H m) : SE K te σ G H m := fun G1 H1 e r hm Q q =>
  h G1 H1 e r hm Q fun p G2 H2 e2 o => by
    obtain ⟨vs, hp, l, rs⟩ := o.h
    exact q (.ref p) _ H2 (e2.show o.z o.g hp) ⟨p, vs, rfl, upd_same, l, rs.mono (same_new o.g)⟩
theorem se_var (h : σ[i]? = some (some v)) (hr : rep K G v d) : SE K (tVar i) σ G H (some d) := fun G1 H1 e r hm Q q => by
  cases hm
  exact ⟨v, h, q v G1 H1 (Ext.refl e.s) (Rp.mono e.g hr)⟩
/-- a name that holds a value, or None, where it isn't None -/
theorem se_opt {o : Option α} (h : σ[i]? = some (some v)) (hr : rep K G v o) : SE K (tVar i) σ G H o := fun G1 H1 e r hm Q q => by
  subst hm
  exact ⟨v, h, q v G1 H1 (Ext.refl e.s) (Rp.mono e.g hr.1)⟩
theorem se_c (h : ∀ G, rep K G v d) : SE K (tC v) σ G H (some d) := fun G1 H1 e r hm Q q => by
  cases hm
  exact q v G1 H1 (Ext.refl e.s) (h G1)
theorem se_int {n : Int} : SE K (tC (.int n)) σ G H (some n) := se_c fun _ => rfl
theorem se_bl {b : Bool} : SE K (tC (.bl b)) σ G H (some b) := se_c fun _ => rfl
theorem se_str {b : Str} : SE K (tC (.str b)) σ G H (some b) := se_c fun _ => rfl
theorem se_unit : SE K (tC .non) σ G H (some ()) := se_c (d := ()) fun _ => rfl
theorem se_none : SE K (tC .non) σ G H (some (none : Option α)) := se_c fun _ => rfl
theorem se_op (ha : SE K ta σ G H ma) (hb : SE K tb σ G H mb) (hr : RO K r f) : SE K (tOp r ta tb) σ G H (ma.bind fun x => mb.bind fun y => f x y) := fun G1 H1 e z hm Q q => by
  obtain ⟨x, hx, hm⟩ := bind_some hm
  obtain ⟨y, hy, hz⟩ := bind_some hm
  refine ha G1 H1 e x hx _ fun v G2 H2 e2 hv => ?_
  refine hb G2 H2 (e.trans e2) y hy _ fun w G3 H3 e3 hw => ?_
  exact hr e3.s (Rp.mono e3.g hv) hw hz Q fun u G4 H4 e4 hu => q u G4 H4 ((e2.trans e3).trans e4) hu
theorem se_opp {x : α} {y : β} (ha : SE K ta σ G H (some x)) (hb : SE K tb σ G H (some y)) (hr : RO K r f) : SE K (tOp r ta tb) σ G H (f x y) := se_op ha hb hr
/-- not None, as a value -/
class RpN (α : Type) [Rp α] : Prop where
  nn : ∀ {K : PySem.W.Frag} {G : Hp} {v : V} {d : α}, rep K G v d → v ≠ .non
instance : RpN Int := ⟨fun h => by rw [show _ = V.int _ from h]; intro z; cases z⟩
instance : RpN Bool := ⟨fun h => by rw [show _ = V.bl _ from h]; intro z; cases z⟩
instance : RpN Str := ⟨fun h => by rw [show _ = V.str _ from h]; intro z; cases z⟩
instance {α β : Type} [Rp α] [Rp β] : RpN (α × β) := ⟨fun ⟨_, _, _, h, _⟩ => by rw [h]; intro z; cases z⟩
instance {α β γ : Type} [Rp α] [Rp β] [Rp γ] : RpN (T3 α β γ) := ⟨fun ⟨_, _, _, _, h, _⟩ => by rw [h]; intro z; cases z⟩
instance {α β γ δ : Type} [Rp α] [Rp β] [Rp γ] [Rp δ] : RpN (T4 α β γ δ) := ⟨fun ⟨_, _, _, _, _, h, _⟩ => by rw [h]; intro z; cases z⟩
instance {α β γ δ ε : Type} [Rp α] [Rp β] [Rp γ] [Rp δ] [Rp ε] : RpN (T5 α β γ δ ε) := ⟨fun ⟨_, _, _, _, _, _, h, _⟩ => by rw [h]; intro z; cases z⟩
instance {α : Type} [Rp α] : RpN (List α) := ⟨fun ⟨_, _, h, _⟩ => by rw [h]; intro z; cases z⟩
theorem se_some [RpN α] (h : SE K te σ G H ma) : SE K te σ G H (ma.bind fun x => some (some x)) := fun G1 H1 e z hm Q q => by
  obtain ⟨x, hx, hm⟩ := bind_some hm
  cases hm
  exact h G1 H1 e x hx Q fun v G2 H2 e2 hv => q v G2 H2 e2 ⟨hv, RpN.nn hv⟩
theorem se_somep [RpN α] {x : α} (h : SE K te σ G H (some x)) : SE K te σ G H (some (some x)) := se_some h

/-! ### operators -/
theorem ro_i0 {g : Int → Int → V} {h : Int → Int → γ} (e : ∀ K G i j, rep K G (g i j) (h i j)) : RO K (rI0 g) (fun (i j : Int) => some (h i j)) := fun {G H v w x y z} s hv hw hz Q q => by
  cases (show some _ = some z from hz)
  exact ⟨x, y, hv, hw, q _ G H (Ext.refl s) (e K G x y)⟩
theorem ro_add : RO K (rI0 fun i j => .int (i + j)) (fun (i j : Int) => some (i + j)) := ro_i0 fun _ _ _ _ => rfl
theorem ro_sub : RO K (rI0 fun i j => .int (i - j)) (fun (i j : Int) => some (i - j)) := ro_i0 fun _ _ _ _ => rfl
theorem ro_lt : RO K (rI0 fun i j => .bl (decide (i < j))) (fun (i j : Int) => some (decide (i < j))) := ro_i0 (g := fun i j => .bl (decide (i < j))) (h := fun i j => decide (i < j)) fun _ _ _ _ => rfl
theorem ro_le : RO K (rI0 fun i j => .bl (decide (i ≤ j))) (fun (i j : Int) => some (decide (i ≤ j))) := ro_i0 (g := fun i j => .bl (decide (i ≤ j))) (h := fun i j => decide (i ≤ j)) fun _ _ _ _ => rfl
theorem ro_gt : RO K (rI0 fun i j => .bl (decide (j < i))) (fun (i j : Int) => some (decide (j < i))) := ro_i0 (g := fun i j => .bl (decide (j < i))) (h := fun i j => decide (j < i)) fun _ _ _ _ => rfl
theorem ro_ge : RO K (rI0 fun i j => .bl (decide (j ≤ i))) (fun (i j : Int) => some (decide (j ≤ i))) := ro_i0 (g := fun i j => .bl (decide (j ≤ i))) (h := fun i j => decide (j ≤ i)) fun _ _ _ _ => rfl
theorem ro_and : RO K (rI0 fun i j => .int (Builtin.bitAnd i j)) (fun (i j : Int) => some (Builtin.bitAnd i j)) := ro_i0 fun _ _ _ _ => rfl
theorem ro_xor : RO K (rI0 fun i j => .int (Builtin.bitXor i j)) (fun (i j : Int) => some (Builtin.bitXor i j)) := ro_i0 fun _ _ _ _ => rfl
theorem ro_i {C : Int → Int → Prop} {g : Int → Int → Int} {f : Int → Int → Option Int} (h : ∀ i j z, f i j = some z → C i j ∧ z = g i j) : RO K (rI C fun i j => .int (g i j)) f := fun {G H v w x y z} s hv hw hz Q q => by
  obtain ⟨c, e⟩ := h x y z hz
  subst e
  exact ⟨x, y, hv, hw, c, q _ G H (Ext.refl s) rfl⟩
def CMulZ (i j : Int) : Prop := i.natAbs.log2 + j.natAbs.log2 < 134000000
theorem CMulZ.ok {i j : Int} (h : CMulZ i j) : IntMulOk i j := by
  have b : ∀ x : Int, Builtin.Int.intBits x ≤ x.natAbs.log2 + 1 := fun x => by
    unfold Builtin.Int.intBits
    split <;> omega
  have h1 := b i
  have h2 := b j
  have h3 : i.natAbs.log2 + j.natAbs.log2 < 134000000 := h
  have e : bitsLine = 134217728 := by decide
  unfold IntMulOk
  intro z
  rw [Bool.and_eq_true] at z
  have z2 := z.2
  unfold Builtin.Int.intTooBig at z2
  have z3 := of_decide_eq_true z2
  rw [e] at z3
  omega
theorem op_mulZ {X : Cx} : OpR X (binaryOp .Mult) (rI CMulZ fun i j => .int (i * j)) := opI fun _ _ _ _ _ _ _ hc q => PyProof.Rows.mul_int q hc.ok
def CDivZ (i j : Int) : Prop := j ≠ 0 ∧ (j.natAbs.log2 < 9000 ∨ i.natAbs.log2 ≤ j.natAbs.log2 + 3000)
theorem CDivZ.ok {i j : Int} (h : CDivZ i j) : Builtin.divisionGoesByPylong i j = false := by
  obtain ⟨h0, h | h⟩ := h
  · exact PyProof.noPylong_of_log2 h
  · show (decide ((if j == 0 then 0 else j.natAbs.log2 / 30 + 1) > 300) && decide ((if i == 0 then 0 else i.natAbs.log2 / 30 + 1) > (if j == 0 then 0 else j.natAbs.log2 / 30 + 1) + 150)) = false
    rw [if_neg (show ¬ (j == 0) = true by simpa using h0), Bool.and_eq_false_iff]
    right
    rw [decide_eq_false_iff_not]
    split <;> omega
theorem op_divZ {X : Cx} : OpR X (binaryOp .FloorDiv) (rI CDivZ fun i j => .int (i.fdiv j)) := opI fun i j _ _ _ _ _ hc q => PyProof.Rows.floordiv_int hc.1 q (.inl hc.ok)
theorem iop_divZ {X : Cx} : OpR X (inplaceOp .FloorDiv) (rI CDivZ fun i j => .int (i.fdiv j)) := opI fun i j _ _ _ _ _ hc q => PyProof.Rows.ifloordiv_int hc.1 q (.inl hc.ok)
theorem ro_mul : RO K (rI CMulZ fun i j => .int (i * j)) mulO := ro_i fun i j z h => by
  unfold mulO at h
  split at h
  · rename_i c
    exact ⟨c, (Option.some.inj h).symm⟩
  · cases h
theorem ro_div : RO K (rI CDivZ fun i j => .int (i.fdiv j)) divO := ro_i fun i j z h => by
  unfold divO at h
  split at h
  · rename_i c
    exact ⟨c, (Option.some.inj h).symm⟩
  · cases h
theorem ro_mod : RO K (rI (fun _ j => j ≠ 0) fun i j => .int (i.fmod j)) modO := ro_i fun i j z h => by
  unfold modO at h
  split at h
  · rename_i c
    exact ⟨c, (Option.some.inj h).symm⟩
  · cases h
theorem ro_pow : RO K (rI CPow fun i j => .int (i ^ j.toNat)) powO := ro_i fun i j z h => by
  unfold powO at h
  split at h
  · rename_i c
    exact ⟨c, (Option.some.inj h).symm⟩
  · cases h
theorem ro_shl : RO K (rI CPow fun i j => .int (i * 2 ^ j.toNat)) shlO := ro_i fun i j z h => by
  unfold shlO at h
  split at h
  · rename_i c
    exact ⟨c, (Option.some.inj h).symm⟩
  · cases h
theorem ro_shr : RO K (rI (fun _ j => 0 ≤ j) fun i j => .int (i / 2 ^ j.toNat)) shrO := ro_i fun i j z h => by
  unfold shrO at h
  split at h
  · rename_i c
    exact ⟨c, (Option.some.inj h).symm⟩
  · cases h
/-- by a written number above 0 -/
theorem se_divc {m : Option Int} {j : Int} (ha : SE K ta σ G H m) (h : 0 < j ∧ j.natAbs.log2 < 9000) : SE K (tOp (rI CDivW fun i j => .int (i / j)) ta (tC (.int j))) σ G H (m.bind fun x => some (x / j)) := fun G1 H1 e z hm Q q => by
  obtain ⟨x, hx, hm⟩ := bind_some hm
  cases hm
  refine ha G1 H1 e x hx _ fun v G2 H2 e2 hv => ?_
  exact ⟨x, j, hv, rfl, h, q _ G2 H2 e2 rfl⟩
theorem se_divcp {x : Int} {j : Int} (ha : SE K ta σ G H (some x)) (h : 0 < j ∧ j.natAbs.log2 < 9000) : SE K (tOp (rI CDivW fun i j => .int (i / j)) ta (tC (.int j))) σ G H (some (x / j)) := se_divc ha h
theorem se_modc {m : Option Int} {j : Int} (ha : SE K ta σ G H m) (h : 0 < j) : SE K (tOp (rI (fun _ j => 0 < j) fun i j => .int (i % j)) ta (tC (.int j))) σ G H (m.bind fun x => some (x % j)) := fun G1 H1 e z hm Q q => by
  obtain ⟨x, hx, hm⟩ := bind_some hm
  cases hm
  refine ha G1 H1 e x hx _ fun v G2 H2 e2 hv => ?_
  exact ⟨x, j, hv, rfl, h, q _ G2 H2 e2 rfl⟩
theorem se_modcp {x : Int} {j : Int} (ha : SE K ta σ G H (some x)) (h : 0 < j) : SE K (tOp (rI (fun _ j => 0 < j) fun i j => .int (i % j)) ta (tC (.int j))) σ G H (some (x % j)) := se_modc ha h
/-- two written numbers -/
theorem se_cc {C : Int → Int → Prop} {g : Int → Int → Int} {i j n : Int} (h : C i j) (e : g i j = n) : SE K (tOp (rI C fun i j => .int (g i j)) (tC (.int i)) (tC (.int j))) σ G H (some n) := fun G1 H1 e1 z hm Q q => by
  cases hm
  exact ⟨i, j, rfl, rfl, h, q _ G1 H1 (Ext.refl e1.s) (show V.int (g i j) = .int n by rw [e])⟩
theorem se_neg {m : Option Int} (ha : SE K ta σ G H m) : SE K (tUn (rU fun i => .int (-i)) ta) σ G H (m.bind fun x => some (-x)) := fun G1 H1 e z hm Q q => by
  obtain ⟨x, hx, hm⟩ := bind_some hm
  cases hm
  exact ha G1 H1 e x hx _ fun v G2 H2 e2 hv => ⟨x, hv, q _ G2 H2 e2 rfl⟩
theorem se_negp {x : Int} (ha : SE K ta σ G H (some x)) : SE K (tUn (rU fun i => .int (-i)) ta) σ G H (some (-x)) := se_neg ha
end
end Mi

/-! MiX: tests, calls, tuples, lists, statements, loops. -/
namespace Mi
open PySem L2
open Rp (rep)

section
variable {α β γ δ : Type} [Rp α] [Rp β] [Rp γ] [Rp δ]
variable {K : PySem.W.Frag} {σ : St} {G H G1 H1 : Hp} {ta tb te : TE} {t u tc tt : TT} {ma : Option α} {mb : Option β} {r : R2} {f : α → β → Option γ} {i : Nat} {v : V} {d : α}
/-! ### tests -/
theorem st_test {m : Option Bool} (h : SE K te σ G H m) : ST (tTest te) σ G H m := fun G1 H1 e b hm Q q =>
  h G1 H1 e b hm _ fun v G2 H2 e2 hv => ⟨b, hv, q G2 H2 e2⟩
theorem st_val {m : Option Bool} (h : SE K te σ G H m) : ST (tB te) σ G H m := fun G1 H1 e b hm Q q =>
  h G1 H1 e b hm _ fun v G2 H2 e2 hv => ⟨b, hv, q G2 H2 e2⟩
theorem st_and {m n : Option Bool} (h1 : ST t σ G H m) (h2 : ST u σ G H n) : ST (tAnd t u) σ G H (m.bind fun b => cond b n (some false)) := fun G1 H1 e b hm Q q => by
  obtain ⟨c, hc, hm⟩ := bind_some hm
  refine h1 G1 H1 e c hc _ fun G2 H2 e2 => ?_
  cases c with
  | true =>
    show u σ H2 Q
    exact h2 G2 H2 (e.trans e2) b hm Q fun G3 H3 e3 => q G3 H3 (e2.trans e3)
  | false =>
    cases hm
    exact q G2 H2 e2
theorem st_or {m n : Option Bool} (h1 : ST t σ G H m) (h2 : ST u σ G H n) : ST (tOr t u) σ G H (m.bind fun b => cond b (some true) n) := fun G1 H1 e b hm Q q => by
  obtain ⟨c, hc, hm⟩ := bind_some hm
  refine h1 G1 H1 e c hc _ fun G2 H2 e2 => ?_
  cases c with
  | false =>
    show u σ H2 Q
    exact h2 G2 H2 (e.trans e2) b hm Q fun G3 H3 e3 => q G3 H3 (e2.trans e3)
  | true =>
    cases hm
    exact q G2 H2 e2
theorem st_andp {a b : Bool} (h1 : ST t σ G H (some a)) (h2 : ST u σ G H (some b)) : ST (tAnd t u) σ G H (some (a && b)) := (st_and h1 h2).is (by cases a <;> rfl)
theorem st_orp {a b : Bool} (h1 : ST t σ G H (some a)) (h2 : ST u σ G H (some b)) : ST (tOr t u) σ G H (some (a || b)) := (st_or h1 h2).is (by cases a <;> rfl)
theorem st_not {m : Option Bool} (h1 : ST t σ G H m) : ST (tNot t) σ G H (m.bind fun b => some (!b)) := fun G1 H1 e b hm Q q => by
  obtain ⟨c, hc, hm⟩ := bind_some hm
  cases hm
  exact h1 G1 H1 e c hc _ fun G2 H2 e2 => q G2 H2 e2
theorem st_notp {a : Bool} (h1 : ST t σ G H (some a)) : ST (tNot t) σ G H (some (!a)) := st_not h1
theorem se_and {m n : Option Bool} (h1 : SE K ta σ G H m) (h2 : SE K tb σ G H n) : SE K (tAndV ta tb) σ G H (m.bind fun b => cond b n (some false)) := fun G1 H1 e b hm Q q => by
  obtain ⟨c, hc, hm⟩ := bind_some hm
  refine h1 G1 H1 e c hc _ fun v G2 H2 e2 hv => ⟨c, hv, ?_⟩
  cases c with
  | true =>
    show tb σ H2 Q
    exact h2 G2 H2 (e.trans e2) b hm Q fun v G3 H3 e3 => q v G3 H3 (e2.trans e3)
  | false =>
    cases hm
    exact q _ G2 H2 e2 rfl
theorem se_or {m n : Option Bool} (h1 : SE K ta σ G H m) (h2 : SE K tb σ G H n) : SE K (tOrV ta tb) σ G H (m.bind fun b => cond b (some true) n) := fun G1 H1 e b hm Q q => by
  obtain ⟨c, hc, hm⟩ := bind_some hm
  refine h1 G1 H1 e c hc _ fun v G2 H2 e2 hv => ⟨c, hv, ?_⟩
  cases c with
  | false =>
    show tb σ H2 Q
    exact h2 G2 H2 (e.trans e2) b hm Q fun v G3 H3 e3 => q v G3 H3 (e2.trans e3)
  | true =>
    cases hm
    exact q _ G2 H2 e2 rfl
theorem se_andp {a b : Bool} (h1 : SE K ta σ G H (some a)) (h2 : SE K tb σ G H (some b)) : SE K (tAndV ta tb) σ G H (some (a && b)) := (se_and h1 h2).is (by cases a <;> rfl)
theorem se_orp {a b : Bool} (h1 : SE K ta σ G H (some a)) (h2 : SE K tb σ G H (some b)) : SE K (tOrV ta tb) σ G H (some (a || b)) := (se_or h1 h2).is (by cases a <;> rfl)
theorem se_not {m : Option Bool} (h1 : SE K ta σ G H m) : SE K (tNotV ta) σ G H (m.bind fun b => some (!b)) := fun G1 H1 e b hm Q q => by
  obtain ⟨c, hc, hm⟩ := bind_some hm
  cases hm
  exact h1 G1 H1 e c hc _ fun v G2 H2 e2 hv => ⟨c, hv, q _ G2 H2 e2 rfl⟩
theorem se_notp {a : Bool} (h1 : SE K ta σ G H (some a)) : SE K (tNotV ta) σ G H (some (!a)) := se_not h1
theorem se_if {m : Option Bool} {mx my : Option α} (h : ST t σ G H m) (h1 : SE K ta σ G H mx) (h2 : SE K tb σ G H my) : SE K (tIf t ta tb) σ G H (m.bind fun b => cond b mx my) := fun G1 H1 e z hm Q q => by
  obtain ⟨c, hc, hm⟩ := bind_some hm
  refine h G1 H1 e c hc _ fun G2 H2 e2 => ?_
  cases c with
  | true =>
    show ta σ H2 Q
    exact h1 G2 H2 (e.trans e2) z hm Q fun v G3 H3 e3 => q v G3 H3 (e2.trans e3)
  | false =>
    show tb σ H2 Q
    exact h2 G2 H2 (e.trans e2) z hm Q fun v G3 H3 e3 => q v G3 H3 (e2.trans e3)
theorem st_wif {m mx my : Option Bool} {t1 t2 : TT} (h : ST t σ G H m) (h1 : ST t1 σ G H mx) (h2 : ST t2 σ G H my) : True := trivial
/-- a op b op c -/
theorem se_chain {r r' : R2} {ta tb tc : TE} {ma : Option α} {mb : Option β} {mc : Option γ} {f : α → β → Option Bool} {g : β → γ → Option Bool} (ha : SE K ta σ G H ma) (hb : SE K tb σ G H mb) (hc : SE K tc σ G H mc) (hr : RO K r f) (hr' : RO K r' g) :
    SE K (tChain r r' ta tb tc) σ G H (ma.bind fun x => mb.bind fun y => (f x y).bind fun k => cond k (mc.bind fun z => g y z) (some false)) := fun G1 H1 e z hm Q q => by
  obtain ⟨x, hx, hm⟩ := bind_some hm
  obtain ⟨y, hy, hm⟩ := bind_some hm
  obtain ⟨k, hk, hm⟩ := bind_some hm
  refine ha G1 H1 e x hx _ fun v G2 H2 e2 hv => ?_
  refine hb G2 H2 (e.trans e2) y hy _ fun w G3 H3 e3 hw => ?_
  refine hr e3.s (Rp.mono e3.g hv) hw hk _ fun u G4 H4 e4 hu => ⟨k, hu, ?_⟩
  cases k with
  | false =>
    cases hm
    exact q _ G4 H4 ((e2.trans e3).trans e4) rfl
  | true =>
    obtain ⟨c, hc2, hm⟩ := bind_some hm
    show tc σ H4 _
    refine hc G4 H4 (((e.trans e2).trans e3).trans e4) c hc2 _ fun w' G5 H5 e5 hw' => ?_
    exact hr' e5.s (Rp.mono (e4.trans e5).g hw) hw' hm Q fun u G6 H6 e6 hu => q u G6 H6 ((((e2.trans e3).trans e4).trans e5).trans e6) hu
theorem se_chainp {r r' : R2} {ta tb tc : TE} {x : α} {y : β} {z : γ} {f : α → β → Bool} {g : β → γ → Bool} (ha : SE K ta σ G H (some x)) (hb : SE K tb σ G H (some y)) (hc : SE K tc σ G H (some z)) (hr : RO K r fun x y => some (f x y)) (hr' : RO K r' fun x y => some (g x y)) :
    SE K (tChain r r' ta tb tc) σ G H (some (f x y && g y z)) := (se_chain ha hb hc hr hr').is (by
  show cond (f x y) (some (g y z)) (some false) = _
  cases f x y <;> rfl)

/-! ### comparisons -/
class Sc (α : Type) [Rp α] [DecidableEq α] : Prop where
  sc : ∀ {K : PySem.W.Frag} {G : Hp} {v w : V} {x y : α}, rep K G v x → rep K G w y → scal v w = true ∧ decide (v = w) = decide (x = y)
instance : Sc Int := ⟨fun {_ _ _ _ x y} h h' => by
  rw [show _ = V.int _ from h, show _ = V.int _ from h']
  refine ⟨rfl, ?_⟩
  rw [dec_int]
  rfl⟩
instance : Sc Bool := ⟨fun {_ _ _ _ x y} h h' => by
  rw [show _ = V.bl _ from h, show _ = V.bl _ from h']
  refine ⟨rfl, ?_⟩
  rw [dec_bl]
  rfl⟩
instance : Sc Str := ⟨fun {_ _ _ _ x y} h h' => by
  rw [show _ = V.str _ from h, show _ = V.str _ from h']
  refine ⟨rfl, ?_⟩
  rw [dec_str]
  rfl⟩
instance : Sc (Option Int) := ⟨fun {_ _ v w x y} h h' => by
  cases x with
  | none =>
    rw [show v = .non from h]
    cases y with
    | none =>
      rw [show w = .non from h']
      exact ⟨rfl, rfl⟩
    | some y =>
      rw [show w = .int y from h'.1]
      exact ⟨rfl, rfl⟩
  | some x =>
    rw [show v = .int x from h.1]
    cases y with
    | none =>
      rw [show w = .non from h']
      exact ⟨rfl, rfl⟩
    | some y =>
      rw [show w = .int y from h'.1]
      refine ⟨rfl, ?_⟩
      rw [dec_int, Bool.eq_iff_iff]
      simp⟩
theorem ro_eq [DecidableEq α] [Sc α] : RO K rEq (fun (x y : α) => some (decide (x = y))) := fun {G H v w x y z} s hv hw hz Q q => by
  cases (show some _ = some z from hz)
  obtain ⟨h1, h2⟩ := Sc.sc hv hw
  exact ⟨h1, by rw [h2]; exact q _ G H (Ext.refl s) rfl⟩
theorem ro_ne [DecidableEq α] [Sc α] : RO K rNe (fun (x y : α) => some (!decide (x = y))) := fun {G H v w x y z} s hv hw hz Q q => by
  cases (show some _ = some z from hz)
  obtain ⟨h1, h2⟩ := Sc.sc hv hw
  exact ⟨h1, by rw [h2]; exact q _ G H (Ext.refl s) rfl⟩
/-- == of data -/
class RpD (α : Type) [Rp α] [DecidableEq α] where
  py : α → PyData
  dp : ∀ {K : PySem.W.Frag} {G H : Hp} {v : V} {x : α}, Same G H → rep K G v x → Dp K H v (py x)
  eqv : ∀ x y : α, PyData.eqv (py x) (py y) = decide (x = y)
  lay : ∀ x : α, (py x).canLay0 = true
  dep : Nat
  depth : ∀ x : α, (py x).depth ≤ dep


/-! ### == of data: what data there is -/
instance : RpD Int := ⟨.int, fun _ h => by rw [show _ = V.int _ from h]; exact .int _, fun x y => by
  show (x == y) = _
  rw [Bool.eq_iff_iff]
  simp, fun _ => rfl, 0, fun _ => Nat.le_refl 0⟩
instance : RpD Bool := ⟨.bool, fun _ h => by rw [show _ = V.bl _ from h]; exact .bl _, fun x y => by
  show (x == y) = _
  rw [Bool.eq_iff_iff]
  simp, fun _ => rfl, 0, fun _ => Nat.le_refl 0⟩
instance : RpD Unit := ⟨fun _ => .none, fun _ h => by rw [show _ = V.non from h]; exact .non, fun x y => by
  show true = _
  simp, fun _ => rfl, 0, fun _ => Nat.le_refl 0⟩
end
/-- data that is not None -/
class RpDN (α : Type) [Rp α] [DecidableEq α] [RpD α] : Prop where
  l : ∀ x : α, PyData.eqv .none (RpD.py x) = false
  r : ∀ x : α, PyData.eqv (RpD.py x) .none = false
instance : RpDN Int := ⟨fun _ => rfl, fun _ => rfl⟩
instance : RpDN Bool := ⟨fun _ => rfl, fun _ => rfl⟩
instance {α : Type} [Rp α] [DecidableEq α] [RpD α] [RpDN α] : RpD (Option α) := ⟨fun o => match o with
  | none => .none
  | some x => RpD.py x, fun {_ _ _ _ x} s h => by
    cases x with
    | none =>
      rw [show _ = V.non from h]
      exact .non
    | some x => exact RpD.dp s h.1, fun x y => by
    cases x with
    | none =>
      cases y with
      | none => rfl
      | some y =>
        show PyData.eqv .none (RpD.py y) = _
        rw [RpDN.l]
        rfl
    | some x =>
      cases y with
      | none =>
        show PyData.eqv (RpD.py x) .none = _
        rw [RpDN.r]
        rfl
      | some y =>
        show PyData.eqv (RpD.py x) (RpD.py y) = _
        rw [RpD.eqv, Bool.eq_iff_iff]
        simp, fun x => by
    cases x with
    | none => rfl
    | some x => exact RpD.lay x, RpD.dep α, fun x => by
    cases x with
    | none => exact Nat.zero_le _
    | some x => exact RpD.depth x⟩
theorem dall {α : Type} [Rp α] [DecidableEq α] [RpD α] {K : PySem.W.Frag} {G H : Hp} (s : Same G H) : ∀ {vs : List V} {ds : List α}, Reps K G vs ds → DpAll K H vs (ds.map RpD.py)
  | _, _, .nil => .nil
  | _, _, .cons r t => .cons (RpD.dp s r) (dall s t)
theorem eqvAll_map {α : Type} [Rp α] [DecidableEq α] [RpD α] : ∀ xs ys : List α, PyData.eqvAll (xs.map RpD.py) (ys.map RpD.py) = decide (xs = ys)
  | [], [] => rfl
  | [], _ :: _ => rfl
  | _ :: _, [] => rfl
  | x :: xs, y :: ys => by
    show (PyData.eqv (RpD.py x) (RpD.py y) && PyData.eqvAll (xs.map RpD.py) (ys.map RpD.py)) = _
    rw [eqvAll_map xs ys, RpD.eqv, Bool.eq_iff_iff]
    simp
theorem layAll_map {α : Type} [Rp α] [DecidableEq α] [RpD α] : ∀ xs : List α, PyData.canLayAll0 (xs.map RpD.py) = true
  | [] => rfl
  | x :: xs => by
    show (PyData.canLay0 (RpD.py x) && PyData.canLayAll0 (xs.map RpD.py)) = true
    rw [layAll_map xs, RpD.lay]
    rfl
theorem depAll_map {α : Type} [Rp α] [DecidableEq α] [RpD α] : ∀ xs : List α, PyData.depthAll (xs.map RpD.py) ≤ RpD.dep α
  | [] => Nat.zero_le _
  | x :: xs => by
    show max (PyData.depth (RpD.py x)) (PyData.depthAll (xs.map RpD.py)) ≤ _
    exact Nat.max_le.mpr ⟨RpD.depth x, depAll_map xs⟩
instance {α : Type} [Rp α] [DecidableEq α] [RpD α] : RpD (List α) := ⟨fun xs => .list (xs.map RpD.py), fun s ⟨a, vs, e, h, _, r⟩ => by
  rw [e]
  exact .lst (SqL.of (s _ _ h)) (dall s r), fun x y => eqvAll_map x y, fun x => layAll_map x, RpD.dep α + 1, fun x => Nat.succ_le_succ (depAll_map x)⟩
instance {α : Type} [Rp α] [DecidableEq α] [RpD α] : RpDN (List α) := ⟨fun _ => rfl, fun _ => rfl⟩
theorem eqv2 {a b c d : PyData} : PyData.eqv (.tuple [a, b]) (.tuple [c, d]) = (PyData.eqv a c && PyData.eqv b d) := by
  show (PyData.eqv a c && (PyData.eqv b d && true)) = _
  rw [Bool.and_true]
instance {α β : Type} [Rp α] [DecidableEq α] [RpD α] [Rp β] [DecidableEq β] [RpD β] : RpD (α × β) := ⟨fun p => .tuple [RpD.py p.1, RpD.py p.2], fun s ⟨a, x, y, e, h, h1, h2⟩ => by
  rw [e]
  exact .tup (same_tup s h) (.cons (RpD.dp s h1) (.cons (RpD.dp s h2) .nil)), fun x y => by
  rw [eqv2, RpD.eqv, RpD.eqv, Bool.eq_iff_iff]
  simp [Prod.ext_iff], fun x => by
  show (PyData.canLay0 (RpD.py x.1) && (PyData.canLay0 (RpD.py x.2) && true)) = true
  rw [RpD.lay, RpD.lay]
  rfl, max (RpD.dep α) (RpD.dep β) + 1, fun x => by
  show max (PyData.depth (RpD.py x.1)) (max (PyData.depth (RpD.py x.2)) 0) + 1 ≤ _
  have h1 := RpD.depth x.1
  have h2 := RpD.depth x.2
  omega⟩
instance {α β : Type} [Rp α] [DecidableEq α] [RpD α] [Rp β] [DecidableEq β] [RpD β] : RpDN (α × β) := ⟨fun _ => rfl, fun _ => rfl⟩
instance {α β γ : Type} [Rp α] [DecidableEq α] [RpD α] [Rp β] [DecidableEq β] [RpD β] [Rp γ] [DecidableEq γ] [RpD γ] : RpD (T3 α β γ) := ⟨fun p => .tuple [RpD.py p.a, RpD.py p.b, RpD.py p.c], fun s ⟨a, x, y, z, e, h, h1, h2, h3⟩ => by
  rw [e]
  exact .tup (same_tup s h) (.cons (RpD.dp s h1) (.cons (RpD.dp s h2) (.cons (RpD.dp s h3) .nil))), fun x y => by
  show (PyData.eqv _ _ && (PyData.eqv _ _ && (PyData.eqv _ _ && true))) = _
  rw [RpD.eqv, RpD.eqv, RpD.eqv, Bool.eq_iff_iff]
  cases x
  cases y
  simp, fun x => by
  show (PyData.canLay0 (RpD.py x.a) && (PyData.canLay0 (RpD.py x.b) && (PyData.canLay0 (RpD.py x.c) && true))) = true
  rw [RpD.lay, RpD.lay, RpD.lay]
  rfl, max (RpD.dep α) (max (RpD.dep β) (RpD.dep γ)) + 1, fun x => by
  show max (PyData.depth (RpD.py x.a)) (max (PyData.depth (RpD.py x.b)) (max (PyData.depth (RpD.py x.c)) 0)) + 1 ≤ _
  have h1 := RpD.depth x.a
  have h2 := RpD.depth x.b
  have h3 := RpD.depth x.c
  omega⟩
instance {α β γ : Type} [Rp α] [DecidableEq α] [RpD α] [Rp β] [DecidableEq β] [RpD β] [Rp γ] [DecidableEq γ] [RpD γ] : RpDN (T3 α β γ) := ⟨fun _ => rfl, fun _ => rfl⟩
instance {α β γ δ : Type} [Rp α] [DecidableEq α] [RpD α] [Rp β] [DecidableEq β] [RpD β] [Rp γ] [DecidableEq γ] [RpD γ] [Rp δ] [DecidableEq δ] [RpD δ] : RpD (T4 α β γ δ) := ⟨fun p => .tuple [RpD.py p.a, RpD.py p.b, RpD.py p.c, RpD.py p.d], fun s ⟨a, x, y, z, u, e, h, h1, h2, h3, h4⟩ => by
  rw [e]
  exact .tup (same_tup s h) (.cons (RpD.dp s h1) (.cons (RpD.dp s h2) (.cons (RpD.dp s h3) (.cons (RpD.dp s h4) .nil)))), fun x y => by
  show (PyData.eqv _ _ && (PyData.eqv _ _ && (PyData.eqv _ _ && (PyData.eqv _ _ && true)))) = _
  rw [RpD.eqv, RpD.eqv, RpD.eqv, RpD.eqv, Bool.eq_iff_iff]
  cases x
  cases y
  simp, fun x => by
  show (PyData.canLay0 (RpD.py x.a) && (PyData.canLay0 (RpD.py x.b) && (PyData.canLay0 (RpD.py x.c) && (PyData.canLay0 (RpD.py x.d) && true)))) = true
  rw [RpD.lay, RpD.lay, RpD.lay, RpD.lay]
  rfl, max (max (RpD.dep α) (RpD.dep δ)) (max (RpD.dep β) (RpD.dep γ)) + 1, fun x => by
  show max (PyData.depth (RpD.py x.a)) (max (PyData.depth (RpD.py x.b)) (max (PyData.depth (RpD.py x.c)) (max (PyData.depth (RpD.py x.d)) 0))) + 1 ≤ _
  have h1 := RpD.depth x.a
  have h2 := RpD.depth x.b
  have h3 := RpD.depth x.c
  have h4 := RpD.depth x.d
  omega⟩
section
variable {α β γ δ : Type} [Rp α] [Rp β] [Rp γ] [Rp δ]
variable {K : PySem.W.Frag} {σ : St} {G H G1 H1 : Hp} {ta tb te tl : TE} {t u tc tt : TT} {ma : Option α} {mb : Option β} {r : R2} {f : α → β → Option γ} {i : Nat} {v : V} {d : α} {n : Nat} {ts : TA}
theorem shaped_of [DecidableEq α] [RpD α] (x : α) (h : RpD.dep α ≤ 64) : SeqAt.shaped (RpD.py x) = true := by
  unfold SeqAt.shaped
  rw [RpD.lay x, Bool.true_and, decide_eq_true_eq]
  exact Nat.le_trans (RpD.depth x) h
theorem ro_eqD [DecidableEq α] [RpD α] (h : RpD.dep α ≤ 64) : RO K (rEqD K) (fun (x y : α) => some (decide (x = y))) := fun {G H v w x y z} s hv hw hz Q q => by
  cases (show some _ = some z from hz)
  exact ⟨RpD.py x, RpD.py y, RpD.dp s hv, RpD.dp s hw, shaped_of x h, shaped_of y h, by rw [RpD.eqv]; exact q _ G H (Ext.refl s) rfl⟩
theorem ro_neD [DecidableEq α] [RpD α] (h : RpD.dep α ≤ 64) : RO K (rNeD K) (fun (x y : α) => some (!decide (x = y))) := fun {G H v w x y z} s hv hw hz Q q => by
  cases (show some _ = some z from hz)
  exact ⟨RpD.py x, RpD.py y, RpD.dp s hv, RpD.dp s hw, shaped_of x h, shaped_of y h, by rw [RpD.eqv]; exact q _ G H (Ext.refl s) rfl⟩

/-! ### is None -/
theorem opt_non {o : Option α} (h : rep K G v o) : decide (v = .non) = o.isNone := by
  cases o with
  | none =>
    rw [show v = .non from h]
    rfl
  | some x => exact decide_eq_false h.2
theorem se_isN {m : Option (Option α)} (ha : SE K ta σ G H m) : SE K (tOp (fun x y H Q => y = .non ∧ Q (.bl (decide (x = .non))) H) ta (tC .non)) σ G H (m.bind fun o => some o.isNone) := fun G1 H1 e z hm Q q => by
  obtain ⟨o, ho, hm⟩ := bind_some hm
  cases hm
  refine ha G1 H1 e o ho _ fun v G2 H2 e2 hv => ⟨rfl, ?_⟩
  rw [opt_non hv]
  exact q _ G2 H2 e2 rfl
theorem se_notN {m : Option (Option α)} (ha : SE K ta σ G H m) : SE K (tOp (fun x y H Q => y = .non ∧ Q (.bl (!decide (x = .non))) H) ta (tC .non)) σ G H (m.bind fun o => some (!o.isNone)) := fun G1 H1 e z hm Q q => by
  obtain ⟨o, ho, hm⟩ := bind_some hm
  cases hm
  refine ha G1 H1 e o ho _ fun v G2 H2 e2 hv => ⟨rfl, ?_⟩
  rw [opt_non hv]
  exact q _ G2 H2 e2 rfl
theorem se_isNp {o : Option α} (ha : SE K ta σ G H (some o)) : SE K (tOp (fun x y H Q => y = .non ∧ Q (.bl (decide (x = .non))) H) ta (tC .non)) σ G H (some o.isNone) := se_isN ha
theorem se_notNp {o : Option α} (ha : SE K ta σ G H (some o)) : SE K (tOp (fun x y H Q => y = .non ∧ Q (.bl (!decide (x = .non))) H) ta (tC .non)) σ G H (some (!o.isNone)) := se_notN ha
/-- a value that may be None, by what it is where it isn't None -/
theorem se_get {m : Option (Option α)} (ha : SE K ta σ G H m) : SE K ta σ G H (m.bind fun o => o) := fun G1 H1 e z hm Q q => by
  obtain ⟨o, ho, hm⟩ := bind_some hm
  cases hm
  exact ha G1 H1 e (some z) ho Q fun v G2 H2 e2 hv => q v G2 H2 e2 hv.1

/-! ### in -/
class RpF (α : Type) [Rp α] [DecidableEq α] : Prop where
  flat : ∀ {K : PySem.W.Frag} {G : Hp} {v : V} {x : α}, rep K G v x → flatV v = true
  eq : ∀ {K : PySem.W.Frag} {G : Hp} {v w : V} {x y : α}, rep K G v x → rep K G w y → eqV v w = decide (x = y)
instance : RpF Int := ⟨fun h => by rw [show _ = V.int _ from h]; rfl, fun {_ _ _ _ x y} h h' => by
  rw [show _ = V.int _ from h, show _ = V.int _ from h']
  show (x == y) = _
  rw [Bool.eq_iff_iff]
  simp⟩
theorem flats [DecidableEq α] [RpF α] : ∀ {vs : List V} {ds : List α}, Reps K G vs ds → vs.all flatV = true
  | _, _, .nil => rfl
  | _, _, .cons r t => by
    rw [List.all_cons, flats t, RpF.flat r]
    rfl
theorem in_reps [DecidableEq α] [RpF α] {x : α} (h : rep K G v x) : ∀ {vs : List V} {ds : List α}, Reps K G vs ds → inV v vs = decide (x ∈ ds)
  | _, _, .nil => by simp [inV]
  | _, _, .cons (a := b) (b := y) r t => by
    have ih := in_reps h t
    unfold inV at ih ⊢
    rw [List.any_cons, ih, RpF.eq r h, Bool.eq_iff_iff]
    simp
    exact ⟨fun q => q.imp Eq.symm id, fun q => q.imp Eq.symm id⟩
theorem ro_in [DecidableEq α] [RpF α] : RO K (rIn K false) (fun (x : α) (xs : List α) => some (decide (x ∈ xs))) := fun {G H v w x y z} s hv ⟨a, vs, e, h, l, rs⟩ hz Q q => by
  cases (show some _ = some z from hz)
  exact ⟨a, vs, e, .inl (SqL.of (s _ _ h)), RpF.flat hv, flats rs, by
    rw [in_reps hv rs]
    exact q _ G H (Ext.refl s) rfl⟩
theorem ro_notIn [DecidableEq α] [RpF α] : RO K (rIn K true) (fun (x : α) (xs : List α) => some (!decide (x ∈ xs))) := fun {G H v w x y z} s hv ⟨a, vs, e, h, l, rs⟩ hz Q q => by
  cases (show some _ = some z from hz)
  exact ⟨a, vs, e, .inl (SqL.of (s _ _ h)), RpF.flat hv, flats rs, by
    rw [in_reps hv rs]
    exact q _ G H (Ext.refl s) rfl⟩

/-! ### items -/
theorem atI_reps {vs : List V} {ds : List α} {k : Int} {d : α} (h : Reps K G vs ds) (e : ixO ds k = some d) : ∃ v, atI vs k = some v ∧ rep K G v d := by
  have l := h.len
  unfold ixO at e
  unfold atI ixN
  by_cases h0 : 0 ≤ k
  · rw [if_pos h0] at e
    obtain ⟨v, h1, h2⟩ := h.get e
    have hk : k.toNat < vs.length := by
      obtain ⟨hk, _⟩ := List.getElem?_eq_some_iff.mp h1
      exact hk
    rw [if_pos h0, if_pos (by omega)]
    exact ⟨v, h1, h2⟩
  · rw [if_neg h0] at e
    rw [if_neg h0]
    split at e
    · rename_i hl
      obtain ⟨v, h1, h2⟩ := h.get e
      rw [if_pos (by omega)]
      refine ⟨v, ?_, h2⟩
      show vs[(k + (vs.length : Int)).toNat]? = some v
      rw [l]
      exact h1
    · cases e
theorem ro_ix : RO K (rIxL K) (fun (xs : List α) (k : Int) => ixO xs k) := fun {G H v w x y z} s ⟨a, vs, e, h, l, rs⟩ hw hz Q q => by
  obtain ⟨u, h1, h2⟩ := atI_reps rs hz
  exact ⟨a, vs, y, u, e, hw, SqL.of (s _ _ h), h1, q u G H (Ext.refl s) h2⟩
theorem ro_ixK : RO K (rIxL K) (fun (xs : KL α) (k : Int) => ixO xs.l k) := fun {G H v w x y z} s ⟨a, vs, e, h, l, rs⟩ hw hz Q q => by
  obtain ⟨u, h1, h2⟩ := atI_reps rs hz
  exact ⟨a, vs, y, u, e, hw, s.seq h, h1, q u G H (Ext.refl s) h2⟩
theorem ro_ixT : RO K (rIxT K) (fun (xs : TL α) (k : Int) => ixO xs.l k) := fun {G H v w x y z} s ⟨a, vs, e, h, l, rs⟩ hw hz Q q => by
  obtain ⟨u, h1, h2⟩ := atI_reps rs hz
  exact ⟨a, vs, y, u, e, hw, same_tup s h, h1, q u G H (Ext.refl s) h2⟩
/-- an item of a list of one's own -/
theorem se_own_ix {H0 : Hp} {p : Addr} {ds : List α} {mk : Option Int} (hv : σ[i]? = some (some (.ref p))) (o : Own K H0 G H p ds) (hk : SE K tb σ G H mk) : SE K (tOp (rIxL K) (tVar i) tb) σ G H (mk.bind fun k => ixO ds k) := fun G1 H1 e z hm Q q => by
  obtain ⟨k, hk2, hm⟩ := bind_some hm
  refine ⟨.ref p, hv, ?_⟩
  refine hk G1 H1 e k hk2 _ fun w G2 H2 e2 hw => ?_
  obtain ⟨vs, h, l, rs⟩ := (o.mono (e.trans e2)).h
  obtain ⟨u, h1, h2⟩ := atI_reps rs hm
  exact ⟨p, vs, k, u, rfl, hw, SqL.of h, h1, q u G2 H2 e2 h2⟩
theorem se_own_ixp {H0 : Hp} {p : Addr} {ds : List α} {k : Int} (hv : σ[i]? = some (some (.ref p))) (o : Own K H0 G H p ds) (hk : SE K tb σ G H (some k)) : SE K (tOp (rIxL K) (tVar i) tb) σ G H (ixO ds k) := se_own_ix hv o hk

theorem se_t2_0 {m : Option (α × β)} (h : SE K ta σ G H m) : SE K (tOp (rIxT K) ta (tC (.int 0))) σ G H (m.bind fun t => some t.1) := fun G1 H1 e z hm Q q => by
  obtain ⟨t, ht, hm⟩ := bind_some hm
  cases hm
  refine h G1 H1 e t ht _ fun v G2 H2 e3 ⟨a, x, y, e2, h, h0, h1⟩ => ?_
  exact ⟨a, [x, y], 0, x, (by assumption), rfl, same_tup e3.s h, rfl, q x G2 H2 (by assumption) h0⟩
theorem se_t2_0p {t : α × β} (h : SE K ta σ G H (some t)) : SE K (tOp (rIxT K) ta (tC (.int 0))) σ G H (some t.1) := se_t2_0 h
theorem se_t2_1 {m : Option (α × β)} (h : SE K ta σ G H m) : SE K (tOp (rIxT K) ta (tC (.int 1))) σ G H (m.bind fun t => some t.2) := fun G1 H1 e z hm Q q => by
  obtain ⟨t, ht, hm⟩ := bind_some hm
  cases hm
  refine h G1 H1 e t ht _ fun v G2 H2 e3 ⟨a, x, y, e2, h, h0, h1⟩ => ?_
  exact ⟨a, [x, y], 1, y, (by assumption), rfl, same_tup e3.s h, rfl, q y G2 H2 (by assumption) h1⟩
theorem se_t2_1p {t : α × β} (h : SE K ta σ G H (some t)) : SE K (tOp (rIxT K) ta (tC (.int 1))) σ G H (some t.2) := se_t2_1 h
theorem se_tup2 {t0 t1 : TE} {m0 : Option α} {m1 : Option β} (h0 : SE K t0 σ G H m0) (h1 : SE K t1 σ G H m1) : SE K (tTup (tCons t0 (tCons t1 tNil))) σ G H (m0.bind fun x0 => (m1.bind fun x1 => some (((x0, x1) : α × β)))) := fun G1 H1 e z hm Q q => by
  obtain ⟨x0, hx0, hm⟩ := bind_some hm
  obtain ⟨x1, hx1, hm⟩ := bind_some hm
  cases hm
  refine h0 _ _ e x0 hx0 _ fun v0 G2 H2 e0 r0 => ?_
  refine h1 _ _ (e.trans e0) x1 hx1 _ fun v1 G3 H3 e1 r1 => ?_
  refine ⟨by show 2 ≤ sizeLine; decide, fun p np => ?_⟩
  exact q (.ref p) _ _ ((e0.trans e1).trans (Ext.new (o := .tup [v0, v1]) e1.s np)) ⟨p, v0, v1, rfl, SqT.of upd_same, Rp.mono (same_new (e1.s.free np)) (Rp.mono e1.g r0), Rp.mono (same_new (e1.s.free np)) (r1)⟩
theorem se_tup2p {t0 t1 : TE} {x0 : α} {x1 : β} (h0 : SE K t0 σ G H (some x0)) (h1 : SE K t1 σ G H (some x1)) : SE K (tTup (tCons t0 (tCons t1 tNil))) σ G H (some (((x0, x1) : α × β))) := se_tup2 h0 h1
theorem se_t3_0 {m : Option (T3 α β γ)} (h : SE K ta σ G H m) : SE K (tOp (rIxT K) ta (tC (.int 0))) σ G H (m.bind fun t => some t.a) := fun G1 H1 e z hm Q q => by
  obtain ⟨t, ht, hm⟩ := bind_some hm
  cases hm
  refine h G1 H1 e t ht _ fun v G2 H2 e3 ⟨a, x, y, z, e2, h, h0, h1, h2⟩ => ?_
  exact ⟨a, [x, y, z], 0, x, (by assumption), rfl, same_tup e3.s h, rfl, q x G2 H2 (by assumption) h0⟩
theorem se_t3_0p {t : T3 α β γ} (h : SE K ta σ G H (some t)) : SE K (tOp (rIxT K) ta (tC (.int 0))) σ G H (some t.a) := se_t3_0 h
theorem se_t3_1 {m : Option (T3 α β γ)} (h : SE K ta σ G H m) : SE K (tOp (rIxT K) ta (tC (.int 1))) σ G H (m.bind fun t => some t.b) := fun G1 H1 e z hm Q q => by
  obtain ⟨t, ht, hm⟩ := bind_some hm
  cases hm
  refine h G1 H1 e t ht _ fun v G2 H2 e3 ⟨a, x, y, z, e2, h, h0, h1, h2⟩ => ?_
  exact ⟨a, [x, y, z], 1, y, (by assumption), rfl, same_tup e3.s h, rfl, q y G2 H2 (by assumption) h1⟩
theorem se_t3_1p {t : T3 α β γ} (h : SE K ta σ G H (some t)) : SE K (tOp (rIxT K) ta (tC (.int 1))) σ G H (some t.b) := se_t3_1 h
theorem se_t3_2 {m : Option (T3 α β γ)} (h : SE K ta σ G H m) : SE K (tOp (rIxT K) ta (tC (.int 2))) σ G H (m.bind fun t => some t.c) := fun G1 H1 e z hm Q q => by
  obtain ⟨t, ht, hm⟩ := bind_some hm
  cases hm
  refine h G1 H1 e t ht _ fun v G2 H2 e3 ⟨a, x, y, z, e2, h, h0, h1, h2⟩ => ?_
  exact ⟨a, [x, y, z], 2, z, (by assumption), rfl, same_tup e3.s h, rfl, q z G2 H2 (by assumption) h2⟩
theorem se_t3_2p {t : T3 α β γ} (h : SE K ta σ G H (some t)) : SE K (tOp (rIxT K) ta (tC (.int 2))) σ G H (some t.c) := se_t3_2 h
theorem se_tup3 {t0 t1 t2 : TE} {m0 : Option α} {m1 : Option β} {m2 : Option γ} (h0 : SE K t0 σ G H m0) (h1 : SE K t1 σ G H m1) (h2 : SE K t2 σ G H m2) : SE K (tTup (tCons t0 (tCons t1 (tCons t2 tNil)))) σ G H (m0.bind fun x0 => (m1.bind fun x1 => (m2.bind fun x2 => some ((⟨x0, x1, x2⟩ : T3 α β γ))))) := fun G1 H1 e z hm Q q => by
  obtain ⟨x0, hx0, hm⟩ := bind_some hm
  obtain ⟨x1, hx1, hm⟩ := bind_some hm
  obtain ⟨x2, hx2, hm⟩ := bind_some hm
  cases hm
  refine h0 _ _ e x0 hx0 _ fun v0 G2 H2 e0 r0 => ?_
  refine h1 _ _ (e.trans e0) x1 hx1 _ fun v1 G3 H3 e1 r1 => ?_
  refine h2 _ _ ((e.trans e0).trans e1) x2 hx2 _ fun v2 G4 H4 e2 r2 => ?_
  refine ⟨by show 3 ≤ sizeLine; decide, fun p np => ?_⟩
  exact q (.ref p) _ _ (((e0.trans e1).trans e2).trans (Ext.new (o := .tup [v0, v1, v2]) e2.s np)) ⟨p, v0, v1, v2, rfl, SqT.of upd_same, Rp.mono (same_new (e2.s.free np)) (Rp.mono (e1.trans e2).g r0), Rp.mono (same_new (e2.s.free np)) (Rp.mono e2.g r1), Rp.mono (same_new (e2.s.free np)) (r2)⟩
theorem se_tup3p {t0 t1 t2 : TE} {x0 : α} {x1 : β} {x2 : γ} (h0 : SE K t0 σ G H (some x0)) (h1 : SE K t1 σ G H (some x1)) (h2 : SE K t2 σ G H (some x2)) : SE K (tTup (tCons t0 (tCons t1 (tCons t2 tNil)))) σ G H (some ((⟨x0, x1, x2⟩ : T3 α β γ))) := se_tup3 h0 h1 h2
theorem se_t4_0 {m : Option (T4 α β γ δ)} (h : SE K ta σ G H m) : SE K (tOp (rIxT K) ta (tC (.int 0))) σ G H (m.bind fun t => some t.a) := fun G1 H1 e z hm Q q => by
  obtain ⟨t, ht, hm⟩ := bind_some hm
  cases hm
  refine h G1 H1 e t ht _ fun v G2 H2 e3 ⟨a, x, y, z, u, e2, h, h0, h1, h2, h3⟩ => ?_
  exact ⟨a, [x, y, z, u], 0, x, (by assumption), rfl, same_tup e3.s h, rfl, q x G2 H2 (by assumption) h0⟩
theorem se_t4_0p {t : T4 α β γ δ} (h : SE K ta σ G H (some t)) : SE K (tOp (rIxT K) ta (tC (.int 0))) σ G H (some t.a) := se_t4_0 h
theorem se_t4_1 {m : Option (T4 α β γ δ)} (h : SE K ta σ G H m) : SE K (tOp (rIxT K) ta (tC (.int 1))) σ G H (m.bind fun t => some t.b) := fun G1 H1 e z hm Q q => by
  obtain ⟨t, ht, hm⟩ := bind_some hm
  cases hm
  refine h G1 H1 e t ht _ fun v G2 H2 e3 ⟨a, x, y, z, u, e2, h, h0, h1, h2, h3⟩ => ?_
  exact ⟨a, [x, y, z, u], 1, y, (by assumption), rfl, same_tup e3.s h, rfl, q y G2 H2 (by assumption) h1⟩
theorem se_t4_1p {t : T4 α β γ δ} (h : SE K ta σ G H (some t)) : SE K (tOp (rIxT K) ta (tC (.int 1))) σ G H (some t.b) := se_t4_1 h
theorem se_t4_2 {m : Option (T4 α β γ δ)} (h : SE K ta σ G H m) : SE K (tOp (rIxT K) ta (tC (.int 2))) σ G H (m.bind fun t => some t.c) := fun G1 H1 e z hm Q q => by
  obtain ⟨t, ht, hm⟩ := bind_some hm
  cases hm
  refine h G1 H1 e t ht _ fun v G2 H2 e3 ⟨a, x, y, z, u, e2, h, h0, h1, h2, h3⟩ => ?_
  exact ⟨a, [x, y, z, u], 2, z, (by assumption), rfl, same_tup e3.s h, rfl, q z G2 H2 (by assumption) h2⟩
theorem se_t4_2p {t : T4 α β γ δ} (h : SE K ta σ G H (some t)) : SE K (tOp (rIxT K) ta (tC (.int 2))) σ G H (some t.c) := se_t4_2 h
theorem se_t4_3 {m : Option (T4 α β γ δ)} (h : SE K ta σ G H m) : SE K (tOp (rIxT K) ta (tC (.int 3))) σ G H (m.bind fun t => some t.d) := fun G1 H1 e z hm Q q => by
  obtain ⟨t, ht, hm⟩ := bind_some hm
  cases hm
  refine h G1 H1 e t ht _ fun v G2 H2 e3 ⟨a, x, y, z, u, e2, h, h0, h1, h2, h3⟩ => ?_
  exact ⟨a, [x, y, z, u], 3, u, (by assumption), rfl, same_tup e3.s h, rfl, q u G2 H2 (by assumption) h3⟩
theorem se_t4_3p {t : T4 α β γ δ} (h : SE K ta σ G H (some t)) : SE K (tOp (rIxT K) ta (tC (.int 3))) σ G H (some t.d) := se_t4_3 h
theorem se_tup4 {t0 t1 t2 t3 : TE} {m0 : Option α} {m1 : Option β} {m2 : Option γ} {m3 : Option δ} (h0 : SE K t0 σ G H m0) (h1 : SE K t1 σ G H m1) (h2 : SE K t2 σ G H m2) (h3 : SE K t3 σ G H m3) : SE K (tTup (tCons t0 (tCons t1 (tCons t2 (tCons t3 tNil))))) σ G H (m0.bind fun x0 => (m1.bind fun x1 => (m2.bind fun x2 => (m3.bind fun x3 => some ((⟨x0, x1, x2, x3⟩ : T4 α β γ δ)))))) := fun G1 H1 e z hm Q q => by
  obtain ⟨x0, hx0, hm⟩ := bind_some hm
  obtain ⟨x1, hx1, hm⟩ := bind_some hm
  obtain ⟨x2, hx2, hm⟩ := bind_some hm
  obtain ⟨x3, hx3, hm⟩ := bind_some hm
  cases hm
  refine h0 _ _ e x0 hx0 _ fun v0 G2 H2 e0 r0 => ?_
  refine h1 _ _ (e.trans e0) x1 hx1 _ fun v1 G3 H3 e1 r1 => ?_
  refine h2 _ _ ((e.trans e0).trans e1) x2 hx2 _ fun v2 G4 H4 e2 r2 => ?_
  refine h3 _ _ (((e.trans e0).trans e1).trans e2) x3 hx3 _ fun v3 G5 H5 e3 r3 => ?_
  refine ⟨by show 4 ≤ sizeLine; decide, fun p np => ?_⟩
  exact q (.ref p) _ _ ((((e0.trans e1).trans e2).trans e3).trans (Ext.new (o := .tup [v0, v1, v2, v3]) e3.s np)) ⟨p, v0, v1, v2, v3, rfl, SqT.of upd_same, Rp.mono (same_new (e3.s.free np)) (Rp.mono ((e1.trans e2).trans e3).g r0), Rp.mono (same_new (e3.s.free np)) (Rp.mono (e2.trans e3).g r1), Rp.mono (same_new (e3.s.free np)) (Rp.mono e3.g r2), Rp.mono (same_new (e3.s.free np)) (r3)⟩
theorem se_tup4p {t0 t1 t2 t3 : TE} {x0 : α} {x1 : β} {x2 : γ} {x3 : δ} (h0 : SE K t0 σ G H (some x0)) (h1 : SE K t1 σ G H (some x1)) (h2 : SE K t2 σ G H (some x2)) (h3 : SE K t3 σ G H (some x3)) : SE K (tTup (tCons t0 (tCons t1 (tCons t2 (tCons t3 tNil))))) σ G H (some ((⟨x0, x1, x2, x3⟩ : T4 α β γ δ))) := se_tup4 h0 h1 h2 h3
theorem se_t5_0 {ε : Type} [Rp ε] {m : Option (T5 α β γ δ ε)} (h : SE K ta σ G H m) : SE K (tOp (rIxT K) ta (tC (.int 0))) σ G H (m.bind fun t => some t.a) := fun G1 H1 e z hm Q q => by
  obtain ⟨t, ht, hm⟩ := bind_some hm
  cases hm
  refine h G1 H1 e t ht _ fun v G2 H2 e3 ⟨a, x, y, z, u, w, e2, h, h0, h1, h2, h3, h4⟩ => ?_
  exact ⟨a, [x, y, z, u, w], 0, x, (by assumption), rfl, same_tup e3.s h, rfl, q x G2 H2 (by assumption) h0⟩
theorem se_t5_0p {ε : Type} [Rp ε] {t : T5 α β γ δ ε} (h : SE K ta σ G H (some t)) : SE K (tOp (rIxT K) ta (tC (.int 0))) σ G H (some t.a) := se_t5_0 h
theorem se_t5_1 {ε : Type} [Rp ε] {m : Option (T5 α β γ δ ε)} (h : SE K ta σ G H m) : SE K (tOp (rIxT K) ta (tC (.int 1))) σ G H (m.bind fun t => some t.b) := fun G1 H1 e z hm Q q => by
  obtain ⟨t, ht, hm⟩ := bind_some hm
  cases hm
  refine h G1 H1 e t ht _ fun v G2 H2 e3 ⟨a, x, y, z, u, w, e2, h, h0, h1, h2, h3, h4⟩ => ?_
  exact ⟨a, [x, y, z, u, w], 1, y, (by assumption), rfl, same_tup e3.s h, rfl, q y G2 H2 (by assumption) h1⟩
theorem se_t5_1p {ε : Type} [Rp ε] {t : T5 α β γ δ ε} (h : SE K ta σ G H (some t)) : SE K (tOp (rIxT K) ta (tC (.int 1))) σ G H (some t.b) := se_t5_1 h
theorem se_t5_2 {ε : Type} [Rp ε] {m : Option (T5 α β γ δ ε)} (h : SE K ta σ G H m) : SE K (tOp (rIxT K) ta (tC (.int 2))) σ G H (m.bind fun t => some t.c) := fun G1 H1 e z hm Q q => by
  obtain ⟨t, ht, hm⟩ := bind_some hm
  cases hm
  refine h G1 H1 e t ht _ fun v G2 H2 e3 ⟨a, x, y, z, u, w, e2, h, h0, h1, h2, h3, h4⟩ => ?_
  exact ⟨a, [x, y, z, u, w], 2, z, (by assumption), rfl, same_tup e3.s h, rfl, q z G2 H2 (by assumption) h2⟩
theorem se_t5_2p {ε : Type} [Rp ε] {t : T5 α β γ δ ε} (h : SE K ta σ G H (some t)) : SE K (tOp (rIxT K) ta (tC (.int 2))) σ G H (some t.c) := se_t5_2 h
theorem se_t5_3 {ε : Type} [Rp ε] {m : Option (T5 α β γ δ ε)} (h : SE K ta σ G H m) : SE K (tOp (rIxT K) ta (tC (.int 3))) σ G H (m.bind fun t => some t.d) := fun G1 H1 e z hm Q q => by
  obtain ⟨t, ht, hm⟩ := bind_some hm
  cases hm
  refine h G1 H1 e t ht _ fun v G2 H2 e3 ⟨a, x, y, z, u, w, e2, h, h0, h1, h2, h3, h4⟩ => ?_
  exact ⟨a, [x, y, z, u, w], 3, u, (by assumption), rfl, same_tup e3.s h, rfl, q u G2 H2 (by assumption) h3⟩
theorem se_t5_3p {ε : Type} [Rp ε] {t : T5 α β γ δ ε} (h : SE K ta σ G H (some t)) : SE K (tOp (rIxT K) ta (tC (.int 3))) σ G H (some t.d) := se_t5_3 h
theorem se_t5_4 {ε : Type} [Rp ε] {m : Option (T5 α β γ δ ε)} (h : SE K ta σ G H m) : SE K (tOp (rIxT K) ta (tC (.int 4))) σ G H (m.bind fun t => some t.e) := fun G1 H1 e z hm Q q => by
  obtain ⟨t, ht, hm⟩ := bind_some hm
  cases hm
  refine h G1 H1 e t ht _ fun v G2 H2 e3 ⟨a, x, y, z, u, w, e2, h, h0, h1, h2, h3, h4⟩ => ?_
  exact ⟨a, [x, y, z, u, w], 4, w, (by assumption), rfl, same_tup e3.s h, rfl, q w G2 H2 (by assumption) h4⟩
theorem se_t5_4p {ε : Type} [Rp ε] {t : T5 α β γ δ ε} (h : SE K ta σ G H (some t)) : SE K (tOp (rIxT K) ta (tC (.int 4))) σ G H (some t.e) := se_t5_4 h
theorem se_tup5 {ε : Type} [Rp ε] {t0 t1 t2 t3 t4 : TE} {m0 : Option α} {m1 : Option β} {m2 : Option γ} {m3 : Option δ} {m4 : Option ε} (h0 : SE K t0 σ G H m0) (h1 : SE K t1 σ G H m1) (h2 : SE K t2 σ G H m2) (h3 : SE K t3 σ G H m3) (h4 : SE K t4 σ G H m4) : SE K (tTup (tCons t0 (tCons t1 (tCons t2 (tCons t3 (tCons t4 tNil)))))) σ G H (m0.bind fun x0 => (m1.bind fun x1 => (m2.bind fun x2 => (m3.bind fun x3 => (m4.bind fun x4 => some ((⟨x0, x1, x2, x3, x4⟩ : T5 α β γ δ ε))))))) := fun G1 H1 e z hm Q q => by
  obtain ⟨x0, hx0, hm⟩ := bind_some hm
  obtain ⟨x1, hx1, hm⟩ := bind_some hm
  obtain ⟨x2, hx2, hm⟩ := bind_some hm
  obtain ⟨x3, hx3, hm⟩ := bind_some hm
  obtain ⟨x4, hx4, hm⟩ := bind_some hm
  cases hm
  refine h0 _ _ e x0 hx0 _ fun v0 G2 H2 e0 r0 => ?_
  refine h1 _ _ (e.trans e0) x1 hx1 _ fun v1 G3 H3 e1 r1 => ?_
  refine h2 _ _ ((e.trans e0).trans e1) x2 hx2 _ fun v2 G4 H4 e2 r2 => ?_
  refine h3 _ _ (((e.trans e0).trans e1).trans e2) x3 hx3 _ fun v3 G5 H5 e3 r3 => ?_
  refine h4 _ _ ((((e.trans e0).trans e1).trans e2).trans e3) x4 hx4 _ fun v4 G6 H6 e4 r4 => ?_
  refine ⟨by show 5 ≤ sizeLine; decide, fun p np => ?_⟩
  exact q (.ref p) _ _ (((((e0.trans e1).trans e2).trans e3).trans e4).trans (Ext.new (o := .tup [v0, v1, v2, v3, v4]) e4.s np)) ⟨p, v0, v1, v2, v3, v4, rfl, SqT.of upd_same, Rp.mono (same_new (e4.s.free np)) (Rp.mono (((e1.trans e2).trans e3).trans e4).g r0), Rp.mono (same_new (e4.s.free np)) (Rp.mono ((e2.trans e3).trans e4).g r1), Rp.mono (same_new (e4.s.free np)) (Rp.mono (e3.trans e4).g r2), Rp.mono (same_new (e4.s.free np)) (Rp.mono e4.g r3), Rp.mono (same_new (e4.s.free np)) (r4)⟩
theorem se_tup5p {ε : Type} [Rp ε] {t0 t1 t2 t3 t4 : TE} {x0 : α} {x1 : β} {x2 : γ} {x3 : δ} {x4 : ε} (h0 : SE K t0 σ G H (some x0)) (h1 : SE K t1 σ G H (some x1)) (h2 : SE K t2 σ G H (some x2)) (h3 : SE K t3 σ G H (some x3)) (h4 : SE K t4 σ G H (some x4)) : SE K (tTup (tCons t0 (tCons t1 (tCons t2 (tCons t3 (tCons t4 tNil)))))) σ G H (some ((⟨x0, x1, x2, x3, x4⟩ : T5 α β γ δ ε))) := se_tup5 h0 h1 h2 h3 h4

/-! ### lists -/
/-- n expressions of one type -/
def LA (K : PySem.W.Frag) (n : Nat) (ta : TA) (σ : St) (G H : Hp) (m : Option (List α)) : Prop :=
  ∀ G1 H1, Ext G H G1 H1 → ∀ r, m = some r → ∀ Q : List V → Hp → Prop, (∀ vs G2 H2, Ext G1 H1 G2 H2 → Reps K G2 vs r → vs.length = n → Q vs H2) → ta σ H1 Q
theorem la_nil : LA K 0 tNil σ G H (some ([] : List α)) := fun G1 H1 e r hm Q q => by
  cases hm
  exact q [] G1 H1 (Ext.refl e.s) .nil rfl
theorem la_cons {m : Option (List α)} (h : SE K ta σ G H ma) (hr : LA K n ts σ G H m) : LA K (n + 1) (tCons ta ts) σ G H (ma.bind fun x => m.bind fun xs => some (x :: xs)) := fun G1 H1 e r hm Q q => by
  obtain ⟨x, hx, hm⟩ := bind_some hm
  obtain ⟨xs, hxs, hm⟩ := bind_some hm
  cases hm
  refine h G1 H1 e x hx _ fun v G2 H2 e2 hv => ?_
  refine hr G2 H2 (e.trans e2) xs hxs _ fun vs G3 H3 e3 hvs l => ?_
  exact q (v :: vs) G3 H3 (e2.trans e3) (.cons (Rp.mono e3.g hv) hvs) (by rw [List.length_cons, l])
theorem la_consp {x : α} {xs : List α} (h : SE K ta σ G H (some x)) (hr : LA K n ts σ G H (some xs)) : LA K (n + 1) (tCons ta ts) σ G H (some (x :: xs)) := la_cons h hr
theorem own_new {vs : List V} {ds : List α} {p : Addr} (s : Same G H) (n : H p = none) (l : vs.length ≤ sizeLine) (r : Reps K G vs ds) : Own K H G (upd H p (.lst vs)) p ds := ⟨n, s.free n, vs, upd_same, l, r⟩
theorem fe_lst {m : Option (List α)} (h : LA K n ts σ G H m) (hn : n ≤ 1000 := by decide) : FE K (tLst ts) σ G H m := fun G1 H1 e r hm Q q =>
  h G1 H1 e r hm _ fun vs G2 H2 e2 hvs l => ⟨by rw [l]; exact Nat.le_trans hn (by decide), fun p np =>
    q p G2 _ (e2.trans (Ext.own e2.s np)) (by
      have o := own_new (K := K) e2.s np (by rw [l]; exact Nat.le_trans hn (by decide)) hvs
      exact ⟨e2.h.free np, o.g, o.h⟩)⟩
/-- a part of a slice -/
def SO (to : TO) (σ : St) (G H : Hp) (m : Option (Option Int)) : Prop :=
  ∀ G1 H1, Ext G H G1 H1 → ∀ r, m = some r → ∀ Q : Option Int → Hp → Prop, (∀ G2 H2, Ext G1 H1 G2 H2 → Q r H2) → to σ H1 Q
theorem so_none : SO tNoPart σ G H (some none) := fun G1 H1 e r hm Q q => by
  cases hm
  exact q G1 H1 (Ext.refl e.s)
theorem so_some {m : Option Int} (h : SE K te σ G H m) : SO (tPart te) σ G H (m.bind fun k => some (some k)) := fun G1 H1 e r hm Q q => by
  obtain ⟨x, hx, hm⟩ := bind_some hm
  cases hm
  exact h G1 H1 e x hx _ fun v G2 H2 e2 hv => ⟨x, hv, q G2 H2 e2⟩
theorem so_somep {k : Int} (h : SE K te σ G H (some k)) : SO (tPart te) σ G H (some (some k)) := so_some h
theorem fe_slice {m : Option (List α)} {tlo thi : TO} {mlo mhi : Option (Option Int)} (h : SE K te σ G H m) (h1 : SO tlo σ G H mlo) (h2 : SO thi σ G H mhi) : FE K (tSl (rSlL K) te tlo thi) σ G H (m.bind fun xs => mlo.bind fun lo => mhi.bind fun hi => some (cutL xs lo hi)) := fun G1 H1 e r hm Q q => by
  obtain ⟨xs, hx, hm⟩ := bind_some hm
  obtain ⟨lo, hlo, hm⟩ := bind_some hm
  obtain ⟨hi, hhi, hm⟩ := bind_some hm
  cases hm
  refine h G1 H1 e xs hx _ fun v G2 H2 e2 hv => ?_
  refine h1 G2 H2 (e.trans e2) lo hlo _ fun G3 H3 e3 => ?_
  refine h2 G3 H3 ((e.trans e2).trans e3) hi hhi _ fun G4 H4 e4 => ?_
  obtain ⟨a, vs, e0, hs, l, rs⟩ := hv
  refine ⟨a, vs, e0, (e3.h.trans e4.h).seq (SqL.of (e2.s _ _ hs)), fun p np => ?_⟩
  have o := own_new (K := K) (vs := cutV vs lo hi) e4.s np (Nat.le_trans (cutV_length vs lo hi) l) ((rs.mono (e3.g.trans e4.g)).cut (lo := lo) (hi := hi))
  exact q p G4 _ (((e2.trans e3).trans e4).trans (Ext.own e4.s np)) ⟨((e2.trans e3).trans e4).h.free np, o.g, o.h⟩
theorem fe_slicep {xs : List α} {tlo thi : TO} {lo hi : Option Int} (h : SE K te σ G H (some xs)) (h1 : SO tlo σ G H (some lo)) (h2 : SO thi σ G H (some hi)) : FE K (tSl (rSlL K) te tlo thi) σ G H (some (cutL xs lo hi)) := fe_slice h h1 h2
/-- two lists, one behind the other -/
theorem fe_cat {xs ys : Option (List α)} (h : SE K ta σ G H xs) (h2 : SE K tb σ G H ys) : FE K (tOp rCat ta tb) σ G H (xs.bind fun x => ys.bind fun y => catO x y) := fun G1 H1 e r hm Q q => by
  obtain ⟨x, hx, hm⟩ := bind_some hm
  obtain ⟨y, hy, hm⟩ := bind_some hm
  unfold catO at hm
  split at hm
  · rename_i hl
    cases hm
    refine h G1 H1 e x hx _ fun v G2 H2 e2 hv => ?_
    refine h2 G2 H2 (e.trans e2) y hy _ fun w G3 H3 e3 hw => ?_
    obtain ⟨a, vs, ea, ha, la, ra⟩ := Rp.mono e3.g hv
    obtain ⟨b, ws, eb, hb, lb, rb⟩ := hw
    have ll : vs.length + ws.length ≤ sizeLine := by
      have x1 := ra.len
      have x2 := rb.len
      rw [x1, x2]
      exact Nat.le_trans hl (by decide)
    refine ⟨a, b, vs, ws, ea, eb, e3.s _ _ ha, e3.s _ _ hb, ll, fun p np => ?_⟩
    have o := own_new (K := K) e3.s np (by rw [List.length_append]; exact ll) (ra.app rb)
    exact q p G3 _ ((e2.trans e3).trans (Ext.own e3.s np)) ⟨(e2.trans e3).h.free np, o.g, o.h⟩
  · cases hm
theorem fe_catp {xs ys : List α} (h : SE K ta σ G H (some xs)) (h2 : SE K tb σ G H (some ys)) : FE K (tOp rCat ta tb) σ G H (catO xs ys) := fe_cat h h2
/-- list(xs), of a list, a tuple -/
theorem fe_list {m : Option (List α)} (h : SE K te σ G H m) : FE K (tCB (fun xs H Q => ∃ p ys, xs = [.ref p] ∧ (SqL K H p ys ∨ SqT K H p ys) ∧ ∀ l, H l = none → Q (.ref l) (upd H l (.lst ys))) (tCons te tNil)) σ G H m := fun G1 H1 e r hm Q q => by
  refine h G1 H1 e r hm _ fun v G2 H2 e2 hv => ?_
  obtain ⟨a, vs, ea, ha, la, ra⟩ := hv
  rw [ea]
  refine ⟨a, vs, rfl, .inl (SqL.of (e2.s _ _ ha)), fun p np => ?_⟩
  have o := own_new (K := K) e2.s np la ra
  exact q p G2 _ (e2.trans (Ext.own e2.s np)) ⟨e2.h.free np, o.g, o.h⟩
theorem fe_listT {m : Option (TL α)} (h : SE K te σ G H m) : FE K (tCB (fun xs H Q => ∃ p ys, xs = [.ref p] ∧ (SqL K H p ys ∨ SqT K H p ys) ∧ ∀ l, H l = none → Q (.ref l) (upd H l (.lst ys))) (tCons te tNil)) σ G H (m.bind fun t => some t.l) := fun G1 H1 e r hm Q q => by
  obtain ⟨t, ht, hm⟩ := bind_some hm
  cases hm
  refine h G1 H1 e t ht _ fun v G2 H2 e2 hv => ?_
  obtain ⟨a, vs, ea, ha, la, ra⟩ := hv
  rw [ea]
  refine ⟨a, vs, rfl, .inr (same_tup e2.s ha), fun p np => ?_⟩
  have o := own_new (K := K) e2.s np la ra
  exact q p G2 _ (e2.trans (Ext.own e2.s np)) ⟨e2.h.free np, o.g, o.h⟩
/-- len -/
theorem rc_len : RC1 K (fun xs H Q => ∃ p ys, xs = [.ref p] ∧ (SqL K H p ys ∨ SqT K H p ys) ∧ Q (.int ys.length) H) (fun (xs : List α) => some (xs.length : Int)) := fun {G H v x z} s ⟨a, vs, e, h, l, rs⟩ hz Q q => by
  cases (show some _ = some z from hz)
  exact ⟨a, vs, by rw [e], .inl (SqL.of (s _ _ h)), by rw [rs.len]; exact q _ G H (Ext.refl s) rfl⟩
theorem rc_lenK : RC1 K (fun xs H Q => ∃ p ys, xs = [.ref p] ∧ (SqL K H p ys ∨ SqT K H p ys) ∧ Q (.int ys.length) H) (fun (xs : KL α) => some (xs.l.length : Int)) := fun {G H v x z} s ⟨a, vs, e, h, l, rs⟩ hz Q q => by
  cases (show some _ = some z from hz)
  exact ⟨a, vs, by rw [e], .inl (s.seq h), by rw [rs.len]; exact q _ G H (Ext.refl s) rfl⟩
theorem rc_lenT : RC1 K (fun xs H Q => ∃ p ys, xs = [.ref p] ∧ (SqL K H p ys ∨ SqT K H p ys) ∧ Q (.int ys.length) H) (fun (xs : TL α) => some (xs.l.length : Int)) := fun {G H v x z} s ⟨a, vs, e, h, l, rs⟩ hz Q q => by
  cases (show some _ = some z from hz)
  exact ⟨a, vs, by rw [e], .inr (same_tup s h), by rw [rs.len]; exact q _ G H (Ext.refl s) rfl⟩
theorem rc_len2 : RC1 K (fun xs H Q => ∃ p ys, xs = [.ref p] ∧ (SqL K H p ys ∨ SqT K H p ys) ∧ Q (.int ys.length) H) (fun (_ : α × β) => some (2 : Int)) := fun {G H v x z} s ⟨a, x1, y1, e, h, _⟩ hz Q q => by
  cases (show some _ = some z from hz)
  exact ⟨a, _, by rw [e], .inr (same_tup s h), q _ G H (Ext.refl s) rfl⟩
theorem rc_len3 : RC1 K (fun xs H Q => ∃ p ys, xs = [.ref p] ∧ (SqL K H p ys ∨ SqT K H p ys) ∧ Q (.int ys.length) H) (fun (_ : T3 α β γ) => some (3 : Int)) := fun {G H v x z} s ⟨a, _, _, _, e, h, _⟩ hz Q q => by
  cases (show some _ = some z from hz)
  exact ⟨a, _, by rw [e], .inr (same_tup s h), q _ G H (Ext.refl s) rfl⟩
theorem rc_len4 : RC1 K (fun xs H Q => ∃ p ys, xs = [.ref p] ∧ (SqL K H p ys ∨ SqT K H p ys) ∧ Q (.int ys.length) H) (fun (_ : T4 α β γ δ) => some (4 : Int)) := fun {G H v x z} s ⟨a, _, _, _, _, e, h, _⟩ hz Q q => by
  cases (show some _ = some z from hz)
  exact ⟨a, _, by rw [e], .inr (same_tup s h), q _ G H (Ext.refl s) rfl⟩
theorem rc_abs : RC1 K (fun xs H Q => ∃ i, xs = [.int i] ∧ Q (.int (if i < 0 then -i else i)) H) (fun (x : Int) => some ((x.natAbs : Int))) := fun {G H v x z} s h hz Q q => by
  cases (show some _ = some z from hz)
  refine ⟨x, by rw [show v = .int x from h], ?_⟩
  have e : (if x < 0 then -x else x) = (x.natAbs : Int) := by split <;> omega
  rw [e]
  exact q _ G H (Ext.refl s) rfl
theorem rc_max2 : RC2 K (fun xs H Q => ∃ i j, xs = [.int i, .int j] ∧ Q (.int (if j > i then j else i)) H) (fun (x y : Int) => some (max x y)) := fun {G H v w x y z} s h h2 hz Q q => by
  cases (show some _ = some z from hz)
  refine ⟨x, y, by rw [show v = .int x from h, show w = .int y from h2], ?_⟩
  have e : (if y > x then y else x) = max x y := by split <;> omega
  rw [e]
  exact q _ G H (Ext.refl s) rfl
theorem rc_min2 : RC2 K (fun xs H Q => ∃ i j, xs = [.int i, .int j] ∧ Q (.int (if j < i then j else i)) H) (fun (x y : Int) => some (min x y)) := fun {G H v w x y z} s h h2 hz Q q => by
  cases (show some _ = some z from hz)
  refine ⟨x, y, by rw [show v = .int x from h, show w = .int y from h2], ?_⟩
  have e : (if y < x then y else x) = min x y := by split <;> omega
  rw [e]
  exact q _ G H (Ext.refl s) rfl
theorem rc_sum : RC1 K (rSum K) (fun (xs : List Int) => some xs.sum) := fun {G H v x z} s ⟨a, vs, e, h, l, rs⟩ hz Q q => by
  cases (show some _ = some z from hz)
  have e2 := rs.ints
  exact ⟨a, x, by rw [e], SqL.of (by rw [← e2]; exact s _ _ h), q _ G H (Ext.refl s) rfl⟩
theorem rc_all : RC1 K (rAll K) (fun (xs : List Bool) => some (xs.all id)) := fun {G H v x z} s ⟨a, vs, e, h, l, rs⟩ hz Q q => by
  cases (show some _ = some z from hz)
  have e2 := rs.bls
  exact ⟨a, x, by rw [e], SqL.of (by rw [← e2]; exact s _ _ h), q _ G H (Ext.refl s) rfl⟩
theorem rc_any : RC1 K (rAny K) (fun (xs : List Bool) => some (xs.any id)) := fun {G H v x z} s ⟨a, vs, e, h, l, rs⟩ hz Q q => by
  cases (show some _ = some z from hz)
  have e2 := rs.bls
  exact ⟨a, x, by rw [e], SqL.of (by rw [← e2]; exact s _ _ h), q _ G H (Ext.refl s) rfl⟩
/-- the greatest, the least of some numbers -/
def maxO (xs : List Int) : Option Int := match xs with
  | [] => none
  | x :: r => some (r.foldl max x)
def minO (xs : List Int) : Option Int := match xs with
  | [] => none
  | x :: r => some (r.foldl min x)
theorem foldl_max : ∀ (r : List Int) (x : Int), (r.foldl max x = x ∨ r.foldl max x ∈ r) ∧ x ≤ r.foldl max x ∧ ∀ y ∈ r, y ≤ r.foldl max x
  | [], x => ⟨.inl rfl, Int.le_refl _, fun _ h => nomatch h⟩
  | z :: r, x => by
    obtain ⟨h1, h2, h3⟩ := foldl_max r (max x z)
    show ((z :: r).foldl max x = x ∨ _) ∧ _
    rw [List.foldl_cons]
    refine ⟨?_, by omega, fun y hy => ?_⟩
    · rcases h1 with h1 | h1
      · rw [h1]
        by_cases hx : z ≤ x
        · exact .inl (by omega)
        · right
          rw [show max x z = z by omega]
          exact List.mem_cons_self
      · exact .inr (List.mem_cons_of_mem _ h1)
    · rcases List.mem_cons.mp hy with e | hy
      · subst e
        omega
      · exact h3 y hy
theorem foldl_min : ∀ (r : List Int) (x : Int), (r.foldl min x = x ∨ r.foldl min x ∈ r) ∧ r.foldl min x ≤ x ∧ ∀ y ∈ r, r.foldl min x ≤ y
  | [], x => ⟨.inl rfl, Int.le_refl _, fun _ h => nomatch h⟩
  | z :: r, x => by
    obtain ⟨h1, h2, h3⟩ := foldl_min r (min x z)
    show ((z :: r).foldl min x = x ∨ _) ∧ _
    rw [List.foldl_cons]
    refine ⟨?_, by omega, fun y hy => ?_⟩
    · rcases h1 with h1 | h1
      · rw [h1]
        by_cases hx : x ≤ z
        · exact .inl (by omega)
        · right
          rw [show min x z = z by omega]
          exact List.mem_cons_self
      · exact .inr (List.mem_cons_of_mem _ h1)
    · rcases List.mem_cons.mp hy with e | hy
      · subst e
        omega
      · exact h3 y hy
theorem rc_max : RC1 K (rMax K) maxO := fun {G H v x z} s ⟨a, vs, e, h, l, rs⟩ hz Q q => by
  have e2 := rs.ints
  cases x with
  | nil => cases hz
  | cons y r =>
    cases (show some _ = some z from hz)
    obtain ⟨h1, h2, h3⟩ := foldl_max r y
    refine ⟨a, y :: r, by rw [e], SqL.of (by rw [← e2]; exact s _ _ h), Nat.succ_pos _, fun m hm hle => ?_⟩
    have em : m = r.foldl max y := by
      have x1 : r.foldl max y ≤ m := hle _ (by
        rcases h1 with h1 | h1
        · rw [h1]
          exact List.mem_cons_self
        · exact List.mem_cons_of_mem _ h1)
      have x2 : m ≤ r.foldl max y := by
        rcases List.mem_cons.mp hm with q | q
        · rw [q]
          exact h2
        · exact h3 m q
      omega
    rw [em]
    exact q _ G H (Ext.refl s) rfl
theorem rc_min : RC1 K (rMin K) minO := fun {G H v x z} s ⟨a, vs, e, h, l, rs⟩ hz Q q => by
  have e2 := rs.ints
  cases x with
  | nil => cases hz
  | cons y r =>
    cases (show some _ = some z from hz)
    obtain ⟨h1, h2, h3⟩ := foldl_min r y
    refine ⟨a, y :: r, by rw [e], SqL.of (by rw [← e2]; exact s _ _ h), Nat.succ_pos _, fun m hm hle => ?_⟩
    have em : m = r.foldl min y := by
      have x1 : m ≤ r.foldl min y := hle _ (by
        rcases h1 with h1 | h1
        · rw [h1]
          exact List.mem_cons_self
        · exact List.mem_cons_of_mem _ h1)
      have x2 : r.foldl min y ≤ m := by
        rcases List.mem_cons.mp hm with q | q
        · rw [q]
          exact h2
        · exact h3 m q
      omega
    rw [em]
    exact q _ G H (Ext.refl s) rfl
theorem rc_int : RC1 K (fun xs H Q => (∃ i, xs = [.int i] ∧ Q (.int i) H) ∨ ∃ k, xs = [.bl k] ∧ Q (.int (if k then 1 else 0)) H) (fun (x : Int) => some x) := fun {G H v x z} s h hz Q q => by
  cases (show some _ = some z from hz)
  exact .inl ⟨x, by rw [show v = .int x from h], q _ G H (Ext.refl s) rfl⟩
theorem rc_intb : RC1 K (fun xs H Q => (∃ i, xs = [.int i] ∧ Q (.int i) H) ∨ ∃ k, xs = [.bl k] ∧ Q (.int (if k then 1 else 0)) H) (fun (x : Bool) => some (if x then (1 : Int) else 0)) := fun {G H v x z} s h hz Q q => by
  cases (show some _ = some z from hz)
  exact .inr ⟨x, by rw [show v = .bl x from h], q _ G H (Ext.refl s) rfl⟩
theorem se_cb1 {r : List V → Hp → VK → Prop} {f : α → Option γ} (ha : SE K ta σ G H ma) (hr : RC1 K r f) : SE K (tCB r (tCons ta tNil)) σ G H (ma.bind fun x => f x) := fun G1 H1 e z hm Q q => by
  obtain ⟨x, hx, hm⟩ := bind_some hm
  refine ha G1 H1 e x hx _ fun v G2 H2 e2 hv => ?_
  exact hr e2.s hv hm Q fun u G3 H3 e3 hu => q u G3 H3 (e2.trans e3) hu
theorem se_cb1p {r : List V → Hp → VK → Prop} {f : α → Option γ} {x : α} (ha : SE K ta σ G H (some x)) (hr : RC1 K r f) : SE K (tCB r (tCons ta tNil)) σ G H (f x) := se_cb1 ha hr
theorem se_cb2 {r : List V → Hp → VK → Prop} (ha : SE K ta σ G H ma) (hb : SE K tb σ G H mb) (hr : RC2 K r f) : SE K (tCB r (tCons ta (tCons tb tNil))) σ G H (ma.bind fun x => mb.bind fun y => f x y) := fun G1 H1 e z hm Q q => by
  obtain ⟨x, hx, hm⟩ := bind_some hm
  obtain ⟨y, hy, hm⟩ := bind_some hm
  refine ha G1 H1 e x hx _ fun v G2 H2 e2 hv => ?_
  refine hb G2 H2 (e.trans e2) y hy _ fun w G3 H3 e3 hw => ?_
  exact hr e3.s (Rp.mono e3.g hv) hw hm Q fun u G4 H4 e4 hu => q u G4 H4 ((e2.trans e3).trans e4) hu
theorem se_cb2p {r : List V → Hp → VK → Prop} {x : α} {y : β} (ha : SE K ta σ G H (some x)) (hb : SE K tb σ G H (some y)) (hr : RC2 K r f) : SE K (tCB r (tCons ta (tCons tb tNil))) σ G H (f x y) := se_cb2 ha hb hr
/-- isinstance(x, T), T a built-in class -/
class RpTy (α : Type) [Rp α] where
  ty : String
  tyX : ∀ {K : PySem.W.Frag} {G H : Hp} {v : V} {x : α}, Same G H → rep K G v x → TyX K H v (.type ty)
instance : RpTy Int := ⟨"int", fun _ h => by rw [show _ = V.int _ from h]; exact .base (.int _)⟩
instance : RpTy Bool := ⟨"bool", fun _ h => by rw [show _ = V.bl _ from h]; exact .base (.bl _)⟩
instance {α : Type} [Rp α] : RpTy (List α) := ⟨"list", fun s ⟨a, vs, e, h, _⟩ => by rw [e]; exact .base (.lst (s _ _ h))⟩
theorem ty_tup {a : Addr} {xs : List V} (h : SqT K H a xs) : TyX K H (.ref a) (.type "tuple") := by
  rcases h with (h | ⟨o, h⟩) | ⟨o, its, n, h, hc, _⟩
  · exact .base (.tup h)
  · exact .fTuple h
  · exact .kTuple h hc
instance {α β : Type} [Rp α] [Rp β] : RpTy (α × β) := ⟨"tuple", fun s ⟨a, _, _, e, h, _⟩ => by rw [e]; exact ty_tup (same_tup s h)⟩
instance {α β γ : Type} [Rp α] [Rp β] [Rp γ] : RpTy (T3 α β γ) := ⟨"tuple", fun s ⟨a, _, _, _, e, h, _⟩ => by rw [e]; exact ty_tup (same_tup s h)⟩
instance {α β γ δ : Type} [Rp α] [Rp β] [Rp γ] [Rp δ] : RpTy (T4 α β γ δ) := ⟨"tuple", fun s ⟨a, _, _, _, _, e, h, _⟩ => by rw [e]; exact ty_tup (same_tup s h)⟩
theorem se_isi [RpTy α] {T : String} {b : Bool} (h : SE K te σ G H ma) (hk : kitB (RpTy.ty α) T = some b) : SE K (tCB (rIsi K) (tCons te (tCons (tC (.ty T)) tNil))) σ G H (ma.bind fun _ => some b) := fun G1 H1 e z hm Q q => by
  obtain ⟨x, hx, hm⟩ := bind_some hm
  cases hm
  refine h G1 H1 e x hx _ fun v G2 H2 e2 hv => ?_
  exact ⟨v, .ty T, _, _, b, rfl, .ty T, RpTy.tyX e2.s hv, kit_ty hk, q _ G2 H2 e2 rfl⟩
theorem se_isip [RpTy α] {T : String} {b : Bool} {x : α} (h : SE K te σ G H (some x)) (hk : kitB (RpTy.ty α) T = some b) : SE K (tCB (rIsi K) (tCons te (tCons (tC (.ty T)) tNil))) σ G H (some b) := se_isi h hk
/-- .. of a value that may be None -/
theorem se_isiO [RpTy α] {T : String} {b : Bool} {m : Option (Option α)} (h : SE K te σ G H m) (hk : kitB (RpTy.ty α) T = some b) (hn : kitB "NoneType" T = some false) : SE K (tCB (rIsi K) (tCons te (tCons (tC (.ty T)) tNil))) σ G H (m.bind fun o => some (!o.isNone && b)) := fun G1 H1 e z hm Q q => by
  obtain ⟨o, ho, hm⟩ := bind_some hm
  cases hm
  refine h G1 H1 e o ho _ fun v G2 H2 e2 hv => ?_
  cases o with
  | none =>
    rw [show v = .non from hv]
    exact ⟨.non, .ty T, _, _, false, rfl, .ty T, .base .non, kit_ty hn, q _ G2 H2 e2 rfl⟩
  | some x => exact ⟨v, .ty T, _, _, b, rfl, .ty T, RpTy.tyX e2.s hv.1, kit_ty hk, q _ G2 H2 e2 (by rfl)⟩

end

end Mi

/-! MiY: calls, statements, loops, comprehensions. -/
namespace Mi
open PySem L2
open Rp (rep)
theorem Own.up {α : Type} [Rp α] {K : PySem.W.Frag} {H0 H G1 H1 : Hp} {p : Addr} {ds : List α} (x : Own K H G1 H1 p ds) (s : Same H0 H) : Own K H0 G1 H1 p ds := ⟨s.free x.z, x.g, x.h⟩

/-! ### calls of defs -/
/-- what a call hands back: a value; a new list; a tuple of a new list and a value -/
def RV {ρ : Type} [Rp ρ] (K : PySem.W.Frag) (_ G' _ : Hp) (u : V) (r : ρ) : Prop := rep K G' u r
def RF {ρ : Type} [Rp ρ] (K : PySem.W.Frag) (H G' H' : Hp) (u : V) (r : List ρ) : Prop := ∃ p, u = .ref p ∧ Own K H G' H' p r
def RP {ρ τ : Type} [Rp ρ] [Rp τ] (K : PySem.W.Frag) (H G' H' : Hp) (u : V) (r : List ρ × τ) : Prop := ∃ t p y, u = .ref t ∧ SqT K G' t [.ref p, y] ∧ Own K H G' H' p r.1 ∧ rep K G' y r.2
def XE {ρ : Type} (RR : Hp → Hp → Hp → V → ρ → Prop) (te : TE) (σ : St) (G H : Hp) (m : Option ρ) : Prop :=
  ∀ G1 H1, Ext G H G1 H1 → ∀ r, m = some r → ∀ Q : VK, (∀ u G2 H2, Ext G1 H1 G2 H2 → RR H1 G2 H2 u r → Q u H2) → te σ H1 Q
theorem XE.se {ρ : Type} [Rp ρ] {K : PySem.W.Frag} {te : TE} {σ : St} {G H : Hp} {m : Option ρ} (h : XE (RV K) te σ G H m) : SE K te σ G H m := h
theorem SE.xe {ρ : Type} [Rp ρ] {K : PySem.W.Frag} {te : TE} {σ : St} {G H : Hp} {m : Option ρ} (h : SE K te σ G H m) : XE (RV K) te σ G H m := h
theorem XE.fe {ρ : Type} [Rp ρ] {K : PySem.W.Frag} {te : TE} {σ : St} {G H : Hp} {m : Option (List ρ)} (h : XE (RF K) te σ G H m) : FE K te σ G H m := fun G1 H1 e r hm Q q =>
  h G1 H1 e r hm Q fun u G2 H2 e2 ⟨p, eu, o⟩ => by
    rw [eu]
    exact q p G2 H2 e2 o
theorem FE.xe {ρ : Type} [Rp ρ] {K : PySem.W.Frag} {te : TE} {σ : St} {G H : Hp} {m : Option (List ρ)} (h : FE K te σ G H m) : XE (RF K) te σ G H m := fun G1 H1 e r hm Q q =>
  h G1 H1 e r hm Q fun p G2 H2 e2 o => q (.ref p) G2 H2 e2 ⟨p, rfl, o⟩
/-- seen as a value -/
theorem XE.pse {ρ τ : Type} [Rp ρ] [Rp τ] {K : PySem.W.Frag} {te : TE} {σ : St} {G H : Hp} {m : Option (List ρ × τ)} (h : XE (RP K) te σ G H m) : SE K te σ G H m := fun G1 H1 e r hm Q q =>
  h G1 H1 e r hm Q fun u G2 H2 e2 ⟨t, p, y, eu, ht, o, hy⟩ => by
    obtain ⟨vs, hp, l, rs⟩ := o.h
    rw [eu]
    exact q (.ref t) _ H2 (e2.show o.z o.g hp) ⟨t, .ref p, y, rfl, same_tup (same_new o.g) ht, ⟨p, vs, rfl, upd_same, l, rs.mono (same_new o.g)⟩, Rp.mono (same_new o.g) hy⟩
theorem XE.is {ρ : Type} {RR : Hp → Hp → Hp → V → ρ → Prop} {te : TE} {σ : St} {G H : Hp} {m m' : Option ρ} (h : XE RR te σ G H m) (e : m = m') : XE RR te σ G H m' := e ▸ h

def Sp0  {ρ : Type} (K : PySem.W.Frag) (RR : Hp → Hp → Hp → V → ρ → Prop) (f : Option ρ) : Sp := fun vs H Q _ => ∃ (G : Hp) (r : ρ), vs = [] ∧ Same G H ∧ f = some r ∧ ∀ u G' H', Ext G H G' H' → RR H G' H' u r → Q u H'
theorem Sp0.len  {ρ : Type} {K : PySem.W.Frag} {RR : Hp → Hp → Hp → V → ρ → Prop} {f : Option ρ} {ps : List Str} (hp : ps.length = 0) : ∀ vs H Q E, Sp0 K RR f vs H Q E → vs.length = ps.length := by
  intro vs H Q E ⟨_, _, e, _⟩
  rw [e, hp]
  rfl
theorem xe_call0  {ρ : Type} {K : PySem.W.Frag} {RR : Hp → Hp → Hp → V → ρ → Prop}  {σ : St} {G H : Hp}   {f : Option ρ} {E : XK}  : XE RR (tCall (Sp0 K RR f) [] E tNil) σ G H f := fun G1 H1 e z hm Q q => by
  exact ⟨G1, z, rfl, e.s, hm, fun u G' H' eu hu => q u G' H' eu hu⟩
def Sp1 {α0 : Type} [Rp α0] {ρ : Type} (K : PySem.W.Frag) (RR : Hp → Hp → Hp → V → ρ → Prop) (f : α0 → Option ρ) : Sp := fun vs H Q _ => ∃ (G : Hp) (v0 : V) (x0 : α0) (r : ρ), vs = [v0] ∧ Same G H ∧ rep K G v0 x0 ∧ f x0 = some r ∧ ∀ u G' H', Ext G H G' H' → RR H G' H' u r → Q u H'
theorem Sp1.len {α0 : Type} [Rp α0] {ρ : Type} {K : PySem.W.Frag} {RR : Hp → Hp → Hp → V → ρ → Prop} {f : α0 → Option ρ} {ps : List Str} (hp : ps.length = 1) : ∀ vs H Q E, Sp1 K RR f vs H Q E → vs.length = ps.length := by
  intro vs H Q E ⟨_, _, _, _, e, _⟩
  rw [e, hp]
  rfl
theorem xe_call1 {α0 : Type} [Rp α0] {ρ : Type} {K : PySem.W.Frag} {RR : Hp → Hp → Hp → V → ρ → Prop} (RRm : ∀ H1 H2, Same H1 H2 → ∀ G' H' u r, RR H2 G' H' u r → RR H1 G' H' u r) {σ : St} {G H : Hp} {t0 : TE} {m0 : Option α0} {f : α0 → Option ρ} {E : XK} (h0 : SE K t0 σ G H m0) : XE RR (tCall (Sp1 K RR f) [] E (tCons t0 tNil)) σ G H (m0.bind fun x0 => f x0) := fun G1 H1 e z hm Q q => by
  obtain ⟨x0, hx0, hm⟩ := bind_some hm
  refine h0 _ _ e x0 hx0 _ fun v0 G2 H2 e0 r0 => ?_
  exact ⟨_, v0, x0, z, rfl, e0.s, r0, hm, fun u G' H' eu hu => q u G' H' (e0.trans eu) (RRm _ _ (e0).h _ _ _ _ hu)⟩
theorem xe_call1p {α0 : Type} [Rp α0] {ρ : Type} {K : PySem.W.Frag} {RR : Hp → Hp → Hp → V → ρ → Prop} (RRm : ∀ H1 H2, Same H1 H2 → ∀ G' H' u r, RR H2 G' H' u r → RR H1 G' H' u r) {σ : St} {G H : Hp} {t0 : TE} {x0 : α0} {f : α0 → Option ρ} {E : XK} (h0 : SE K t0 σ G H (some x0)) : XE RR (tCall (Sp1 K RR f) [] E (tCons t0 tNil)) σ G H (f x0) := xe_call1 RRm h0
def Sp2 {α0 : Type} [Rp α0] {α1 : Type} [Rp α1] {ρ : Type} (K : PySem.W.Frag) (RR : Hp → Hp → Hp → V → ρ → Prop) (f : α0 → α1 → Option ρ) : Sp := fun vs H Q _ => ∃ (G : Hp) (v0 v1 : V) (x0 : α0) (x1 : α1) (r : ρ), vs = [v0, v1] ∧ Same G H ∧ rep K G v0 x0 ∧ rep K G v1 x1 ∧ f x0 x1 = some r ∧ ∀ u G' H', Ext G H G' H' → RR H G' H' u r → Q u H'
theorem Sp2.len {α0 : Type} [Rp α0] {α1 : Type} [Rp α1] {ρ : Type} {K : PySem.W.Frag} {RR : Hp → Hp → Hp → V → ρ → Prop} {f : α0 → α1 → Option ρ} {ps : List Str} (hp : ps.length = 2) : ∀ vs H Q E, Sp2 K RR f vs H Q E → vs.length = ps.length := by
  intro vs H Q E ⟨_, _, _, _, _, _, e, _⟩
  rw [e, hp]
  rfl
theorem xe_call2 {α0 : Type} [Rp α0] {α1 : Type} [Rp α1] {ρ : Type} {K : PySem.W.Frag} {RR : Hp → Hp → Hp → V → ρ → Prop} (RRm : ∀ H1 H2, Same H1 H2 → ∀ G' H' u r, RR H2 G' H' u r → RR H1 G' H' u r) {σ : St} {G H : Hp} {t0 t1 : TE} {m0 : Option α0} {m1 : Option α1} {f : α0 → α1 → Option ρ} {E : XK} (h0 : SE K t0 σ G H m0) (h1 : SE K t1 σ G H m1) : XE RR (tCall (Sp2 K RR f) [] E (tCons t0 (tCons t1 tNil))) σ G H (m0.bind fun x0 => (m1.bind fun x1 => f x0 x1)) := fun G1 H1 e z hm Q q => by
  obtain ⟨x0, hx0, hm⟩ := bind_some hm
  obtain ⟨x1, hx1, hm⟩ := bind_some hm
  refine h0 _ _ e x0 hx0 _ fun v0 G2 H2 e0 r0 => ?_
  refine h1 _ _ (e.trans e0) x1 hx1 _ fun v1 G3 H3 e1 r1 => ?_
  exact ⟨_, v0, v1, x0, x1, z, rfl, e1.s, Rp.mono e1.g r0, r1, hm, fun u G' H' eu hu => q u G' H' ((e0.trans e1).trans eu) (RRm _ _ ((e0.trans e1)).h _ _ _ _ hu)⟩
theorem xe_call2p {α0 : Type} [Rp α0] {α1 : Type} [Rp α1] {ρ : Type} {K : PySem.W.Frag} {RR : Hp → Hp → Hp → V → ρ → Prop} (RRm : ∀ H1 H2, Same H1 H2 → ∀ G' H' u r, RR H2 G' H' u r → RR H1 G' H' u r) {σ : St} {G H : Hp} {t0 t1 : TE} {x0 : α0} {x1 : α1} {f : α0 → α1 → Option ρ} {E : XK} (h0 : SE K t0 σ G H (some x0)) (h1 : SE K t1 σ G H (some x1)) : XE RR (tCall (Sp2 K RR f) [] E (tCons t0 (tCons t1 tNil))) σ G H (f x0 x1) := xe_call2 RRm h0 h1
def Sp3 {α0 : Type} [Rp α0] {α1 : Type} [Rp α1] {α2 : Type} [Rp α2] {ρ : Type} (K : PySem.W.Frag) (RR : Hp → Hp → Hp → V → ρ → Prop) (f : α0 → α1 → α2 → Option ρ) : Sp := fun vs H Q _ => ∃ (G : Hp) (v0 v1 v2 : V) (x0 : α0) (x1 : α1) (x2 : α2) (r : ρ), vs = [v0, v1, v2] ∧ Same G H ∧ rep K G v0 x0 ∧ rep K G v1 x1 ∧ rep K G v2 x2 ∧ f x0 x1 x2 = some r ∧ ∀ u G' H', Ext G H G' H' → RR H G' H' u r → Q u H'
theorem Sp3.len {α0 : Type} [Rp α0] {α1 : Type} [Rp α1] {α2 : Type} [Rp α2] {ρ : Type} {K : PySem.W.Frag} {RR : Hp → Hp → Hp → V → ρ → Prop} {f : α0 → α1 → α2 → Option ρ} {ps : List Str} (hp : ps.length = 3) : ∀ vs H Q E, Sp3 K RR f vs H Q E → vs.length = ps.length := by
  intro vs H Q E ⟨_, _, _, _, _, _, _, _, e, _⟩
  rw [e, hp]
  rfl
theorem xe_call3 {α0 : Type} [Rp α0] {α1 : Type} [Rp α1] {α2 : Type} [Rp α2] {ρ : Type} {K : PySem.W.Frag} {RR : Hp → Hp → Hp → V → ρ → Prop} (RRm : ∀ H1 H2, Same H1 H2 → ∀ G' H' u r, RR H2 G' H' u r → RR H1 G' H' u r) {σ : St} {G H : Hp} {t0 t1 t2 : TE} {m0 : Option α0} {m1 : Option α1} {m2 : Option α2} {f : α0 → α1 → α2 → Option ρ} {E : XK} (h0 : SE K t0 σ G H m0) (h1 : SE K t1 σ G H m1) (h2 : SE K t2 σ G H m2) : XE RR (tCall (Sp3 K RR f) [] E (tCons t0 (tCons t1 (tCons t2 tNil)))) σ G H (m0.bind fun x0 => (m1.bind fun x1 => (m2.bind fun x2 => f x0 x1 x2))) := fun G1 H1 e z hm Q q => by
  obtain ⟨x0, hx0, hm⟩ := bind_some hm
  obtain ⟨x1, hx1, hm⟩ := bind_some hm
  obtain ⟨x2, hx2, hm⟩ := bind_some hm
  refine h0 _ _ e x0 hx0 _ fun v0 G2 H2 e0 r0 => ?_
  refine h1 _ _ (e.trans e0) x1 hx1 _ fun v1 G3 H3 e1 r1 => ?_
  refine h2 _ _ ((e.trans e0).trans e1) x2 hx2 _ fun v2 G4 H4 e2 r2 => ?_
  exact ⟨_, v0, v1, v2, x0, x1, x2, z, rfl, e2.s, Rp.mono (e1.trans e2).g r0, Rp.mono e2.g r1, r2, hm, fun u G' H' eu hu => q u G' H' (((e0.trans e1).trans e2).trans eu) (RRm _ _ (((e0.trans e1).trans e2)).h _ _ _ _ hu)⟩
theorem xe_call3p {α0 : Type} [Rp α0] {α1 : Type} [Rp α1] {α2 : Type} [Rp α2] {ρ : Type} {K : PySem.W.Frag} {RR : Hp → Hp → Hp → V → ρ → Prop} (RRm : ∀ H1 H2, Same H1 H2 → ∀ G' H' u r, RR H2 G' H' u r → RR H1 G' H' u r) {σ : St} {G H : Hp} {t0 t1 t2 : TE} {x0 : α0} {x1 : α1} {x2 : α2} {f : α0 → α1 → α2 → Option ρ} {E : XK} (h0 : SE K t0 σ G H (some x0)) (h1 : SE K t1 σ G H (some x1)) (h2 : SE K t2 σ G H (some x2)) : XE RR (tCall (Sp3 K RR f) [] E (tCons t0 (tCons t1 (tCons t2 tNil)))) σ G H (f x0 x1 x2) := xe_call3 RRm h0 h1 h2
def Sp4 {α0 : Type} [Rp α0] {α1 : Type} [Rp α1] {α2 : Type} [Rp α2] {α3 : Type} [Rp α3] {ρ : Type} (K : PySem.W.Frag) (RR : Hp → Hp → Hp → V → ρ → Prop) (f : α0 → α1 → α2 → α3 → Option ρ) : Sp := fun vs H Q _ => ∃ (G : Hp) (v0 v1 v2 v3 : V) (x0 : α0) (x1 : α1) (x2 : α2) (x3 : α3) (r : ρ), vs = [v0, v1, v2, v3] ∧ Same G H ∧ rep K G v0 x0 ∧ rep K G v1 x1 ∧ rep K G v2 x2 ∧ rep K G v3 x3 ∧ f x0 x1 x2 x3 = some r ∧ ∀ u G' H', Ext G H G' H' → RR H G' H' u r → Q u H'
theorem Sp4.len {α0 : Type} [Rp α0] {α1 : Type} [Rp α1] {α2 : Type} [Rp α2] {α3 : Type} [Rp α3] {ρ : Type} {K : PySem.W.Frag} {RR : Hp → Hp → Hp → V → ρ → Prop} {f : α0 → α1 → α2 → α3 → Option ρ} {ps : List Str} (hp : ps.length = 4) : ∀ vs H Q E, Sp4 K RR f vs H Q E → vs.length = ps.length := by
  intro vs H Q E ⟨_, _, _, _, _, _, _, _, _, _, e, _⟩
  rw [e, hp]
  rfl
theorem xe_call4 {α0 : Type} [Rp α0] {α1 : Type} [Rp α1] {α2 : Type} [Rp α2] {α3 : Type} [Rp α3] {ρ : Type} {K : PySem.W.Frag} {RR : Hp → Hp → Hp → V → ρ → Prop} (RRm : ∀ H1 H2, Same H1 H2 → ∀ G' H' u r, RR H2 G' H' u r → RR H1 G' H' u r) {σ : St} {G H : Hp} {t0 t1 t2 t3 : TE} {m0 : Option α0} {m1 : Option α1} {m2 : Option α2} {m3 : Option α3} {f : α0 → α1 → α2 → α3 → Option ρ} {E : XK} (h0 : SE K t0 σ G H m0) (h1 : SE K t1 σ G H m1) (h2 : SE K t2 σ G H m2) (h3 : SE K t3 σ G H m3) : XE RR (tCall (Sp4 K RR f) [] E (tCons t0 (tCons t1 (tCons t2 (tCons t3 tNil))))) σ G H (m0.bind fun x0 => (m1.bind fun x1 => (m2.bind fun x2 => (m3.bind fun x3 => f x0 x1 x2 x3)))) := fun G1 H1 e z hm Q q => by
  obtain ⟨x0, hx0, hm⟩ := bind_some hm
  obtain ⟨x1, hx1, hm⟩ := bind_some hm
  obtain ⟨x2, hx2, hm⟩ := bind_some hm
  obtain ⟨x3, hx3, hm⟩ := bind_some hm
  refine h0 _ _ e x0 hx0 _ fun v0 G2 H2 e0 r0 => ?_
  refine h1 _ _ (e.trans e0) x1 hx1 _ fun v1 G3 H3 e1 r1 => ?_
  refine h2 _ _ ((e.trans e0).trans e1) x2 hx2 _ fun v2 G4 H4 e2 r2 => ?_
  refine h3 _ _ (((e.trans e0).trans e1).trans e2) x3 hx3 _ fun v3 G5 H5 e3 r3 => ?_
  exact ⟨_, v0, v1, v2, v3, x0, x1, x2, x3, z, rfl, e3.s, Rp.mono ((e1.trans e2).trans e3).g r0, Rp.mono (e2.trans e3).g r1, Rp.mono e3.g r2, r3, hm, fun u G' H' eu hu => q u G' H' ((((e0.trans e1).trans e2).trans e3).trans eu) (RRm _ _ ((((e0.trans e1).trans e2).trans e3)).h _ _ _ _ hu)⟩
theorem xe_call4p {α0 : Type} [Rp α0] {α1 : Type} [Rp α1] {α2 : Type} [Rp α2] {α3 : Type} [Rp α3] {ρ : Type} {K : PySem.W.Frag} {RR : Hp → Hp → Hp → V → ρ → Prop} (RRm : ∀ H1 H2, Same H1 H2 → ∀ G' H' u r, RR H2 G' H' u r → RR H1 G' H' u r) {σ : St} {G H : Hp} {t0 t1 t2 t3 : TE} {x0 : α0} {x1 : α1} {x2 : α2} {x3 : α3} {f : α0 → α1 → α2 → α3 → Option ρ} {E : XK} (h0 : SE K t0 σ G H (some x0)) (h1 : SE K t1 σ G H (some x1)) (h2 : SE K t2 σ G H (some x2)) (h3 : SE K t3 σ G H (some x3)) : XE RR (tCall (Sp4 K RR f) [] E (tCons t0 (tCons t1 (tCons t2 (tCons t3 tNil))))) σ G H (f x0 x1 x2 x3) := xe_call4 RRm h0 h1 h2 h3
def Sp5 {α0 : Type} [Rp α0] {α1 : Type} [Rp α1] {α2 : Type} [Rp α2] {α3 : Type} [Rp α3] {α4 : Type} [Rp α4] {ρ : Type} (K : PySem.W.Frag) (RR : Hp → Hp → Hp → V → ρ → Prop) (f : α0 → α1 → α2 → α3 → α4 → Option ρ) : Sp := fun vs H Q _ => ∃ (G : Hp) (v0 v1 v2 v3 v4 : V) (x0 : α0) (x1 : α1) (x2 : α2) (x3 : α3) (x4 : α4) (r : ρ), vs = [v0, v1, v2, v3, v4] ∧ Same G H ∧ rep K G v0 x0 ∧ rep K G v1 x1 ∧ rep K G v2 x2 ∧ rep K G v3 x3 ∧ rep K G v4 x4 ∧ f x0 x1 x2 x3 x4 = some r ∧ ∀ u G' H', Ext G H G' H' → RR H G' H' u r → Q u H'
theorem Sp5.len {α0 : Type} [Rp α0] {α1 : Type} [Rp α1] {α2 : Type} [Rp α2] {α3 : Type} [Rp α3] {α4 : Type} [Rp α4] {ρ : Type} {K : PySem.W.Frag} {RR : Hp → Hp → Hp → V → ρ → Prop} {f : α0 → α1 → α2 → α3 → α4 → Option ρ} {ps : List Str} (hp : ps.length = 5) : ∀ vs H Q E, Sp5 K RR f vs H Q E → vs.length = ps.length := by
  intro vs H Q E ⟨_, _, _, _, _, _, _, _, _, _, _, _, e, _⟩
  rw [e, hp]
  rfl
theorem xe_call5 {α0 : Type} [Rp α0] {α1 : Type} [Rp α1] {α2 : Type} [Rp α2] {α3 : Type} [Rp α3] {α4 : Type} [Rp α4] {ρ : Type} {K : PySem.W.Frag} {RR : Hp → Hp → Hp → V → ρ → Prop} (RRm : ∀ H1 H2, Same H1 H2 → ∀ G' H' u r, RR H2 G' H' u r → RR H1 G' H' u r) {σ : St} {G H : Hp} {t0 t1 t2 t3 t4 : TE} {m0 : Option α0} {m1 : Option α1} {m2 : Option α2} {m3 : Option α3} {m4 : Option α4} {f : α0 → α1 → α2 → α3 → α4 → Option ρ} {E : XK} (h0 : SE K t0 σ G H m0) (h1 : SE K t1 σ G H m1) (h2 : SE K t2 σ G H m2) (h3 : SE K t3 σ G H m3) (h4 : SE K t4 σ G H m4) : XE RR (tCall (Sp5 K RR f) [] E (tCons t0 (tCons t1 (tCons t2 (tCons t3 (tCons t4 tNil)))))) σ G H (m0.bind fun x0 => (m1.bind fun x1 => (m2.bind fun x2 => (m3.bind fun x3 => (m4.bind fun x4 => f x0 x1 x2 x3 x4))))) := fun G1 H1 e z hm Q q => by
  obtain ⟨x0, hx0, hm⟩ := bind_some hm
  obtain ⟨x1, hx1, hm⟩ := bind_some hm
  obtain ⟨x2, hx2, hm⟩ := bind_some hm
  obtain ⟨x3, hx3, hm⟩ := bind_some hm
  obtain ⟨x4, hx4, hm⟩ := bind_some hm
  refine h0 _ _ e x0 hx0 _ fun v0 G2 H2 e0 r0 => ?_
  refine h1 _ _ (e.trans e0) x1 hx1 _ fun v1 G3 H3 e1 r1 => ?_
  refine h2 _ _ ((e.trans e0).trans e1) x2 hx2 _ fun v2 G4 H4 e2 r2 => ?_
  refine h3 _ _ (((e.trans e0).trans e1).trans e2) x3 hx3 _ fun v3 G5 H5 e3 r3 => ?_
  refine h4 _ _ ((((e.trans e0).trans e1).trans e2).trans e3) x4 hx4 _ fun v4 G6 H6 e4 r4 => ?_
  exact ⟨_, v0, v1, v2, v3, v4, x0, x1, x2, x3, x4, z, rfl, e4.s, Rp.mono (((e1.trans e2).trans e3).trans e4).g r0, Rp.mono ((e2.trans e3).trans e4).g r1, Rp.mono (e3.trans e4).g r2, Rp.mono e4.g r3, r4, hm, fun u G' H' eu hu => q u G' H' (((((e0.trans e1).trans e2).trans e3).trans e4).trans eu) (RRm _ _ (((((e0.trans e1).trans e2).trans e3).trans e4)).h _ _ _ _ hu)⟩
theorem xe_call5p {α0 : Type} [Rp α0] {α1 : Type} [Rp α1] {α2 : Type} [Rp α2] {α3 : Type} [Rp α3] {α4 : Type} [Rp α4] {ρ : Type} {K : PySem.W.Frag} {RR : Hp → Hp → Hp → V → ρ → Prop} (RRm : ∀ H1 H2, Same H1 H2 → ∀ G' H' u r, RR H2 G' H' u r → RR H1 G' H' u r) {σ : St} {G H : Hp} {t0 t1 t2 t3 t4 : TE} {x0 : α0} {x1 : α1} {x2 : α2} {x3 : α3} {x4 : α4} {f : α0 → α1 → α2 → α3 → α4 → Option ρ} {E : XK} (h0 : SE K t0 σ G H (some x0)) (h1 : SE K t1 σ G H (some x1)) (h2 : SE K t2 σ G H (some x2)) (h3 : SE K t3 σ G H (some x3)) (h4 : SE K t4 σ G H (some x4)) : XE RR (tCall (Sp5 K RR f) [] E (tCons t0 (tCons t1 (tCons t2 (tCons t3 (tCons t4 tNil)))))) σ G H (f x0 x1 x2 x3 x4) := xe_call5 RRm h0 h1 h2 h3 h4
def Sp6 {α0 : Type} [Rp α0] {α1 : Type} [Rp α1] {α2 : Type} [Rp α2] {α3 : Type} [Rp α3] {α4 : Type} [Rp α4] {α5 : Type} [Rp α5] {ρ : Type} (K : PySem.W.Frag) (RR : Hp → Hp → Hp → V → ρ → Prop) (f : α0 → α1 → α2 → α3 → α4 → α5 → Option ρ) : Sp := fun vs H Q _ => ∃ (G : Hp) (v0 v1 v2 v3 v4 v5 : V) (x0 : α0) (x1 : α1) (x2 : α2) (x3 : α3) (x4 : α4) (x5 : α5) (r : ρ), vs = [v0, v1, v2, v3, v4, v5] ∧ Same G H ∧ rep K G v0 x0 ∧ rep K G v1 x1 ∧ rep K G v2 x2 ∧ rep K G v3 x3 ∧ rep K G v4 x4 ∧ rep K G v5 x5 ∧ f x0 x1 x2 x3 x4 x5 = some r ∧ ∀ u G' H', Ext G H G' H' → RR H G' H' u r → Q u H'
theorem Sp6.len {α0 : Type} [Rp α0] {α1 : Type} [Rp α1] {α2 : Type} [Rp α2] {α3 : Type} [Rp α3] {α4 : Type} [Rp α4] {α5 : Type} [Rp α5] {ρ : Type} {K : PySem.W.Frag} {RR : Hp → Hp → Hp → V → ρ → Prop} {f : α0 → α1 → α2 → α3 → α4 → α5 → Option ρ} {ps : List Str} (hp : ps.length = 6) : ∀ vs H Q E, Sp6 K RR f vs H Q E → vs.length = ps.length := by
  intro vs H Q E ⟨_, _, _, _, _, _, _, _, _, _, _, _, _, _, e, _⟩
  rw [e, hp]
  rfl
theorem xe_call6 {α0 : Type} [Rp α0] {α1 : Type} [Rp α1] {α2 : Type} [Rp α2] {α3 : Type} [Rp α3] {α4 : Type} [Rp α4] {α5 : Type} [Rp α5] {ρ : Type} {K : PySem.W.Frag} {RR : Hp → Hp → Hp → V → ρ → Prop} (RRm : ∀ H1 H2, Same H1 H2 → ∀ G' H' u r, RR H2 G' H' u r → RR H1 G' H' u r) {σ : St} {G H : Hp} {t0 t1 t2 t3 t4 t5 : TE} {m0 : Option α0} {m1 : Option α1} {m2 : Option α2} {m3 : Option α3} {m4 : Option α4} {m5 : Option α5} {f : α0 → α1 → α2 → α3 → α4 → α5 → Option ρ} {E : XK} (h0 : SE K t0 σ G H m0) (h1 : SE K t1 σ G H m1) (h2 : SE K t2 σ G H m2) (h3 : SE K t3 σ G H m3) (h4 : SE K t4 σ G H m4) (h5 : SE K t5 σ G H m5) : XE RR (tCall (Sp6 K RR f) [] E (tCons t0 (tCons t1 (tCons t2 (tCons t3 (tCons t4 (tCons t5 tNil))))))) σ G H (m0.bind fun x0 => (m1.bind fun x1 => (m2.bind fun x2 => (m3.bind fun x3 => (m4.bind fun x4 => (m5.bind fun x5 => f x0 x1 x2 x3 x4 x5)))))) := fun G1 H1 e z hm Q q => by
  obtain ⟨x0, hx0, hm⟩ := bind_some hm
  obtain ⟨x1, hx1, hm⟩ := bind_some hm
  obtain ⟨x2, hx2, hm⟩ := bind_some hm
  obtain ⟨x3, hx3, hm⟩ := bind_some hm
  obtain ⟨x4, hx4, hm⟩ := bind_some hm
  obtain ⟨x5, hx5, hm⟩ := bind_some hm
  refine h0 _ _ e x0 hx0 _ fun v0 G2 H2 e0 r0 => ?_
  refine h1 _ _ (e.trans e0) x1 hx1 _ fun v1 G3 H3 e1 r1 => ?_
  refine h2 _ _ ((e.trans e0).trans e1) x2 hx2 _ fun v2 G4 H4 e2 r2 => ?_
  refine h3 _ _ (((e.trans e0).trans e1).trans e2) x3 hx3 _ fun v3 G5 H5 e3 r3 => ?_
  refine h4 _ _ ((((e.trans e0).trans e1).trans e2).trans e3) x4 hx4 _ fun v4 G6 H6 e4 r4 => ?_
  refine h5 _ _ (((((e.trans e0).trans e1).trans e2).trans e3).trans e4) x5 hx5 _ fun v5 G7 H7 e5 r5 => ?_
  exact ⟨_, v0, v1, v2, v3, v4, v5, x0, x1, x2, x3, x4, x5, z, rfl, e5.s, Rp.mono ((((e1.trans e2).trans e3).trans e4).trans e5).g r0, Rp.mono (((e2.trans e3).trans e4).trans e5).g r1, Rp.mono ((e3.trans e4).trans e5).g r2, Rp.mono (e4.trans e5).g r3, Rp.mono e5.g r4, r5, hm, fun u G' H' eu hu => q u G' H' ((((((e0.trans e1).trans e2).trans e3).trans e4).trans e5).trans eu) (RRm _ _ ((((((e0.trans e1).trans e2).trans e3).trans e4).trans e5)).h _ _ _ _ hu)⟩
theorem xe_call6p {α0 : Type} [Rp α0] {α1 : Type} [Rp α1] {α2 : Type} [Rp α2] {α3 : Type} [Rp α3] {α4 : Type} [Rp α4] {α5 : Type} [Rp α5] {ρ : Type} {K : PySem.W.Frag} {RR : Hp → Hp → Hp → V → ρ → Prop} (RRm : ∀ H1 H2, Same H1 H2 → ∀ G' H' u r, RR H2 G' H' u r → RR H1 G' H' u r) {σ : St} {G H : Hp} {t0 t1 t2 t3 t4 t5 : TE} {x0 : α0} {x1 : α1} {x2 : α2} {x3 : α3} {x4 : α4} {x5 : α5} {f : α0 → α1 → α2 → α3 → α4 → α5 → Option ρ} {E : XK} (h0 : SE K t0 σ G H (some x0)) (h1 : SE K t1 σ G H (some x1)) (h2 : SE K t2 σ G H (some x2)) (h3 : SE K t3 σ G H (some x3)) (h4 : SE K t4 σ G H (some x4)) (h5 : SE K t5 σ G H (some x5)) : XE RR (tCall (Sp6 K RR f) [] E (tCons t0 (tCons t1 (tCons t2 (tCons t3 (tCons t4 (tCons t5 tNil))))))) σ G H (f x0 x1 x2 x3 x4 x5) := xe_call6 RRm h0 h1 h2 h3 h4 h5
def Sp7 {α0 : Type} [Rp α0] {α1 : Type} [Rp α1] {α2 : Type} [Rp α2] {α3 : Type} [Rp α3] {α4 : Type} [Rp α4] {α5 : Type} [Rp α5] {α6 : Type} [Rp α6] {ρ : Type} (K : PySem.W.Frag) (RR : Hp → Hp → Hp → V → ρ → Prop) (f : α0 → α1 → α2 → α3 → α4 → α5 → α6 → Option ρ) : Sp := fun vs H Q _ => ∃ (G : Hp) (v0 v1 v2 v3 v4 v5 v6 : V) (x0 : α0) (x1 : α1) (x2 : α2) (x3 : α3) (x4 : α4) (x5 : α5) (x6 : α6) (r : ρ), vs = [v0, v1, v2, v3, v4, v5, v6] ∧ Same G H ∧ rep K G v0 x0 ∧ rep K G v1 x1 ∧ rep K G v2 x2 ∧ rep K G v3 x3 ∧ rep K G v4 x4 ∧ rep K G v5 x5 ∧ rep K G v6 x6 ∧ f x0 x1 x2 x3 x4 x5 x6 = some r ∧ ∀ u G' H', Ext G H G' H' → RR H G' H' u r → Q u H'
theorem Sp7.len {α0 : Type} [Rp α0] {α1 : Type} [Rp α1] {α2 : Type} [Rp α2] {α3 : Type} [Rp α3] {α4 : Type} [Rp α4] {α5 : Type} [Rp α5] {α6 : Type} [Rp α6] {ρ : Type} {K : PySem.W.Frag} {RR : Hp → Hp → Hp → V → ρ → Prop} {f : α0 → α1 → α2 → α3 → α4 → α5 → α6 → Option ρ} {ps : List Str} (hp : ps.length = 7) : ∀ vs H Q E, Sp7 K RR f vs H Q E → vs.length = ps.length := by
  intro vs H Q E ⟨_, _, _, _, _, _, _, _, _, _, _, _, _, _, _, _, e, _⟩
  rw [e, hp]
  rfl
theorem xe_call7 {α0 : Type} [Rp α0] {α1 : Type} [Rp α1] {α2 : Type} [Rp α2] {α3 : Type} [Rp α3] {α4 : Type} [Rp α4] {α5 : Type} [Rp α5] {α6 : Type} [Rp α6] {ρ : Type} {K : PySem.W.Frag} {RR : Hp → Hp → Hp → V → ρ → Prop} (RRm : ∀ H1 H2, Same H1 H2 → ∀ G' H' u r, RR H2 G' H' u r → RR H1 G' H' u r) {σ : St} {G H : Hp} {t0 t1 t2 t3 t4 t5 t6 : TE} {m0 : Option α0} {m1 : Option α1} {m2 : Option α2} {m3 : Option α3} {m4 : Option α4} {m5 : Option α5} {m6 : Option α6} {f : α0 → α1 → α2 → α3 → α4 → α5 → α6 → Option ρ} {E : XK} (h0 : SE K t0 σ G H m0) (h1 : SE K t1 σ G H m1) (h2 : SE K t2 σ G H m2) (h3 : SE K t3 σ G H m3) (h4 : SE K t4 σ G H m4) (h5 : SE K t5 σ G H m5) (h6 : SE K t6 σ G H m6) : XE RR (tCall (Sp7 K RR f) [] E (tCons t0 (tCons t1 (tCons t2 (tCons t3 (tCons t4 (tCons t5 (tCons t6 tNil)))))))) σ G H (m0.bind fun x0 => (m1.bind fun x1 => (m2.bind fun x2 => (m3.bind fun x3 => (m4.bind fun x4 => (m5.bind fun x5 => (m6.bind fun x6 => f x0 x1 x2 x3 x4 x5 x6))))))) := fun G1 H1 e z hm Q q => by
  obtain ⟨x0, hx0, hm⟩ := bind_some hm
  obtain ⟨x1, hx1, hm⟩ := bind_some hm
  obtain ⟨x2, hx2, hm⟩ := bind_some hm
  obtain ⟨x3, hx3, hm⟩ := bind_some hm
  obtain ⟨x4, hx4, hm⟩ := bind_some hm
  obtain ⟨x5, hx5, hm⟩ := bind_some hm
  obtain ⟨x6, hx6, hm⟩ := bind_some hm
  refine h0 _ _ e x0 hx0 _ fun v0 G2 H2 e0 r0 => ?_
  refine h1 _ _ (e.trans e0) x1 hx1 _ fun v1 G3 H3 e1 r1 => ?_
  refine h2 _ _ ((e.trans e0).trans e1) x2 hx2 _ fun v2 G4 H4 e2 r2 => ?_
  refine h3 _ _ (((e.trans e0).trans e1).trans e2) x3 hx3 _ fun v3 G5 H5 e3 r3 => ?_
  refine h4 _ _ ((((e.trans e0).trans e1).trans e2).trans e3) x4 hx4 _ fun v4 G6 H6 e4 r4 => ?_
  refine h5 _ _ (((((e.trans e0).trans e1).trans e2).trans e3).trans e4) x5 hx5 _ fun v5 G7 H7 e5 r5 => ?_
  refine h6 _ _ ((((((e.trans e0).trans e1).trans e2).trans e3).trans e4).trans e5) x6 hx6 _ fun v6 G8 H8 e6 r6 => ?_
  exact ⟨_, v0, v1, v2, v3, v4, v5, v6, x0, x1, x2, x3, x4, x5, x6, z, rfl, e6.s, Rp.mono (((((e1.trans e2).trans e3).trans e4).trans e5).trans e6).g r0, Rp.mono ((((e2.trans e3).trans e4).trans e5).trans e6).g r1, Rp.mono (((e3.trans e4).trans e5).trans e6).g r2, Rp.mono ((e4.trans e5).trans e6).g r3, Rp.mono (e5.trans e6).g r4, Rp.mono e6.g r5, r6, hm, fun u G' H' eu hu => q u G' H' (((((((e0.trans e1).trans e2).trans e3).trans e4).trans e5).trans e6).trans eu) (RRm _ _ (((((((e0.trans e1).trans e2).trans e3).trans e4).trans e5).trans e6)).h _ _ _ _ hu)⟩
theorem xe_call7p {α0 : Type} [Rp α0] {α1 : Type} [Rp α1] {α2 : Type} [Rp α2] {α3 : Type} [Rp α3] {α4 : Type} [Rp α4] {α5 : Type} [Rp α5] {α6 : Type} [Rp α6] {ρ : Type} {K : PySem.W.Frag} {RR : Hp → Hp → Hp → V → ρ → Prop} (RRm : ∀ H1 H2, Same H1 H2 → ∀ G' H' u r, RR H2 G' H' u r → RR H1 G' H' u r) {σ : St} {G H : Hp} {t0 t1 t2 t3 t4 t5 t6 : TE} {x0 : α0} {x1 : α1} {x2 : α2} {x3 : α3} {x4 : α4} {x5 : α5} {x6 : α6} {f : α0 → α1 → α2 → α3 → α4 → α5 → α6 → Option ρ} {E : XK} (h0 : SE K t0 σ G H (some x0)) (h1 : SE K t1 σ G H (some x1)) (h2 : SE K t2 σ G H (some x2)) (h3 : SE K t3 σ G H (some x3)) (h4 : SE K t4 σ G H (some x4)) (h5 : SE K t5 σ G H (some x5)) (h6 : SE K t6 σ G H (some x6)) : XE RR (tCall (Sp7 K RR f) [] E (tCons t0 (tCons t1 (tCons t2 (tCons t3 (tCons t4 (tCons t5 (tCons t6 tNil)))))))) σ G H (f x0 x1 x2 x3 x4 x5 x6) := xe_call7 RRm h0 h1 h2 h3 h4 h5 h6
def Sp8 {α0 : Type} [Rp α0] {α1 : Type} [Rp α1] {α2 : Type} [Rp α2] {α3 : Type} [Rp α3] {α4 : Type} [Rp α4] {α5 : Type} [Rp α5] {α6 : Type} [Rp α6] {α7 : Type} [Rp α7] {ρ : Type} (K : PySem.W.Frag) (RR : Hp → Hp → Hp → V → ρ → Prop) (f : α0 → α1 → α2 → α3 → α4 → α5 → α6 → α7 → Option ρ) : Sp := fun vs H Q _ => ∃ (G : Hp) (v0 v1 v2 v3 v4 v5 v6 v7 : V) (x0 : α0) (x1 : α1) (x2 : α2) (x3 : α3) (x4 : α4) (x5 : α5) (x6 : α6) (x7 : α7) (r : ρ), vs = [v0, v1, v2, v3, v4, v5, v6, v7] ∧ Same G H ∧ rep K G v0 x0 ∧ rep K G v1 x1 ∧ rep K G v2 x2 ∧ rep K G v3 x3 ∧ rep K G v4 x4 ∧ rep K G v5 x5 ∧ rep K G v6 x6 ∧ rep K G v7 x7 ∧ f x0 x1 x2 x3 x4 x5 x6 x7 = some r ∧ ∀ u G' H', Ext G H G' H' → RR H G' H' u r → Q u H'
theorem Sp8.len {α0 : Type} [Rp α0] {α1 : Type} [Rp α1] {α2 : Type} [Rp α2] {α3 : Type} [Rp α3] {α4 : Type} [Rp α4] {α5 : Type} [Rp α5] {α6 : Type} [Rp α6] {α7 : Type} [Rp α7] {ρ : Type} {K : PySem.W.Frag} {RR : Hp → Hp → Hp → V → ρ → Prop} {f : α0 → α1 → α2 → α3 → α4 → α5 → α6 → α7 → Option ρ} {ps : List Str} (hp : ps.length = 8) : ∀ vs H Q E, Sp8 K RR f vs H Q E → vs.length = ps.length := by
  intro vs H Q E ⟨_, _, _, _, _, _, _, _, _, _, _, _, _, _, _, _, _, _, e, _⟩
  rw [e, hp]
  rfl
theorem xe_call8 {α0 : Type} [Rp α0] {α1 : Type} [Rp α1] {α2 : Type} [Rp α2] {α3 : Type} [Rp α3] {α4 : Type} [Rp α4] {α5 : Type} [Rp α5] {α6 : Type} [Rp α6] {α7 : Type} [Rp α7] {ρ : Type} {K : PySem.W.Frag} {RR : Hp → Hp → Hp → V → ρ → Prop} (RRm : ∀ H1 H2, Same H1 H2 → ∀ G' H' u r, RR H2 G' H' u r → RR H1 G' H' u r) {σ : St} {G H : Hp} {t0 t1 t2 t3 t4 t5 t6 t7 : TE} {m0 : Option α0} {m1 : Option α1} {m2 : Option α2} {m3 : Option α3} {m4 : Option α4} {m5 : Option α5} {m6 : Option α6} {m7 : Option α7} {f : α0 → α1 → α2 → α3 → α4 → α5 → α6 → α7 → Option ρ} {E : XK} (h0 : SE K t0 σ G H m0) (h1 : SE K t1 σ G H m1) (h2 : SE K t2 σ G H m2) (h3 : SE K t3 σ G H m3) (h4 : SE K t4 σ G H m4) (h5 : SE K t5 σ G H m5) (h6 : SE K t6 σ G H m6) (h7 : SE K t7 σ G H m7) : XE RR (tCall (Sp8 K RR f) [] E (tCons t0 (tCons t1 (tCons t2 (tCons t3 (tCons t4 (tCons t5 (tCons t6 (tCons t7 tNil))))))))) σ G H (m0.bind fun x0 => (m1.bind fun x1 => (m2.bind fun x2 => (m3.bind fun x3 => (m4.bind fun x4 => (m5.bind fun x5 => (m6.bind fun x6 => (m7.bind fun x7 => f x0 x1 x2 x3 x4 x5 x6 x7)))))))) := fun G1 H1 e z hm Q q => by
  obtain ⟨x0, hx0, hm⟩ := bind_some hm
  obtain ⟨x1, hx1, hm⟩ := bind_some hm
  obtain ⟨x2, hx2, hm⟩ := bind_some hm
  obtain ⟨x3, hx3, hm⟩ := bind_some hm
  obtain ⟨x4, hx4, hm⟩ := bind_some hm
  obtain ⟨x5, hx5, hm⟩ := bind_some hm
  obtain ⟨x6, hx6, hm⟩ := bind_some hm
  obtain ⟨x7, hx7, hm⟩ := bind_some hm
  refine h0 _ _ e x0 hx0 _ fun v0 G2 H2 e0 r0 => ?_
  refine h1 _ _ (e.trans e0) x1 hx1 _ fun v1 G3 H3 e1 r1 => ?_
  refine h2 _ _ ((e.trans e0).trans e1) x2 hx2 _ fun v2 G4 H4 e2 r2 => ?_
  refine h3 _ _ (((e.trans e0).trans e1).trans e2) x3 hx3 _ fun v3 G5 H5 e3 r3 => ?_
  refine h4 _ _ ((((e.trans e0).trans e1).trans e2).trans e3) x4 hx4 _ fun v4 G6 H6 e4 r4 => ?_
  refine h5 _ _ (((((e.trans e0).trans e1).trans e2).trans e3).trans e4) x5 hx5 _ fun v5 G7 H7 e5 r5 => ?_
  refine h6 _ _ ((((((e.trans e0).trans e1).trans e2).trans e3).trans e4).trans e5) x6 hx6 _ fun v6 G8 H8 e6 r6 => ?_
  refine h7 _ _ (((((((e.trans e0).trans e1).trans e2).trans e3).trans e4).trans e5).trans e6) x7 hx7 _ fun v7 G9 H9 e7 r7 => ?_
  exact ⟨_, v0, v1, v2, v3, v4, v5, v6, v7, x0, x1, x2, x3, x4, x5, x6, x7, z, rfl, e7.s, Rp.mono ((((((e1.trans e2).trans e3).trans e4).trans e5).trans e6).trans e7).g r0, Rp.mono (((((e2.trans e3).trans e4).trans e5).trans e6).trans e7).g r1, Rp.mono ((((e3.trans e4).trans e5).trans e6).trans e7).g r2, Rp.mono (((e4.trans e5).trans e6).trans e7).g r3, Rp.mono ((e5.trans e6).trans e7).g r4, Rp.mono (e6.trans e7).g r5, Rp.mono e7.g r6, r7, hm, fun u G' H' eu hu => q u G' H' ((((((((e0.trans e1).trans e2).trans e3).trans e4).trans e5).trans e6).trans e7).trans eu) (RRm _ _ ((((((((e0.trans e1).trans e2).trans e3).trans e4).trans e5).trans e6).trans e7)).h _ _ _ _ hu)⟩
theorem xe_call8p {α0 : Type} [Rp α0] {α1 : Type} [Rp α1] {α2 : Type} [Rp α2] {α3 : Type} [Rp α3] {α4 : Type} [Rp α4] {α5 : Type} [Rp α5] {α6 : Type} [Rp α6] {α7 : Type} [Rp α7] {ρ : Type} {K : PySem.W.Frag} {RR : Hp → Hp → Hp → V → ρ → Prop} (RRm : ∀ H1 H2, Same H1 H2 → ∀ G' H' u r, RR H2 G' H' u r → RR H1 G' H' u r) {σ : St} {G H : Hp} {t0 t1 t2 t3 t4 t5 t6 t7 : TE} {x0 : α0} {x1 : α1} {x2 : α2} {x3 : α3} {x4 : α4} {x5 : α5} {x6 : α6} {x7 : α7} {f : α0 → α1 → α2 → α3 → α4 → α5 → α6 → α7 → Option ρ} {E : XK} (h0 : SE K t0 σ G H (some x0)) (h1 : SE K t1 σ G H (some x1)) (h2 : SE K t2 σ G H (some x2)) (h3 : SE K t3 σ G H (some x3)) (h4 : SE K t4 σ G H (some x4)) (h5 : SE K t5 σ G H (some x5)) (h6 : SE K t6 σ G H (some x6)) (h7 : SE K t7 σ G H (some x7)) : XE RR (tCall (Sp8 K RR f) [] E (tCons t0 (tCons t1 (tCons t2 (tCons t3 (tCons t4 (tCons t5 (tCons t6 (tCons t7 tNil))))))))) σ G H (f x0 x1 x2 x3 x4 x5 x6 x7) := xe_call8 RRm h0 h1 h2 h3 h4 h5 h6 h7

theorem rvm {ρ : Type} [Rp ρ] {K : PySem.W.Frag} : ∀ H1 H2, Same H1 H2 → ∀ G' H' u (r : ρ), RV K H2 G' H' u r → RV K H1 G' H' u r := fun _ _ _ _ _ _ _ h => h
theorem rfm {ρ : Type} [Rp ρ] {K : PySem.W.Frag} : ∀ H1 H2, Same H1 H2 → ∀ G' H' u (r : List ρ), RF K H2 G' H' u r → RF K H1 G' H' u r := fun _ _ s _ _ _ _ ⟨p, e, o⟩ => ⟨p, e, o.up s⟩
theorem rpm {ρ τ : Type} [Rp ρ] [Rp τ] {K : PySem.W.Frag} : ∀ H1 H2, Same H1 H2 → ∀ G' H' u (r : List ρ × τ), RP K H2 G' H' u r → RP K H1 G' H' u r := fun _ _ s _ _ _ _ ⟨t, p, y, e, h, o, hy⟩ => ⟨t, p, y, e, h, o.up s, hy⟩

/-! ### statements -/
section
variable {α β γ δ ρ S R : Type} [Rp α] [Rp β] [Rp γ] [Rp δ]
variable {K : PySem.W.Frag} {σ : St} {G0 H0 G H G1 H1 Gs : Hp} {ta tb te tl : TE} {tc tt : TT} {t u : TS} {ma : Option α} {mb : Option β} {i j l : Nat} {v : V} {d : α} {D : Ends} {out : ρ} {A B : Option ρ}
theorem st_set {k : α → Option ρ} (hs : Same G H) (se : SE K te σ G H ma) (hm : ma.bind k = some out) (kont : ∀ x v G1 H1, Ext G H G1 H1 → rep K G1 v x → k x = some out → D.nx (σ.set i (some v)) H1) : tAsg te (gName i) D σ H := by
  obtain ⟨x, hx, hk⟩ := bind_some hm
  exact se G H (Ext.refl hs) x hx _ fun v G1 H1 e hv => kont x v G1 H1 e hv hk
theorem st_setF {m : Option (List α)} {k : List α → Option ρ} (hs : Same G H) (se : FE K te σ G H m) (hm : m.bind k = some out) (kont : ∀ x p G1 H1, Ext G H G1 H1 → Own K H G1 H1 p x → k x = some out → D.nx (σ.set i (some (.ref p))) H1) : tAsg te (gName i) D σ H := by
  obtain ⟨x, hx, hk⟩ := bind_some hm
  exact se G H (Ext.refl hs) x hx _ fun p G1 H1 e o => kont x p G1 H1 e o hk
/-- a, b = e -/
theorem st_un2 {m : Option (α × β)} {k : α × β → Option ρ} (hs : Same G H) (se : SE K te σ G H m) (hm : m.bind k = some out) (kont : ∀ x v w G1 H1, Ext G H G1 H1 → rep K G1 v x.1 → rep K G1 w x.2 → k x = some out → D.nx ((σ.set i (some v)).set j (some w)) H1) :
    tAsg te (gTup K 2 (gCons (gName i) (gCons (gName j) gNil))) D σ H := by
  obtain ⟨x, hx, hk⟩ := bind_some hm
  refine se G H (Ext.refl hs) x hx _ fun v G1 H1 e ⟨a, y, z, ea, ha, h1, h2⟩ => ?_
  exact ⟨a, [y, z], ea, same_tup e.s ha, rfl, y, [z], rfl, z, [], rfl, rfl, kont x y z G1 H1 e h1 h2 hk⟩
/-- .. the first a new list -/
theorem st_un2P {m : Option (List α × β)} {k : List α × β → Option ρ} (hs : Same G H) (se : XE (RP K) te σ G H m) (hm : m.bind k = some out) (kont : ∀ x p w G1 H1, Ext G H G1 H1 → Own K H G1 H1 p x.1 → rep K G1 w x.2 → k x = some out → D.nx ((σ.set i (some (.ref p))).set j (some w)) H1) :
    tAsg te (gTup K 2 (gCons (gName i) (gCons (gName j) gNil))) D σ H := by
  obtain ⟨x, hx, hk⟩ := bind_some hm
  refine se G H (Ext.refl hs) x hx _ fun v G1 H1 e ⟨a, p, z, ea, ha, h1, h2⟩ => ?_
  exact ⟨a, [.ref p, z], ea, same_tup e.s ha, rfl, .ref p, [z], rfl, z, [], rfl, rfl, kont x p z G1 H1 e h1 h2 hk⟩
theorem st_un3 {m : Option (T3 α β γ)} {k : T3 α β γ → Option ρ} (hs : Same G H) (se : SE K te σ G H m) (hm : m.bind k = some out) (kont : ∀ x v w z G1 H1, Ext G H G1 H1 → rep K G1 v x.a → rep K G1 w x.b → rep K G1 z x.c → k x = some out → D.nx (((σ.set i (some v)).set j (some w)).set l (some z)) H1) :
    tAsg te (gTup K 3 (gCons (gName i) (gCons (gName j) (gCons (gName l) gNil)))) D σ H := by
  obtain ⟨x, hx, hk⟩ := bind_some hm
  refine se G H (Ext.refl hs) x hx _ fun v G1 H1 e ⟨a, y, z, w, ea, ha, h1, h2, h3⟩ => ?_
  exact ⟨a, [y, z, w], ea, same_tup e.s ha, rfl, y, [z, w], rfl, z, [w], rfl, w, [], rfl, rfl, kont x y z w G1 H1 e h1 h2 h3 hk⟩
theorem st_un4 {m : Option (T4 α β γ δ)} {n : Nat} {k : T4 α β γ δ → Option ρ} (hs : Same G H) (se : SE K te σ G H m) (hm : m.bind k = some out) (kont : ∀ x v w z y G1 H1, Ext G H G1 H1 → rep K G1 v x.a → rep K G1 w x.b → rep K G1 z x.c → rep K G1 y x.d → k x = some out → D.nx ((((σ.set i (some v)).set j (some w)).set l (some z)).set n (some y)) H1) :
    tAsg te (gTup K 4 (gCons (gName i) (gCons (gName j) (gCons (gName l) (gCons (gName n) gNil))))) D σ H := by
  obtain ⟨x, hx, hk⟩ := bind_some hm
  refine se G H (Ext.refl hs) x hx _ fun v G1 H1 e ⟨a, y, z, w, q, ea, ha, h1, h2, h3, h4⟩ => ?_
  exact ⟨a, [y, z, w, q], ea, same_tup e.s ha, rfl, y, [z, w, q], rfl, z, [w, q], rfl, w, [q], rfl, q, [], rfl, rfl, kont x y z w q G1 H1 e h1 h2 h3 h4 hk⟩
/-- a, b = e1, e2, both names the def's own -/
theorem st_par {k : α → β → Option ρ} (hs : Same G H) (s1 : SE K ta σ G H ma) (s2 : SE K tb σ G H mb) (hm : (ma.bind fun x => mb.bind fun y => k x y) = some out) (kont : ∀ x y v w G1 H1, Ext G H G1 H1 → rep K G1 v x → rep K G1 w y → k x y = some out → D.nx ((σ.set i (some v)).set j (some w)) H1) :
    tPar i j (tCons ta (tCons tb tNil)) D σ H := by
  obtain ⟨x, hx, hm⟩ := bind_some hm
  obtain ⟨y, hy, hm⟩ := bind_some hm
  refine s1 G H (Ext.refl hs) x hx _ fun v G1 H1 e1 hv => ?_
  refine s2 G1 H1 e1 y hy _ fun w G2 H2 e2 hw => ?_
  exact ⟨v, w, rfl, kont x y v w G2 H2 (e1.trans e2) (Rp.mono e2.g hv) hw hm⟩
theorem st_if {m : Option Bool} (hs : Same G H) (s : ST tc σ G H m) (hm : (m.bind fun b => cond b A B) = some out) (kt : ∀ G1 H1, Ext G H G1 H1 → A = some out → t D σ H1) (kf : ∀ G1 H1, Ext G H G1 H1 → B = some out → u D σ H1) : tIfS tc t u D σ H := by
  obtain ⟨b, hb, hm⟩ := bind_some hm
  refine s G H (Ext.refl hs) b hb _ fun G1 H1 e => ?_
  cases b with
  | true => exact kt G1 H1 e hm
  | false => exact kf G1 H1 e hm
theorem st_join (J : St → Hp → Prop) (hj : ∀ σ' H', J σ' H' → D.nx σ' H') (h : ∀ N : St → Hp → Prop, (∀ σ' H', J σ' H' → N σ' H') → t { D with nx := N } σ H) : t D σ H := h D.nx hj
theorem st_ret (e : Ext G0 H0 G H) {m : Option ρ} {RR : Hp → Hp → Hp → V → ρ → Prop} {r : ρ} (RRm : ∀ H1 H2, Same H1 H2 → ∀ G' H' u r, RR H2 G' H' u r → RR H1 G' H' u r) (se : XE RR te σ G H m) (hm : m = some r) (q : ∀ u G' H', Ext G0 H0 G' H' → RR H0 G' H' u r → D.rt u H') : tRet te D σ H :=
  se G H (Ext.refl e.s) r hm _ fun u G1 H1 e1 hu => q u G1 H1 (e.trans e1) (RRm _ _ e.h _ _ _ _ hu)
theorem st_retL (e : Ext G0 H0 G H) {m : Option ρ} {RR : Hp → Hp → Hp → V → ρ → Prop} {f : Fl S ρ} (RRm : ∀ H1 H2, Same H1 H2 → ∀ G' H' u r, RR H2 G' H' u r → RR H1 G' H' u r) (se : XE RR te σ G H m) (hm : (m.bind fun x => some (Fl.rt x : Fl S ρ)) = some f)
    (q : ∀ x, f = .rt x → ∀ u G' H', Ext G0 H0 G' H' → RR H0 G' H' u x → D.rt u H') : tRet te D σ H := by
  obtain ⟨x, hx, hf⟩ := bind_some hm
  cases hf
  exact se G H (Ext.refl e.s) x hx _ fun u G1 H1 e1 hu => q x rfl u G1 H1 (e.trans e1) (RRm _ _ e.h _ _ _ _ hu)
/-- xs.append(e), the list one's own -/
theorem st_app {p : Addr} {ds : List α} {k : List α → Option ρ} (hs : Same G H) (hv : σ[i]? = some (some (.ref p))) (o : Own K H0 G H p ds) (se : SE K te σ G H ma) (hm : (ma.bind fun x => (appO ds x).bind k) = some out)
    (kont : ∀ es h G1 H1, Ext G H G1 H1 → Own K H0 G1 (upd H1 p h) p es → G1 p = none → k es = some out → D.nx σ (upd H1 p h)) : tDrop (tBM K "list" rAppend (tVar i) (tCons te tNil)) D σ H := by
  obtain ⟨x, hx, hm⟩ := bind_some hm
  obtain ⟨y, hy, hm⟩ := bind_some hm
  unfold appO at hy
  split at hy
  · rename_i hl
    cases hy
    obtain ⟨vs0, h0, l0, rs0⟩ := o.h
    refine ⟨.ref p, hv, .inl ⟨rfl, _, SqL.of h0⟩, ?_⟩
    refine se G H (Ext.refl hs) x hx _ fun v G1 H1 e1 hw => ?_
    have o1 := o.mono e1
    obtain ⟨vs, h1, l1, rs⟩ := o1.h
    have ll : vs.length < 16000000 := by
      rw [rs.len]
      exact hl
    refine ⟨p, vs, v, rfl, rfl, h1, Nat.lt_of_lt_of_le ll (by decide), ?_⟩
    refine kont (ds ++ [x]) _ G1 H1 e1 ⟨o1.z, o1.g, _, upd_same, ?_, rs.app (.cons hw .nil)⟩ o1.g hm
    rw [List.length_append]
    exact Nat.le_trans (Nat.succ_le_of_lt ll) (by decide)
  · cases hy
/-- xs[k] = e, the list one's own -/
theorem st_put {p : Addr} {ds : List α} {mk : Option Int} {k : List α → Option ρ} (hs : Same G H) (hv : σ[i]? = some (some (.ref p))) (o : Own K H0 G H p ds) (se : SE K te σ G H ma) (si : SE K ta σ G H mk) (hm : (ma.bind fun x => mk.bind fun j => (setO ds j x).bind k) = some out)
    (kont : ∀ es h G1 H1, Ext G H G1 H1 → Own K H0 G1 (upd H1 p h) p es → G1 p = none → k es = some out → D.nx σ (upd H1 p h)) : tAsg te (gSub (tVar i) ta rSetL) D σ H := by
  obtain ⟨x, hx, hm⟩ := bind_some hm
  obtain ⟨j, hj, hm⟩ := bind_some hm
  obtain ⟨es, he, hm⟩ := bind_some hm
  refine se G H (Ext.refl hs) x hx _ fun v G1 H1 e1 hw => ?_
  refine ⟨.ref p, hv, ?_⟩
  refine si G1 H1 e1 j hj _ fun w G2 H2 e2 hj2 => ?_
  have o1 := o.mono (e1.trans e2)
  obtain ⟨vs, h1, l1, rs⟩ := o1.h
  have hl := rs.len
  unfold setO at he
  split at he
  · rename_i hc
    cases he
    refine ⟨p, vs, j, j.toNat, rfl, hj2, h1, ?_, ?_⟩
    · unfold ixN
      rw [if_pos hc.1, if_pos (by omega)]
    · exact kont _ _ G2 H2 (e1.trans e2) ⟨o1.z, o1.g, _, upd_same, by rw [List.length_set]; exact l1, rs.set _ (Rp.mono e2.g hw)⟩ o1.g hm
  · split at he
    · rename_i hc
      cases he
      refine ⟨p, vs, j, (j + vs.length).toNat, rfl, hj2, h1, ?_, ?_⟩
      · unfold ixN
        rw [if_neg (by omega), if_pos (by omega)]
      · rw [show (vs.length : Int) = ds.length by rw [hl]]
        exact kont _ _ G2 H2 (e1.trans e2) ⟨o1.z, o1.g, _, upd_same, by rw [List.length_set]; exact l1, rs.set _ (Rp.mono e2.g hw)⟩ o1.g hm
    · cases he

/-! ### loops -/
theorem st_whileN {c : S → Option Bool} {b : S → Option S} {s s' : S} (Rel : S → St → Hp → Hp → Prop) (hm : whileN c b s = some s') (h0 : Rel s σ G H) (hg : ∀ s σ G H, Rel s σ G H → Same G H)
    (hc : ∀ s σ G H, Rel s σ G H → ST tc σ G H (c s))
    (hb : ∀ s f σ G H G1 H1 N, Rel s σ G H → Ext G H G1 H1 → c s = some true → b s = some f → (∀ σ' G' H', Rel f σ' G' H' → N σ' H') → t { D with nx := N, ct := N, bk := D.nx } σ H1)
    (hd : ∀ σ G H G1 H1, Rel s' σ G H → Ext G H G1 H1 → D.nx σ H1) : tWhile tc t D σ H := by
  obtain ⟨n0, hn0⟩ := whileN_iff.mp hm
  refine ⟨fun m σ H => ∃ s G, Rel s σ G H ∧ itN c b m s = some s', ⟨n0, s, G, h0, hn0⟩, fun m σ H ⟨s, G, hR, hn⟩ => ?_⟩
  cases m with
  | zero => cases hn
  | succ m =>
    obtain ⟨k, h1, h2⟩ := bind_some (show (c s).bind _ = some s' from hn)
    refine hc s σ G H hR G H (Ext.refl (hg _ _ _ _ hR)) k h1 _ fun G1 H1 e => ?_
    cases k with
    | false =>
      cases h2
      exact hd σ G H G1 H1 hR e
    | true =>
      obtain ⟨s2, h3, h4⟩ := bind_some (show (b s).bind _ = some s' from h2)
      exact ⟨fun σ' H' => ∃ G', Rel s2 σ' G' H', fun σ' H' ⟨G', hR'⟩ => ⟨m, Nat.lt_succ_self m, s2, G', hR', h4⟩, hb s s2 σ G H G1 H1 _ hR e h1 h3 fun σ' G' H' hR' => ⟨G', hR'⟩⟩
theorem st_whileR {c : S → Option Bool} {b : S → Option (Fl S R)} {s : S} {o : Sum S R} (Rel : S → St → Hp → Hp → Prop) (hm : whileR c b s = some o) (h0 : Rel s σ G H) (hg : ∀ s σ G H, Rel s σ G H → Same G H)
    (hc : ∀ s σ G H, Rel s σ G H → ST tc σ G H (c s))
    (hb : ∀ s f σ G H G1 H1 N, Rel s σ G H → Ext G H G1 H1 → c s = some true → b s = some f → (∀ s' σ' G' H', f = .nx s' → Rel s' σ' G' H' → N σ' H') → (∀ s', f = .ex s' → o = .inl s') → (∀ x, f = .rt x → o = .inr x) → t { D with nx := N, ct := N, bk := D.nx } σ H1)
    (hd : ∀ s' σ G H G1 H1, o = .inl s' → Rel s' σ G H → Ext G H G1 H1 → D.nx σ H1) : tWhile tc t D σ H := by
  obtain ⟨n0, hn0⟩ := whileR_iff.mp hm
  refine ⟨fun m σ H => ∃ s G, Rel s σ G H ∧ itR c b m s = some o, ⟨n0, s, G, h0, hn0⟩, fun m σ H ⟨s, G, hR, hn⟩ => ?_⟩
  cases m with
  | zero => cases hn
  | succ m =>
    obtain ⟨k, h1, h2⟩ := bind_some (show (c s).bind _ = some o from hn)
    refine hc s σ G H hR G H (Ext.refl (hg _ _ _ _ hR)) k h1 _ fun G1 H1 e => ?_
    cases k with
    | false =>
      cases h2
      exact hd s σ G H G1 H1 rfl hR e
    | true =>
      obtain ⟨f, h3, h4⟩ := bind_some (show (b s).bind _ = some o from h2)
      refine ⟨fun σ' H' => ∃ s2 G', f = .nx s2 ∧ Rel s2 σ' G' H', fun σ' H' ⟨s2, G', ef, hR'⟩ => ⟨m, Nat.lt_succ_self m, s2, G', hR', ?_⟩, hb s f σ G H G1 H1 _ hR e h1 h3 (fun s2 σ' G' H' ef hR' => ⟨s2, G', ef, hR'⟩) (fun s2 ef => ?_) (fun x ef => ?_)⟩
      · subst ef
        exact h4
      · subst ef
        exact (Option.some.inj h4).symm
      · subst ef
        exact (Option.some.inj h4).symm
/-- an iterator over the items xs -/
structure ItOk (K : PySem.W.Frag) (J : It) (Gs : Hp) (xs : List α) : Prop where
  stop : ∀ i G H, Same Gs G → Same G H → xs.length ≤ i → J.stop i H
  go : ∀ i x G H, Same Gs G → Same G H → xs[i]? = some x → J.go i H ∧ ∀ v H', J.yld i H v H' → ∃ G', Ext G H G' H' ∧ rep K G' v x
def IE (K : PySem.W.Frag) (wi : TI) (σ : St) (G H : Hp) (m : Option (List α)) : Prop :=
  ∀ G1 H1, Ext G H G1 H1 → ∀ xs, m = some xs → ∀ R : It → Hp → Prop, (∀ J G2 H2, Ext G1 H1 G2 H2 → ItOk K J G2 xs → R J H2) → wi σ H1 R
/-- .. of no more items than a list may hold -/
def IB (K : PySem.W.Frag) (wi : TI) (σ : St) (G H : Hp) (m : Option (List α)) : Prop :=
  ∀ G1 H1, Ext G H G1 H1 → ∀ xs, m = some xs → ∀ R : It → Hp → Prop, (∀ J G2 H2, Ext G1 H1 G2 H2 → ItOk K J G2 xs → xs.length ≤ sizeLine → R J H2) → wi σ H1 R
theorem IB.ie {wi : TI} {m : Option (List α)} (h : IB K wi σ G H m) : IE K wi σ G H m := fun G1 H1 e xs hm R q => h G1 H1 e xs hm R fun J G2 H2 e2 it _ => q J G2 H2 e2 it
theorem ib_list {m : Option (List α)} (h : SE K tl σ G H m) : IB K (iList K tl) σ G H m := fun G1 H1 e xs hm R q => by
  refine h G1 H1 e xs hm _ fun v G2 H2 e2 ⟨a, vs, ea, ha, l, rs⟩ => ?_
  refine ⟨a, ea, ⟨vs, SqL.of (e2.s _ _ ha)⟩, q _ G2 H2 e2 ⟨fun i G H s1 s2 hi => ⟨vs, SqL.of (s2 _ _ (s1 _ _ ha)), by rw [rs.len]; exact hi⟩, fun i x G H s1 s2 hi => ?_⟩ (by rw [← rs.len]; exact l)⟩
  obtain ⟨w, h1, h2⟩ := rs.get hi
  have hS := SqL.of (K := K) (s2 _ _ (s1 _ _ ha))
  refine ⟨⟨vs, w, hS, h1⟩, fun u H' ⟨e1, hy⟩ => ?_⟩
  subst e1
  have eu := hy vs hS
  rw [h1] at eu
  cases eu
  exact ⟨G, Ext.refl s2, Rp.mono s1 h2⟩
theorem ib_listK {m : Option (KL α)} (h : SE K tl σ G H m) : IB K (iList K tl) σ G H (m.bind fun t => some t.l) := fun G1 H1 e xs hm R q => by
  obtain ⟨t, ht, hm⟩ := bind_some hm
  cases hm
  refine h G1 H1 e t ht _ fun v G2 H2 e2 ⟨a, vs, ea, ha, l, rs⟩ => ?_
  refine ⟨a, ea, ⟨vs, e2.s.seq ha⟩, q _ G2 H2 e2 ⟨fun i G H s1 s2 hi => ⟨vs, s2.seq (s1.seq ha), by rw [rs.len]; exact hi⟩, fun i x G H s1 s2 hi => ?_⟩ (by rw [← rs.len]; exact l)⟩
  obtain ⟨w, h1, h2⟩ := rs.get hi
  have hS := s2.seq (s1.seq ha)
  refine ⟨⟨vs, w, hS, h1⟩, fun u H' ⟨e1, hy⟩ => ?_⟩
  subst e1
  have eu := hy vs hS
  rw [h1] at eu
  cases eu
  exact ⟨G, Ext.refl s2, Rp.mono s1 h2⟩
theorem ib_tup {m : Option (TL α)} (h : SE K tl σ G H m) : IB K (iTup K tl) σ G H (m.bind fun t => some t.l) := fun G1 H1 e xs hm R q => by
  obtain ⟨t, ht, hm⟩ := bind_some hm
  cases hm
  refine h G1 H1 e t ht _ fun v G2 H2 e2 ⟨a, vs, ea, ha, l, rs⟩ => ?_
  refine ⟨a, ea, ⟨vs, same_tup e2.s ha⟩, q _ G2 H2 e2 ⟨fun i G H s1 s2 hi => ⟨vs, same_tup s2 (same_tup s1 ha), by rw [rs.len]; exact hi⟩, fun i x G H s1 s2 hi => ?_⟩ (by rw [← rs.len]; exact l)⟩
  obtain ⟨w, h1, h2⟩ := rs.get hi
  have hS := same_tup s2 (same_tup s1 ha)
  refine ⟨⟨vs, w, hS, h1⟩, fun u H' ⟨e1, hy⟩ => ?_⟩
  subst e1
  have eu := hy vs hS
  rw [h1] at eu
  cases eu
  exact ⟨G, Ext.refl s2, Rp.mono s1 h2⟩
theorem itok_range {lo hi : Int} {G2 : Hp} {n : Nat} (hn : n = (hi - lo).toNat) : ItOk K (Itr lo n) G2 (rangeL lo hi) := by
  have hl : (rangeL lo hi).length = n := by
    unfold rangeL
    rw [List.length_map, List.length_range, hn]
  refine ⟨fun i G H _ _ h => ?_, fun i x G H s1 s2 h => ?_⟩
  · show n ≤ i
    rw [← hl]
    exact h
  · have hi2 : i < n := by
      rw [← hl]
      obtain ⟨q, _⟩ := List.getElem?_eq_some_iff.mp h
      exact q
    refine ⟨hi2, fun v H' ⟨e1, e2⟩ => ?_⟩
    subst e1
    refine ⟨G, Ext.refl s2, ?_⟩
    unfold rangeL at h
    rw [List.getElem?_map, List.getElem?_range (by omega)] at h
    cases h
    exact e2
theorem ie_range1 {m : Option Int} (h : SE K te σ G H m) : IE K (iRng1 (tCons te tNil)) σ G H (m.bind fun n => rangeO 0 n) := fun G1 H1 e xs hm R q => by
  obtain ⟨n, hn, hm⟩ := bind_some hm
  unfold rangeO at hm
  split at hm
  · rename_i c
    cases hm
    refine h G1 H1 e n hn _ fun v G2 H2 e2 hv => ⟨n, by rw [show v = .int n from hv], c.2.2.1, c.2.2.2, q _ G2 H2 e2 (itok_range (by omega))⟩
  · cases hm
theorem ie_range1p {n : Int} (h : SE K te σ G H (some n)) : IE K (iRng1 (tCons te tNil)) σ G H (rangeO 0 n) := ie_range1 h
theorem ib_range1 {m : Option Int} (h : SE K te σ G H m) : IB K (iRng1 (tCons te tNil)) σ G H (m.bind fun n => rangeC 0 n) := fun G1 H1 e xs hm R q => by
  obtain ⟨n, hn, hm⟩ := bind_some hm
  unfold rangeC at hm
  split at hm
  · rename_i c
    cases hm
    refine h G1 H1 e n hn _ fun v G2 H2 e2 hv => ⟨n, by rw [show v = .int n from hv], c.2.2.1, c.2.2.2.1, q _ G2 H2 e2 (itok_range (by omega)) ?_⟩
    unfold rangeL
    rw [List.length_map, List.length_range]
    exact Nat.le_trans c.2.2.2.2 (by decide)
  · cases hm
theorem ib_range1p {n : Int} (h : SE K te σ G H (some n)) : IB K (iRng1 (tCons te tNil)) σ G H (rangeC 0 n) := ib_range1 h
theorem ie_range2 {m n : Option Int} (h1 : SE K ta σ G H m) (h2 : SE K tb σ G H n) : IE K (iRng2 (tCons ta (tCons tb tNil))) σ G H (m.bind fun lo => n.bind fun hi => rangeO lo hi) := fun G1 H1 e xs hm R q => by
  obtain ⟨lo, hlo, hm⟩ := bind_some hm
  obtain ⟨hi, hhi, hm⟩ := bind_some hm
  unfold rangeO at hm
  split at hm
  · rename_i c
    cases hm
    refine h1 G1 H1 e lo hlo _ fun v G2 H2 e2 hv => ?_
    refine h2 G2 H2 (e.trans e2) hi hhi _ fun w G3 H3 e3 hw => ?_
    exact ⟨lo, hi, by rw [show v = .int lo from hv, show w = .int hi from hw], c, q _ G3 H3 (e2.trans e3) (itok_range rfl)⟩
  · cases hm
theorem ie_range2p {lo hi : Int} (h1 : SE K ta σ G H (some lo)) (h2 : SE K tb σ G H (some hi)) : IE K (iRng2 (tCons ta (tCons tb tNil))) σ G H (rangeO lo hi) := ie_range2 h1 h2
theorem ib_range2 {m n : Option Int} (h1 : SE K ta σ G H m) (h2 : SE K tb σ G H n) : IB K (iRng2 (tCons ta (tCons tb tNil))) σ G H (m.bind fun lo => n.bind fun hi => rangeC lo hi) := fun G1 H1 e xs hm R q => by
  obtain ⟨lo, hlo, hm⟩ := bind_some hm
  obtain ⟨hi, hhi, hm⟩ := bind_some hm
  unfold rangeC at hm
  split at hm
  · rename_i c
    cases hm
    refine h1 G1 H1 e lo hlo _ fun v G2 H2 e2 hv => ?_
    refine h2 G2 H2 (e.trans e2) hi hhi _ fun w G3 H3 e3 hw => ?_
    refine ⟨lo, hi, by rw [show v = .int lo from hv, show w = .int hi from hw], ⟨c.1, c.2.1, c.2.2.1, c.2.2.2.1⟩, q _ G3 H3 (e2.trans e3) (itok_range rfl) ?_⟩
    unfold rangeL
    rw [List.length_map, List.length_range]
    exact Nat.le_trans c.2.2.2.2 (by decide)
  · cases hm
theorem ib_range2p {lo hi : Int} (h1 : SE K ta σ G H (some lo)) (h2 : SE K tb σ G H (some hi)) : IB K (iRng2 (tCons ta (tCons tb tNil))) σ G H (rangeC lo hi) := ib_range2 h1 h2
/-- zip of two lists -/
theorem ib_zip {m : Option (List α)} {n : Option (List β)} (h1 : SE K ta σ G H m) (h2 : SE K tb σ G H n) : IB K (iZip K (tCons ta (tCons tb tNil))) σ G H (m.bind fun xs => n.bind fun ys => some (xs.zip ys)) := fun G1 H1 e xs hm R q => by
  obtain ⟨xs, hxs, hm⟩ := bind_some hm
  obtain ⟨ys, hys, hm⟩ := bind_some hm
  cases hm
  refine h1 G1 H1 e xs hxs _ fun v G2 H2 e2 hv => ?_
  refine h2 G2 H2 (e.trans e2) ys hys _ fun w G3 H3 e3 hw => ?_
  obtain ⟨a, vs, ea, ha, la, ra⟩ := Rp.mono e3.g hv
  obtain ⟨b, ws, eb, hb, lb, rb⟩ := hw
  refine ⟨a, b, vs, ws, by rw [ea, eb], SqL.of (e3.s _ _ ha), SqL.of (e3.s _ _ hb), q _ G3 H3 (e2.trans e3) ⟨fun i G H s1 s2 hi => ?_, fun i x G H s1 s2 hi => ?_⟩ ?_⟩
  · refine ⟨vs, ws, SqL.of (s2 _ _ (s1 _ _ ha)), SqL.of (s2 _ _ (s1 _ _ hb)), ?_⟩
    rw [List.length_zip] at hi
    rw [ra.len, rb.len]
    omega
  · have hz := List.getElem?_zip_eq_some.mp hi
    obtain ⟨x1, q1, q2⟩ := ra.get hz.1
    obtain ⟨y1, q3, q4⟩ := rb.get hz.2
    refine ⟨⟨vs, ws, x1, y1, SqL.of (s2 _ _ (s1 _ _ ha)), SqL.of (s2 _ _ (s1 _ _ hb)), q1, q3⟩, fun u H' ⟨T, x2, y2, eu, nT, eH, f1, f2⟩ => ?_⟩
    have z1 := f1 vs (SqL.of (s2 _ _ (s1 _ _ ha)))
    have z2 := f2 ws (SqL.of (s2 _ _ (s1 _ _ hb)))
    rw [q1] at z1
    rw [q3] at z2
    cases z1
    cases z2
    subst eH
    have gT := s2.free nT
    exact ⟨upd G T (.tup [x1, y1]), Ext.new s2 nT, T, x1, y1, eu, SqT.of upd_same, Rp.mono (s1.trans (same_new gT)) q2, Rp.mono (s1.trans (same_new gT)) q4⟩
  · rw [List.length_zip]
    rw [← ra.len]
    omega
theorem ib_zipp {xs : List α} {ys : List β} (h1 : SE K ta σ G H (some xs)) (h2 : SE K tb σ G H (some ys)) : IB K (iZip K (tCons ta (tCons tb tNil))) σ G H (some (xs.zip ys)) := ib_zip h1 h2
/-- what a for does behind its head -/
def LG (J : It) (g : TG) (tb : TS) : TS := fun D σ H => ∃ W : Nat → Nat → St → Hp → Prop, (∃ m, W 0 m σ H) ∧ ∀ i m σ H, W i m σ H →
  (J.stop i H ∧ D.nx σ H) ∨ (J.go i H ∧ ∃ N : St → Hp → Prop, (∀ σ' H', N σ' H' → ∃ m', m' < m ∧ W (i + 1) m' σ' H') ∧ ∀ x H', J.yld i H x H' → g x σ H' fun σ2 H2 => tb { D with nx := N, ct := N, bk := D.nx } σ2 H2)
theorem st_for {wi : TI} {g : TG} {m : Option (List α)} {k : List α → Option ρ} (hs : Same G H) (ie : IE K wi σ G H m) (hm : m.bind k = some out) (kont : ∀ xs J G1 H1, Ext G H G1 H1 → ItOk K J G1 xs → k xs = some out → LG J g t D σ H1) : tFor wi g t D σ H := by
  obtain ⟨xs, hx, hk⟩ := bind_some hm
  exact ie G H (Ext.refl hs) xs hx _ fun J G1 H1 e it => kont xs J G1 H1 e it hk
theorem lg_N {J : It} {g : TG} {xs : List α} {b : S → α → Option S} {s s' : S} (Rel : S → St → Hp → Hp → Prop) (it : ItOk K J Gs xs) (hm : forN b xs s = some s') (h0 : Rel s σ Gs H) (hg : ∀ s σ G H, Rel s σ G H → Same Gs G ∧ Same G H)
    (hb : ∀ s x f v σ G H G1 H1 N, x ∈ xs → Rel s σ G H → Ext G H G1 H1 → rep K G1 v x → b s x = some f → (∀ σ' G' H', Rel f σ' G' H' → N σ' H') → g v σ H1 fun σ2 H2 => t { D with nx := N, ct := N, bk := D.nx } σ2 H2)
    (hd : ∀ σ G H, Rel s' σ G H → D.nx σ H) : LG J g t D σ H := by
  refine ⟨fun i m σ H => ∃ s G, Rel s σ G H ∧ forN b (xs.drop i) s = some s' ∧ m = xs.length - i, ⟨xs.length, s, Gs, h0, hm, rfl⟩, fun i m σ H ⟨s, G, hR, hn, em⟩ => ?_⟩
  obtain ⟨g1, g2⟩ := hg _ _ _ _ hR
  by_cases hi : i < xs.length
  · right
    have hx : xs[i]? = some xs[i] := List.getElem?_eq_getElem hi
    obtain ⟨go, yl⟩ := it.go i _ G H g1 g2 hx
    rw [List.drop_eq_getElem_cons hi] at hn
    obtain ⟨s2, h3, h4⟩ := bind_some (show (b s xs[i]).bind _ = some s' from hn)
    refine ⟨go, fun σ' H' => ∃ G', Rel s2 σ' G' H', fun σ' H' ⟨G', hR'⟩ => ⟨m - 1, by omega, s2, G', hR', h4, by omega⟩, fun v H' hy => ?_⟩
    obtain ⟨G1, e1, hv⟩ := yl v H' hy
    exact hb s xs[i] s2 v σ G H G1 H' _ (List.getElem_mem hi) hR e1 hv h3 fun σ' G' H' hR' => ⟨G', hR'⟩
  · left
    rw [List.drop_eq_nil_of_le (by omega)] at hn
    cases hn
    exact ⟨it.stop i G H g1 g2 (by omega), hd σ G H hR⟩
theorem lg_R {J : It} {g : TG} {xs : List α} {b : S → α → Option (Fl S R)} {s : S} {o : Sum S R} (Rel : S → St → Hp → Hp → Prop) (it : ItOk K J Gs xs) (hm : forR b xs s = some o) (h0 : Rel s σ Gs H) (hg : ∀ s σ G H, Rel s σ G H → Same Gs G ∧ Same G H)
    (hb : ∀ s x f v σ G H G1 H1 N, x ∈ xs → Rel s σ G H → Ext G H G1 H1 → rep K G1 v x → b s x = some f → (∀ s' σ' G' H', f = .nx s' → Rel s' σ' G' H' → N σ' H') → (∀ s', f = .ex s' → o = .inl s') → (∀ x, f = .rt x → o = .inr x) → g v σ H1 fun σ2 H2 => t { D with nx := N, ct := N, bk := D.nx } σ2 H2)
    (hd : ∀ s' σ G H, o = .inl s' → Rel s' σ G H → D.nx σ H) : LG J g t D σ H := by
  refine ⟨fun i m σ H => ∃ s G, Rel s σ G H ∧ forR b (xs.drop i) s = some o ∧ m = xs.length - i, ⟨xs.length, s, Gs, h0, hm, rfl⟩, fun i m σ H ⟨s, G, hR, hn, em⟩ => ?_⟩
  obtain ⟨g1, g2⟩ := hg _ _ _ _ hR
  by_cases hi : i < xs.length
  · right
    have hx : xs[i]? = some xs[i] := List.getElem?_eq_getElem hi
    obtain ⟨go, yl⟩ := it.go i _ G H g1 g2 hx
    rw [List.drop_eq_getElem_cons hi] at hn
    obtain ⟨f, h3, h4⟩ := bind_some (show (b s xs[i]).bind _ = some o from hn)
    refine ⟨go, fun σ' H' => ∃ s2 G', f = .nx s2 ∧ Rel s2 σ' G' H', fun σ' H' ⟨s2, G', ef, hR'⟩ => ⟨m - 1, by omega, s2, G', hR', ?_, by omega⟩, fun v H' hy => ?_⟩
    · subst ef
      exact h4
    · obtain ⟨G1, e1, hv⟩ := yl v H' hy
      refine hb s xs[i] f v σ G H G1 H' _ (List.getElem_mem hi) hR e1 hv h3 (fun s2 σ' G' H' ef hR' => ⟨s2, G', ef, hR'⟩) (fun s2 ef => ?_) (fun x ef => ?_)
      · subst ef
        exact (Option.some.inj h4).symm
      · subst ef
        exact (Option.some.inj h4).symm
  · left
    rw [List.drop_eq_nil_of_le (by omega)] at hn
    cases hn
    exact ⟨it.stop i G H g1 g2 (by omega), hd s σ G H rfl hR⟩
/-- a loop's target of two names -/
theorem g_two {v : V} {d : α × β} {Q : St → Hp → Prop} (hs : Same G H) (h : rep K G v d) (kont : ∀ x y, rep K G x d.1 → rep K G y d.2 → Q ((σ.set i (some x)).set j (some y)) H) : gTup K 2 (gCons (gName i) (gCons (gName j) gNil)) v σ H Q := by
  obtain ⟨a, x, y, ea, ha, h1, h2⟩ := h
  exact ⟨a, [x, y], ea, same_tup hs ha, rfl, x, [y], rfl, y, [], rfl, rfl, kont x y h1 h2⟩
theorem g_three {v : V} {d : T3 α β γ} {Q : St → Hp → Prop} (hs : Same G H) (h : rep K G v d) (kont : ∀ x y z, rep K G x d.a → rep K G y d.b → rep K G z d.c → Q (((σ.set i (some x)).set j (some y)).set l (some z)) H) : gTup K 3 (gCons (gName i) (gCons (gName j) (gCons (gName l) gNil))) v σ H Q := by
  obtain ⟨a, x, y, z, ea, ha, h1, h2, h3⟩ := h
  exact ⟨a, [x, y, z], ea, same_tup hs ha, rfl, x, [y, z], rfl, y, [z], rfl, z, [], rfl, rfl, kont x y z h1 h2 h3⟩

/-! ### comprehensions -/
/-- what a target makes of the slots -/
def TgOk (K : PySem.W.Frag) (g : TG) (vs : List Nat) (σ : St) (P : St → Hp → Hp → α → Prop) : Prop :=
  ∀ G H v x, Same G H → rep K G v x → ∀ Q : St → Hp → Prop, (∀ σ2, wipe σ2 vs = wipe σ vs → P σ2 G H x → Q σ2 H) → g v (wipe σ vs) H Q
theorem fe_lc {wi : TI} {g : TG} {vs : List Nat} {m : Option (List α)} {c : α → Option Bool} {f : α → Option β} (P : St → Hp → Hp → α → Prop) (ib : IB K wi σ G H m) (tg : TgOk K g vs σ P)
    (ht : ∀ x σ2 G1 H1, Ext G H G1 H1 → P σ2 G1 H1 x → ST tt σ2 G1 H1 (c x)) (he : ∀ x σ2 G1 H1, Ext G H G1 H1 → P σ2 G1 H1 x → SE K te σ2 G1 H1 (f x)) : FE K (tLc wi g tt te vs) σ G H (m.bind fun xs => filO c f xs) := fun G1 H1 e r hm Q q => by
  obtain ⟨xs, hx, hm⟩ := bind_some hm
  refine ib G1 H1 e xs hx _ fun J G2 H2 e2 it hl D hD => ?_
  refine ⟨fun i m H => ∃ G ys rest, Ext G2 H2 G H ∧ Own K H2 G H D ys ∧ ys.length ≤ i ∧ filO c f (xs.drop i) = some rest ∧ ys ++ rest = r ∧ m = xs.length - i,
    ⟨xs.length, G2, [], r, Ext.own e2.s hD, own_new e2.s hD (Nat.zero_le _) .nil, Nat.le_refl _, hm, rfl, rfl⟩, fun i m H ⟨G', ys, rest, e3, o, hy, hn, er, em⟩ => ?_⟩
  by_cases hi : i < xs.length
  · right
    have hx : xs[i]? = some xs[i] := List.getElem?_eq_getElem hi
    obtain ⟨go, yl⟩ := it.go i _ G' H e3.g e3.s hx
    rw [List.drop_eq_getElem_cons hi] at hn
    obtain ⟨b, hb, hn⟩ := bind_some (show (c xs[i]).bind _ = some rest from hn)
    refine ⟨go, fun H' => ∃ G ys rest, Ext G2 H2 G H' ∧ Own K H2 G H' D ys ∧ ys.length ≤ i + 1 ∧ filO c f (xs.drop (i + 1)) = some rest ∧ ys ++ rest = r, fun H' ⟨G, ys, rest, a1, a2, a3, a4, a5⟩ => ⟨m - 1, by omega, G, ys, rest, a1, a2, a3, a4, a5, by omega⟩, fun v H' hy2 => ?_⟩
    obtain ⟨G4, e4, hv⟩ := yl v H' hy2
    have eA := (e.trans e2).trans (e3.trans e4)
    refine tg G4 H' v xs[i] e4.s hv _ fun σ2 w2 p2 => ⟨w2, ?_⟩
    refine ht xs[i] σ2 G4 H' eA p2 G4 H' (Ext.refl e4.s) b hb _ fun G5 H5 e5 => ?_
    cases b with
    | false => exact ⟨G5, ys, rest, (e3.trans e4).trans e5, (o.mono e4).mono e5, Nat.le_succ_of_le hy, hn, er⟩
    | true =>
      obtain ⟨y, h5, h6⟩ := bind_some (show (f xs[i]).bind _ = some rest from hn)
      obtain ⟨rest2, h7, h8⟩ := bind_some h6
      cases h8
      show te σ2 H5 _
      refine he xs[i] σ2 G4 H' eA p2 G5 H5 e5 y h5 _ fun u G6 H6 e6 hu => ?_
      have o6 := ((o.mono e4).mono e5).mono e6
      obtain ⟨vs6, a1, a2, a3⟩ := o6.h
      have ll : vs6.length < sizeLine := by
        rw [a3.len]
        omega
      refine ⟨vs6, a1, ll, G6, ys ++ [y], rest2, (((e3.trans e4).trans e5).trans e6).put o6.z o6.g, ⟨o6.z, o6.g, _, upd_same, ?_, a3.app (.cons hu .nil)⟩, ?_, h7, ?_⟩
      · rw [List.length_append]
        exact ll
      · rw [List.length_append]
        exact Nat.succ_le_succ hy
      · rw [← er, List.append_assoc]
        rfl
  · left
    rw [List.drop_eq_nil_of_le (by omega)] at hn
    cases hn
    rw [List.append_nil] at er
    subst er
    exact ⟨it.stop i G' H e3.g e3.s (by omega), q D G' H (e2.trans e3) (o.up e2.h)⟩
theorem filO_yes {f : α → Option β} : ∀ xs : List α, filO (fun _ => some true) f xs = mapO f xs
  | [] => rfl
  | x :: xs => by
    show ((f x).bind fun y => (filO (fun _ => some true) f xs).bind fun ys => some (y :: ys)) = _
    rw [filO_yes xs]
    rfl
theorem st_yes : ST tYes σ G H (some true) := fun G1 H1 e r hm Q q => by
  cases hm
  exact q G1 H1 (Ext.refl e.s)
theorem fe_map {wi : TI} {g : TG} {vs : List Nat} {m : Option (List α)} {f : α → Option β} (P : St → Hp → Hp → α → Prop) (ib : IB K wi σ G H m) (tg : TgOk K g vs σ P)
    (he : ∀ x σ2 G1 H1, Ext G H G1 H1 → P σ2 G1 H1 x → SE K te σ2 G1 H1 (f x)) : FE K (tLc wi g tYes te vs) σ G H (m.bind fun xs => mapO f xs) := fun G1 H1 e r hm Q q => by
  refine fe_lc (c := fun _ => some true) (f := f) P ib tg (fun _ _ _ _ _ _ => st_yes) he G1 H1 e r ?_ Q q
  rw [← hm]
  cases m with
  | none => rfl
  | some xs => exact filO_yes xs
theorem tg_name (hw : ∀ v : Option V, wipe ((wipe σ [i]).set i v) [i] = wipe σ [i] := by intro _; rfl) : TgOk (α := α) K (gName i) [i] σ (fun σ2 G H x => ∃ v, σ2 = (wipe σ [i]).set i (some v) ∧ rep K G v x) := fun G H v x s h Q q => q _ (hw _) ⟨v, rfl, h⟩
theorem tg_two (hw : ∀ v w : Option V, wipe (((wipe σ [i, j]).set i v).set j w) [i, j] = wipe σ [i, j] := by intro _ _; rfl) : TgOk (α := α × β) K (gTup K 2 (gCons (gName i) (gCons (gName j) gNil))) [i, j] σ (fun σ2 G H x => ∃ v w, σ2 = ((wipe σ [i, j]).set i (some v)).set j (some w) ∧ rep K G v x.1 ∧ rep K G w x.2) := fun G H v x s h Q q =>
  g_two s h fun y z hy hz => q _ (hw _ _) ⟨y, z, rfl, hy, hz⟩
end

end Mi

/-! MiZ: the rules of MiX, MiY, each for one operation: what the printed walks name. -/
namespace Mi
open PySem L2
open Rp (rep)
section
variable {α β γ δ ρ S R : Type} [Rp α] [Rp β] [Rp γ] [Rp δ]
variable {K : PySem.W.Frag} {σ : St} {G0 H0 G H G1 H1 Gs : Hp} {ta tb te tl : TE} {tc tt : TT} {t u : TS} {ma : Option α} {mb : Option β} {i j l : Nat} {v : V} {d : α} {D : Ends} {out : ρ} {A B : Option ρ}
theorem elim_inl {f : S → Option ρ} {g : R → Option ρ} {s : S} (h : Sum.elim f g (.inl s) = some out) : f s = some out := h
theorem elim_inr {f : S → Option ρ} {g : R → Option ρ} {s : R} (h : Sum.elim f g (.inr s) = some out) : g s = some out := h
theorem flE_nx {f : S → Option ρ} {g : R → Option ρ} {s : S} (h : flE f g (.nx s) = some out) : f s = some out := h
theorem flE_rt {f : S → Option ρ} {g : R → Option ρ} {s : R} (h : flE f g (.rt s) = some out) : g s = some out := h
theorem se_iv {d : Int} (h : σ[i]? = some (some (V.int d))) : SE K (tVar i) σ G H (some d) := se_var h rfl
theorem se_bv {d : Bool} (h : σ[i]? = some (some (V.bl d))) : SE K (tVar i) σ G H (some d) := se_var h rfl
theorem se_sv {d : Str} (h : σ[i]? = some (some (V.str d))) : SE K (tVar i) σ G H (some d) := se_var h rfl
theorem se_getp {o : Option α} (ha : SE K ta σ G H (some o)) : SE K ta σ G H o := se_get ha
theorem se_isiOp [RpTy α] {T : String} {b : Bool} {o : Option α} (h : SE K te σ G H (some o)) (hk : kitB (RpTy.ty α) T = some b) (hn : kitB "NoneType" T = some false) : SE K (tCB (rIsi K) (tCons te (tCons (tC (.ty T)) tNil))) σ G H (some (!o.isNone && b)) := se_isiO h hk hn
theorem se_modk {x j : Int} (ha : SE K ta σ G H (some x)) (hb : SE K tb σ G H (some j)) (h : 0 < j) : SE K (tOp (rI (fun _ j => 0 < j) fun i j => .int (i % j)) ta tb) σ G H (some (x % j)) := fun G1 H1 e z hm Q q => by
  cases hm
  refine ha G1 H1 e x rfl _ fun v G2 H2 e2 hv => ?_
  refine hb G2 H2 (e.trans e2) j rfl _ fun w G3 H3 e3 hw => ?_
  exact ⟨x, j, hv, hw, h, q _ G3 H3 (e2.trans e3) rfl⟩
theorem se_modkm {m : Option Int} {j : Int} (ha : SE K ta σ G H m) (hb : SE K tb σ G H (some j)) (h : 0 < j) : SE K (tOp (rI (fun _ j => 0 < j) fun i j => .int (i % j)) ta tb) σ G H (m.bind fun x => some (x % j)) := fun G1 H1 e z hm Q q => by
  obtain ⟨x, hx, hm⟩ := bind_some hm
  cases hm
  refine ha G1 H1 e x hx _ fun v G2 H2 e2 hv => ?_
  refine hb G2 H2 (e.trans e2) j rfl _ fun w G3 H3 e3 hw => ?_
  exact ⟨x, j, hv, hw, h, q _ G3 H3 (e2.trans e3) rfl⟩
theorem se_divk {x j : Int} (ha : SE K ta σ G H (some x)) (hb : SE K tb σ G H (some j)) (h : 0 < j ∧ j.natAbs.log2 < 9000) : SE K (tOp (rI CDivW fun i j => .int (i / j)) ta tb) σ G H (some (x / j)) := fun G1 H1 e z hm Q q => by
  cases hm
  refine ha G1 H1 e x rfl _ fun v G2 H2 e2 hv => ?_
  refine hb G2 H2 (e.trans e2) j rfl _ fun w G3 H3 e3 hw => ?_
  exact ⟨x, j, hv, hw, h, q _ G3 H3 (e2.trans e3) rfl⟩
theorem se_divkm {m : Option Int} {j : Int} (ha : SE K ta σ G H m) (hb : SE K tb σ G H (some j)) (h : 0 < j ∧ j.natAbs.log2 < 9000) : SE K (tOp (rI CDivW fun i j => .int (i / j)) ta tb) σ G H (m.bind fun x => some (x / j)) := fun G1 H1 e z hm Q q => by
  obtain ⟨x, hx, hm⟩ := bind_some hm
  cases hm
  refine ha G1 H1 e x hx _ fun v G2 H2 e2 hv => ?_
  refine hb G2 H2 (e.trans e2) j rfl _ fun w G3 H3 e3 hw => ?_
  exact ⟨x, j, hv, hw, h, q _ G3 H3 (e2.trans e3) rfl⟩
/-- written numbers, reckoned -/
theorem se_kmul {a b n : Int} (ha : SE K ta σ G H (some a)) (hb : SE K tb σ G H (some b)) (h : a.natAbs.log2 + b.natAbs.log2 < 134000000 ∧ a * b = n) : SE K (tOp (rI CMulZ fun i j => .int (i * j)) ta tb) σ G H (some n) := fun G1 H1 e z hm Q q => by
  cases hm
  refine ha G1 H1 e a rfl _ fun v G2 H2 e2 hv => ?_
  refine hb G2 H2 (e.trans e2) b rfl _ fun w G3 H3 e3 hw => ?_
  exact ⟨a, b, hv, hw, h.1, q _ G3 H3 (e2.trans e3) (show V.int (a * b) = .int n by rw [h.2])⟩
theorem se_kpow {a b n : Int} (ha : SE K ta σ G H (some a)) (hb : SE K tb σ G H (some b)) (h : (0 ≤ b ∧ b ≤ 1000000 ∧ a.natAbs < 2 ^ 64) ∧ a ^ b.toNat = n) : SE K (tOp (rI CPow fun i j => .int (i ^ j.toNat)) ta tb) σ G H (some n) := fun G1 H1 e z hm Q q => by
  cases hm
  refine ha G1 H1 e a rfl _ fun v G2 H2 e2 hv => ?_
  refine hb G2 H2 (e.trans e2) b rfl _ fun w G3 H3 e3 hw => ?_
  exact ⟨a, b, hv, hw, h.1, q _ G3 H3 (e2.trans e3) (show V.int (a ^ b.toNat) = .int n by rw [h.2])⟩
theorem se_kshl {a b n : Int} (ha : SE K ta σ G H (some a)) (hb : SE K tb σ G H (some b)) (h : (0 ≤ b ∧ b ≤ 1000000 ∧ a.natAbs < 2 ^ 64) ∧ a * 2 ^ b.toNat = n) : SE K (tOp (rI CPow fun i j => .int (i * 2 ^ j.toNat)) ta tb) σ G H (some n) := fun G1 H1 e z hm Q q => by
  cases hm
  refine ha G1 H1 e a rfl _ fun v G2 H2 e2 hv => ?_
  refine hb G2 H2 (e.trans e2) b rfl _ fun w G3 H3 e3 hw => ?_
  exact ⟨a, b, hv, hw, h.1, q _ G3 H3 (e2.trans e3) (show V.int (a * 2 ^ b.toNat) = .int n by rw [h.2])⟩
theorem se_kadd {a b n : Int} (ha : SE K ta σ G H (some a)) (hb : SE K tb σ G H (some b)) (h : a + b = n) : SE K (tOp (rI0 fun i j => .int (i + j)) ta tb) σ G H (some n) := fun G1 H1 e z hm Q q => by
  cases hm
  refine ha G1 H1 e a rfl _ fun v G2 H2 e2 hv => ?_
  refine hb G2 H2 (e.trans e2) b rfl _ fun w G3 H3 e3 hw => ?_
  exact ⟨a, b, hv, hw, q _ G3 H3 (e2.trans e3) (show V.int (a + b) = .int n by rw [h])⟩
theorem se_ksub {a b n : Int} (ha : SE K ta σ G H (some a)) (hb : SE K tb σ G H (some b)) (h : a - b = n) : SE K (tOp (rI0 fun i j => .int (i - j)) ta tb) σ G H (some n) := fun G1 H1 e z hm Q q => by
  cases hm
  refine ha G1 H1 e a rfl _ fun v G2 H2 e2 hv => ?_
  refine hb G2 H2 (e.trans e2) b rfl _ fun w G3 H3 e3 hw => ?_
  exact ⟨a, b, hv, hw, q _ G3 H3 (e2.trans e3) (show V.int (a - b) = .int n by rw [h])⟩
theorem se_own_len {H0 : Hp} {p : Addr} {ds : List α} (hv : σ[i]? = some (some (.ref p))) (o : Own K H0 G H p ds) : SE K (tCB (fun xs H Q => ∃ p ys, xs = [.ref p] ∧ (SqL K H p ys ∨ SqT K H p ys) ∧ Q (.int ys.length) H) (tCons (tVar i) tNil)) σ G H (some (ds.length : Int)) := fun G1 H1 e z hm Q q => by
  cases hm
  obtain ⟨vs, h, l, rs⟩ := (o.mono e).h
  refine ⟨.ref p, hv, p, vs, rfl, .inl (SqL.of h), ?_⟩
  rw [rs.len]
  exact q _ G1 H1 (Ext.refl e.s) rfl
theorem se_bits {m : Option Int} (ha : SE K ta σ G H m) : SE K (tBits ta) σ G H (m.bind fun x => some (Builtin.Int.intBits x : Int)) := fun G1 H1 e z hm Q q => by
  obtain ⟨x, hx, hm⟩ := bind_some hm
  cases hm
  exact ha G1 H1 e x hx _ fun v G2 H2 e2 hv => ⟨x, hv, q _ G2 H2 e2 rfl⟩
theorem se_bitsp {x : Int} (ha : SE K ta σ G H (some x)) : SE K (tBits ta) σ G H (some (Builtin.Int.intBits x : Int)) := se_bits ha
theorem g_name {Q : St → Hp → Prop} (h : Q (σ.set i (some v)) H) : gName i v σ H Q := h
theorem st_retO {p : Addr} {ds : List α} {r : List α} (hv : σ[i]? = some (some (.ref p))) (e : Ext G0 H0 G H) (o : Own K H0 G H p ds) (hm : some ds = some r) (q : ∀ u G' H', Ext G0 H0 G' H' → RF K H0 G' H' u r → D.rt u H') : tRet (tVar i) D σ H := by
  cases hm
  exact ⟨.ref p, hv, q _ G H e ⟨p, rfl, o⟩⟩
theorem st_retOL {p : Addr} {ds : List α} {f : Fl S (List α)} (hv : σ[i]? = some (some (.ref p))) (e : Ext G0 H0 G H) (o : Own K H0 G H p ds) (hm : some (Fl.rt ds : Fl S (List α)) = some f) (q : ∀ x, f = .rt x → ∀ u G' H', Ext G0 H0 G' H' → RF K H0 G' H' u x → D.rt u H') : tRet (tVar i) D σ H := by
  cases hm
  exact ⟨.ref p, hv, q _ rfl _ G H e ⟨p, rfl, o⟩⟩
theorem st_retP {p : Addr} {ds : List α} {r : List α × β} (hv : σ[i]? = some (some (.ref p))) (e : Ext G0 H0 G H) (o : Own K H0 G H p ds) (se : SE K tb σ G H mb) (hm : (mb.bind fun y => some (ds, y)) = some r) (q : ∀ u G' H', Ext G0 H0 G' H' → RP K H0 G' H' u r → D.rt u H') : tRet (tTup (tCons (tVar i) (tCons tb tNil))) D σ H := by
  obtain ⟨y, hy, hm⟩ := bind_some hm
  cases hm
  refine ⟨.ref p, hv, ?_⟩
  refine se G H (Ext.refl e.s) y hy _ fun w G1 H1 e1 hw => ⟨by show 2 ≤ sizeLine; decide, fun t nt => ?_⟩
  have e2 := Ext.new (o := .tup [.ref p, w]) e1.s nt
  exact q _ _ _ ((e.trans e1).trans e2) ⟨t, p, w, rfl, SqT.of upd_same, (o.mono e1).mono e2, Rp.mono e2.g hw⟩
theorem st_aug {a : Int} {f : Int → Int → Int} {m : Option Int} {k : Int → Option ρ} (hs : Same G H) (hv : σ[i]? = some (some (.int a))) (se : SE K te σ G H m) (hm : (m.bind fun y => (some (f a y)).bind k) = some out) (kont : ∀ (y z : Int) G1 H1, Ext G H G1 H1 → k z = some out → D.nx (σ.set i (some (.int z))) H1) :
    tAug i te (ipI f) D σ H := by
  obtain ⟨y, hy, hm⟩ := bind_some hm
  refine ⟨.int a, hv, ?_⟩
  refine se G H (Ext.refl hs) y hy _ fun w G1 H1 e1 hw => ?_
  exact ⟨a, y, rfl, hw, kont y (f a y) G1 H1 e1 hm⟩
theorem st_seq {t1 t2 : TS} (h : t1 { D with nx := t2 D } σ H) : tSeq t1 t2 D σ H := h
theorem st_next (q : D.nx σ H) : tNext D σ H := q
theorem st_drop2 {k : α → Option ρ} (hs : Same G H) (se : SE K te σ G H ma) (hm : ma.bind k = some out) (kont : ∀ x G1 H1, Ext G H G1 H1 → k x = some out → D.nx σ H1) : tDrop te D σ H := by
  obtain ⟨x, hx, hk⟩ := bind_some hm
  exact se G H (Ext.refl hs) x hx _ fun v G1 H1 e hv => kont x G1 H1 e hk
theorem st_clear {p : Addr} {ds : List α} {k : List α → Option ρ} (hs : Same G H) (hv : σ[i]? = some (some (.ref p))) (o : Own K H0 G H p ds) (hm : (some ([] : List α)).bind k = some out)
    (kont : ∀ es h G1 H1, Ext G H G1 H1 → Own K H0 G1 (upd H1 p h) p es → G1 p = none → k es = some out → D.nx σ (upd H1 p h)) : tDrop (tBM0 K "list" rClear (tVar i)) D σ H := by
  obtain ⟨vs0, h0, l0, rs0⟩ := o.h
  refine ⟨.ref p, hv, .inl ⟨rfl, _, SqL.of h0⟩, p, vs0, rfl, rfl, h0, ?_⟩
  exact kont [] _ G H (Ext.refl hs) ⟨o.z, o.g, _, upd_same, Nat.zero_le _, .nil⟩ o.g hm
theorem Reps.snoc {vs : List V} {ds : List α} (h : Reps K G vs ds) {w : V} {x : α} (r : rep K G w x) : Reps K G (vs ++ [w]) (ds ++ [x]) := h.app (.cons r .nil)
theorem Reps.rev : ∀ {vs : List V} {ds : List α}, Reps K G vs ds → Reps K G vs.reverse ds.reverse
  | _, _, .nil => .nil
  | _, _, .cons r t => by
    rw [List.reverse_cons, List.reverse_cons]
    exact (Reps.rev t).snoc r
theorem st_reverse {p : Addr} {ds : List α} {k : List α → Option ρ} (hs : Same G H) (hv : σ[i]? = some (some (.ref p))) (o : Own K H0 G H p ds) (hm : (some ds.reverse).bind k = some out)
    (kont : ∀ es h G1 H1, Ext G H G1 H1 → Own K H0 G1 (upd H1 p h) p es → G1 p = none → k es = some out → D.nx σ (upd H1 p h)) : tDrop (tBM0 K "list" rReverse (tVar i)) D σ H := by
  obtain ⟨vs0, h0, l0, rs0⟩ := o.h
  refine ⟨.ref p, hv, .inl ⟨rfl, _, SqL.of h0⟩, p, vs0, rfl, rfl, h0, ?_⟩
  exact kont _ _ G H (Ext.refl hs) ⟨o.z, o.g, _, upd_same, by rw [List.length_reverse]; exact l0, rs0.rev⟩ o.g hm
/-- a list taken apart into names -/
def unl2 (xs : List α) (k : α → α → Option ρ) : Option ρ := match xs with
  | [a, b] => k a b
  | _ => none
def unl3 (xs : List α) (k : α → α → α → Option ρ) : Option ρ := match xs with
  | [a, b, c] => k a b c
  | _ => none
def unl4 (xs : List α) (k : α → α → α → α → Option ρ) : Option ρ := match xs with
  | [a, b, c, d] => k a b c d
  | _ => none
def unl5 (xs : List α) (k : α → α → α → α → α → Option ρ) : Option ρ := match xs with
  | [a, b, c, d, e] => k a b c d e
  | _ => none

theorem st_unl2 {mx : Option (List α)} {k : α → α → Option ρ} (hs : Same G H) (se : SE K te σ G H mx) (hm : (mx.bind fun xs => unl2 xs k) = some out)
    (kont : ∀ a b w_a w_b G1 H1, Ext G H G1 H1 → rep K G1 w_a a → rep K G1 w_b b → k a b = some out → D.nx ((σ.set i (some w_a)).set j (some w_b)) H1) : tAsg te (gUnl K 2 (gCons (gName i) (gCons (gName j) gNil))) D σ H := by
  obtain ⟨xs, hx, hk⟩ := bind_some hm
  refine se G H (Ext.refl hs) xs hx _ fun v0 G1 H1 e1 ⟨p0, vs0, ea, ha, l0, rs⟩ => ?_
  match xs, hk, vs0, rs, ha, l0 with
  | [a, b], hk, _, .cons (a := w_a) r_a (.cons (a := w_b) r_b .nil), ha, l0 => exact ⟨p0, _, ea, SqL.of (e1.s _ _ ha), rfl, w_a, [w_b], rfl, w_b, [], rfl, rfl, kont a b w_a w_b G1 H1 e1 r_a r_b hk⟩
theorem st_unl3 {mx : Option (List α)} {k : α → α → α → Option ρ} (hs : Same G H) (se : SE K te σ G H mx) (hm : (mx.bind fun xs => unl3 xs k) = some out)
    (kont : ∀ a b c w_a w_b w_c G1 H1, Ext G H G1 H1 → rep K G1 w_a a → rep K G1 w_b b → rep K G1 w_c c → k a b c = some out → D.nx (((σ.set i (some w_a)).set j (some w_b)).set l (some w_c)) H1) : tAsg te (gUnl K 3 (gCons (gName i) (gCons (gName j) (gCons (gName l) gNil)))) D σ H := by
  obtain ⟨xs, hx, hk⟩ := bind_some hm
  refine se G H (Ext.refl hs) xs hx _ fun v0 G1 H1 e1 ⟨p0, vs0, ea, ha, l0, rs⟩ => ?_
  match xs, hk, vs0, rs, ha, l0 with
  | [a, b, c], hk, _, .cons (a := w_a) r_a (.cons (a := w_b) r_b (.cons (a := w_c) r_c .nil)), ha, l0 => exact ⟨p0, _, ea, SqL.of (e1.s _ _ ha), rfl, w_a, [w_b, w_c], rfl, w_b, [w_c], rfl, w_c, [], rfl, rfl, kont a b c w_a w_b w_c G1 H1 e1 r_a r_b r_c hk⟩
theorem st_unl4 {mx : Option (List α)} {k : α → α → α → α → Option ρ} (hs : Same G H) (se : SE K te σ G H mx) (hm : (mx.bind fun xs => unl4 xs k) = some out)
    (kont : ∀ a b c d w_a w_b w_c w_d G1 H1, Ext G H G1 H1 → rep K G1 w_a a → rep K G1 w_b b → rep K G1 w_c c → rep K G1 w_d d → k a b c d = some out → D.nx ((((σ.set i (some w_a)).set j (some w_b)).set l (some w_c)).set n (some w_d)) H1) : tAsg te (gUnl K 4 (gCons (gName i) (gCons (gName j) (gCons (gName l) (gCons (gName n) gNil))))) D σ H := by
  obtain ⟨xs, hx, hk⟩ := bind_some hm
  refine se G H (Ext.refl hs) xs hx _ fun v0 G1 H1 e1 ⟨p0, vs0, ea, ha, l0, rs⟩ => ?_
  match xs, hk, vs0, rs, ha, l0 with
  | [a, b, c, d], hk, _, .cons (a := w_a) r_a (.cons (a := w_b) r_b (.cons (a := w_c) r_c (.cons (a := w_d) r_d .nil))), ha, l0 => exact ⟨p0, _, ea, SqL.of (e1.s _ _ ha), rfl, w_a, [w_b, w_c, w_d], rfl, w_b, [w_c, w_d], rfl, w_c, [w_d], rfl, w_d, [], rfl, rfl, kont a b c d w_a w_b w_c w_d G1 H1 e1 r_a r_b r_c r_d hk⟩
theorem st_unl5 {mx : Option (List α)} {k : α → α → α → α → α → Option ρ} (hs : Same G H) (se : SE K te σ G H mx) (hm : (mx.bind fun xs => unl5 xs k) = some out)
    (kont : ∀ a b c d e w_a w_b w_c w_d w_e G1 H1, Ext G H G1 H1 → rep K G1 w_a a → rep K G1 w_b b → rep K G1 w_c c → rep K G1 w_d d → rep K G1 w_e e → k a b c d e = some out → D.nx (((((σ.set i (some w_a)).set j (some w_b)).set l (some w_c)).set n (some w_d)).set m (some w_e)) H1) : tAsg te (gUnl K 5 (gCons (gName i) (gCons (gName j) (gCons (gName l) (gCons (gName n) (gCons (gName m) gNil)))))) D σ H := by
  obtain ⟨xs, hx, hk⟩ := bind_some hm
  refine se G H (Ext.refl hs) xs hx _ fun v0 G1 H1 e1 ⟨p0, vs0, ea, ha, l0, rs⟩ => ?_
  match xs, hk, vs0, rs, ha, l0 with
  | [a, b, c, d, e], hk, _, .cons (a := w_a) r_a (.cons (a := w_b) r_b (.cons (a := w_c) r_c (.cons (a := w_d) r_d (.cons (a := w_e) r_e .nil)))), ha, l0 => exact ⟨p0, _, ea, SqL.of (e1.s _ _ ha), rfl, w_a, [w_b, w_c, w_d, w_e], rfl, w_b, [w_c, w_d, w_e], rfl, w_c, [w_d, w_e], rfl, w_d, [w_e], rfl, w_e, [], rfl, rfl, kont a b c d e w_a w_b w_c w_d w_e G1 H1 e1 r_a r_b r_c r_d r_e hk⟩
theorem se_add {m n : Option Int} (ha : SE K ta σ G H m) (hb : SE K tb σ G H n) : SE K (tOp (rI0 fun i j => .int (i + j)) ta tb) σ G H (m.bind fun x => n.bind fun y => some (x + y)) := se_op (f := fun x y => some (x + y)) ha hb ro_add
theorem se_addp {x y : Int} (ha : SE K ta σ G H (some x)) (hb : SE K tb σ G H (some y)) : SE K (tOp (rI0 fun i j => .int (i + j)) ta tb) σ G H (some (x + y)) := se_opp (f := fun x y => some (x + y)) ha hb ro_add
theorem se_sub {m n : Option Int} (ha : SE K ta σ G H m) (hb : SE K tb σ G H n) : SE K (tOp (rI0 fun i j => .int (i - j)) ta tb) σ G H (m.bind fun x => n.bind fun y => some (x - y)) := se_op (f := fun x y => some (x - y)) ha hb ro_sub
theorem se_subp {x y : Int} (ha : SE K ta σ G H (some x)) (hb : SE K tb σ G H (some y)) : SE K (tOp (rI0 fun i j => .int (i - j)) ta tb) σ G H (some (x - y)) := se_opp (f := fun x y => some (x - y)) ha hb ro_sub
theorem se_mul {m n : Option Int} (ha : SE K ta σ G H m) (hb : SE K tb σ G H n) : SE K (tOp (rI CMulZ fun i j => .int (i * j)) ta tb) σ G H (m.bind fun x => n.bind fun y => mulO x y) := se_op (f := fun x y => mulO x y) ha hb ro_mul
theorem se_mulp {x y : Int} (ha : SE K ta σ G H (some x)) (hb : SE K tb σ G H (some y)) : SE K (tOp (rI CMulZ fun i j => .int (i * j)) ta tb) σ G H (mulO x y) := se_opp (f := fun x y => mulO x y) ha hb ro_mul
theorem se_div {m n : Option Int} (ha : SE K ta σ G H m) (hb : SE K tb σ G H n) : SE K (tOp (rI CDivZ fun i j => .int (i.fdiv j)) ta tb) σ G H (m.bind fun x => n.bind fun y => divO x y) := se_op (f := fun x y => divO x y) ha hb ro_div
theorem se_divp {x y : Int} (ha : SE K ta σ G H (some x)) (hb : SE K tb σ G H (some y)) : SE K (tOp (rI CDivZ fun i j => .int (i.fdiv j)) ta tb) σ G H (divO x y) := se_opp (f := fun x y => divO x y) ha hb ro_div
theorem se_mod {m n : Option Int} (ha : SE K ta σ G H m) (hb : SE K tb σ G H n) : SE K (tOp (rI (fun _ j => j ≠ 0) fun i j => .int (i.fmod j)) ta tb) σ G H (m.bind fun x => n.bind fun y => modO x y) := se_op (f := fun x y => modO x y) ha hb ro_mod
theorem se_modp {x y : Int} (ha : SE K ta σ G H (some x)) (hb : SE K tb σ G H (some y)) : SE K (tOp (rI (fun _ j => j ≠ 0) fun i j => .int (i.fmod j)) ta tb) σ G H (modO x y) := se_opp (f := fun x y => modO x y) ha hb ro_mod
theorem se_pow {m n : Option Int} (ha : SE K ta σ G H m) (hb : SE K tb σ G H n) : SE K (tOp (rI CPow fun i j => .int (i ^ j.toNat)) ta tb) σ G H (m.bind fun x => n.bind fun y => powO x y) := se_op (f := fun x y => powO x y) ha hb ro_pow
theorem se_powp {x y : Int} (ha : SE K ta σ G H (some x)) (hb : SE K tb σ G H (some y)) : SE K (tOp (rI CPow fun i j => .int (i ^ j.toNat)) ta tb) σ G H (powO x y) := se_opp (f := fun x y => powO x y) ha hb ro_pow
theorem se_shl {m n : Option Int} (ha : SE K ta σ G H m) (hb : SE K tb σ G H n) : SE K (tOp (rI CPow fun i j => .int (i * 2 ^ j.toNat)) ta tb) σ G H (m.bind fun x => n.bind fun y => shlO x y) := se_op (f := fun x y => shlO x y) ha hb ro_shl
theorem se_shlp {x y : Int} (ha : SE K ta σ G H (some x)) (hb : SE K tb σ G H (some y)) : SE K (tOp (rI CPow fun i j => .int (i * 2 ^ j.toNat)) ta tb) σ G H (shlO x y) := se_opp (f := fun x y => shlO x y) ha hb ro_shl
theorem se_shr {m n : Option Int} (ha : SE K ta σ G H m) (hb : SE K tb σ G H n) : SE K (tOp (rI (fun _ j => 0 ≤ j) fun i j => .int (i / 2 ^ j.toNat)) ta tb) σ G H (m.bind fun x => n.bind fun y => shrO x y) := se_op (f := fun x y => shrO x y) ha hb ro_shr
theorem se_shrp {x y : Int} (ha : SE K ta σ G H (some x)) (hb : SE K tb σ G H (some y)) : SE K (tOp (rI (fun _ j => 0 ≤ j) fun i j => .int (i / 2 ^ j.toNat)) ta tb) σ G H (shrO x y) := se_opp (f := fun x y => shrO x y) ha hb ro_shr
theorem se_band {m n : Option Int} (ha : SE K ta σ G H m) (hb : SE K tb σ G H n) : SE K (tOp (rI0 fun i j => .int (Builtin.bitAnd i j)) ta tb) σ G H (m.bind fun x => n.bind fun y => some (Builtin.bitAnd x y)) := se_op (f := fun x y => some (Builtin.bitAnd x y)) ha hb ro_and
theorem se_bandp {x y : Int} (ha : SE K ta σ G H (some x)) (hb : SE K tb σ G H (some y)) : SE K (tOp (rI0 fun i j => .int (Builtin.bitAnd i j)) ta tb) σ G H (some (Builtin.bitAnd x y)) := se_opp (f := fun x y => some (Builtin.bitAnd x y)) ha hb ro_and
theorem se_bxor {m n : Option Int} (ha : SE K ta σ G H m) (hb : SE K tb σ G H n) : SE K (tOp (rI0 fun i j => .int (Builtin.bitXor i j)) ta tb) σ G H (m.bind fun x => n.bind fun y => some (Builtin.bitXor x y)) := se_op (f := fun x y => some (Builtin.bitXor x y)) ha hb ro_xor
theorem se_bxorp {x y : Int} (ha : SE K ta σ G H (some x)) (hb : SE K tb σ G H (some y)) : SE K (tOp (rI0 fun i j => .int (Builtin.bitXor i j)) ta tb) σ G H (some (Builtin.bitXor x y)) := se_opp (f := fun x y => some (Builtin.bitXor x y)) ha hb ro_xor
theorem se_lt {m n : Option Int} (ha : SE K ta σ G H m) (hb : SE K tb σ G H n) : SE K (tOp (rI0 fun i j => .bl (decide (i < j))) ta tb) σ G H (m.bind fun x => n.bind fun y => some (decide (x < y))) := se_op (f := fun x y => some (decide (x < y))) ha hb ro_lt
theorem se_ltp {x y : Int} (ha : SE K ta σ G H (some x)) (hb : SE K tb σ G H (some y)) : SE K (tOp (rI0 fun i j => .bl (decide (i < j))) ta tb) σ G H (some (decide (x < y))) := se_opp (f := fun x y => some (decide (x < y))) ha hb ro_lt
theorem se_le {m n : Option Int} (ha : SE K ta σ G H m) (hb : SE K tb σ G H n) : SE K (tOp (rI0 fun i j => .bl (decide (i ≤ j))) ta tb) σ G H (m.bind fun x => n.bind fun y => some (decide (x ≤ y))) := se_op (f := fun x y => some (decide (x ≤ y))) ha hb ro_le
theorem se_lep {x y : Int} (ha : SE K ta σ G H (some x)) (hb : SE K tb σ G H (some y)) : SE K (tOp (rI0 fun i j => .bl (decide (i ≤ j))) ta tb) σ G H (some (decide (x ≤ y))) := se_opp (f := fun x y => some (decide (x ≤ y))) ha hb ro_le
theorem se_gt {m n : Option Int} (ha : SE K ta σ G H m) (hb : SE K tb σ G H n) : SE K (tOp (rI0 fun i j => .bl (decide (j < i))) ta tb) σ G H (m.bind fun x => n.bind fun y => some (decide (y < x))) := se_op (f := fun x y => some (decide (y < x))) ha hb ro_gt
theorem se_gtp {x y : Int} (ha : SE K ta σ G H (some x)) (hb : SE K tb σ G H (some y)) : SE K (tOp (rI0 fun i j => .bl (decide (j < i))) ta tb) σ G H (some (decide (y < x))) := se_opp (f := fun x y => some (decide (y < x))) ha hb ro_gt
theorem se_ge {m n : Option Int} (ha : SE K ta σ G H m) (hb : SE K tb σ G H n) : SE K (tOp (rI0 fun i j => .bl (decide (j ≤ i))) ta tb) σ G H (m.bind fun x => n.bind fun y => some (decide (y ≤ x))) := se_op (f := fun x y => some (decide (y ≤ x))) ha hb ro_ge
theorem se_gep {x y : Int} (ha : SE K ta σ G H (some x)) (hb : SE K tb σ G H (some y)) : SE K (tOp (rI0 fun i j => .bl (decide (j ≤ i))) ta tb) σ G H (some (decide (y ≤ x))) := se_opp (f := fun x y => some (decide (y ≤ x))) ha hb ro_ge
theorem se_eq [DecidableEq α] [Sc α] {m : Option α} {n : Option α} (ha : SE K ta σ G H m) (hb : SE K tb σ G H n) : SE K (tOp (rEq) ta tb) σ G H (m.bind fun x => n.bind fun y => some (decide (x = y))) := se_op (f := fun x y => some (decide (x = y))) ha hb ro_eq
theorem se_eqp [DecidableEq α] [Sc α] {x : α} {y : α} (ha : SE K ta σ G H (some x)) (hb : SE K tb σ G H (some y)) : SE K (tOp (rEq) ta tb) σ G H (some (decide (x = y))) := se_opp (f := fun x y => some (decide (x = y))) ha hb ro_eq
theorem se_ne [DecidableEq α] [Sc α] {m : Option α} {n : Option α} (ha : SE K ta σ G H m) (hb : SE K tb σ G H n) : SE K (tOp (rNe) ta tb) σ G H (m.bind fun x => n.bind fun y => some (!decide (x = y))) := se_op (f := fun x y => some (!decide (x = y))) ha hb ro_ne
theorem se_nep [DecidableEq α] [Sc α] {x : α} {y : α} (ha : SE K ta σ G H (some x)) (hb : SE K tb σ G H (some y)) : SE K (tOp (rNe) ta tb) σ G H (some (!decide (x = y))) := se_opp (f := fun x y => some (!decide (x = y))) ha hb ro_ne
theorem se_eqD [DecidableEq α] [RpD α] {m n : Option α} (ha : SE K ta σ G H m) (hb : SE K tb σ G H n) (hd : RpD.dep α ≤ 64 := by decide) : SE K (tOp (rEqD K) ta tb) σ G H (m.bind fun x => n.bind fun y => some (decide (x = y))) := se_op (f := fun x y => some (decide (x = y))) ha hb (ro_eqD hd)
theorem se_eqDp [DecidableEq α] [RpD α] {x y : α} (ha : SE K ta σ G H (some x)) (hb : SE K tb σ G H (some y)) (hd : RpD.dep α ≤ 64 := by decide) : SE K (tOp (rEqD K) ta tb) σ G H (some (decide (x = y))) := se_opp (f := fun x y => some (decide (x = y))) ha hb (ro_eqD hd)
theorem se_neD [DecidableEq α] [RpD α] {m n : Option α} (ha : SE K ta σ G H m) (hb : SE K tb σ G H n) (hd : RpD.dep α ≤ 64 := by decide) : SE K (tOp (rNeD K) ta tb) σ G H (m.bind fun x => n.bind fun y => some (!decide (x = y))) := se_op (f := fun x y => some (!decide (x = y))) ha hb (ro_neD hd)
theorem se_neDp [DecidableEq α] [RpD α] {x y : α} (ha : SE K ta σ G H (some x)) (hb : SE K tb σ G H (some y)) (hd : RpD.dep α ≤ 64 := by decide) : SE K (tOp (rNeD K) ta tb) σ G H (some (!decide (x = y))) := se_opp (f := fun x y => some (!decide (x = y))) ha hb (ro_neD hd)
theorem se_in [DecidableEq α] [RpF α] {m : Option α} {n : Option (List α)} (ha : SE K ta σ G H m) (hb : SE K tb σ G H n) : SE K (tOp (rIn K false) ta tb) σ G H (m.bind fun x => n.bind fun y => some (decide (x ∈ y))) := se_op (f := fun x y => some (decide (x ∈ y))) ha hb ro_in
theorem se_inp [DecidableEq α] [RpF α] {x : α} {y : (List α)} (ha : SE K ta σ G H (some x)) (hb : SE K tb σ G H (some y)) : SE K (tOp (rIn K false) ta tb) σ G H (some (decide (x ∈ y))) := se_opp (f := fun x y => some (decide (x ∈ y))) ha hb ro_in
theorem se_notIn [DecidableEq α] [RpF α] {m : Option α} {n : Option (List α)} (ha : SE K ta σ G H m) (hb : SE K tb σ G H n) : SE K (tOp (rIn K true) ta tb) σ G H (m.bind fun x => n.bind fun y => some (!decide (x ∈ y))) := se_op (f := fun x y => some (!decide (x ∈ y))) ha hb ro_notIn
theorem se_notInp [DecidableEq α] [RpF α] {x : α} {y : (List α)} (ha : SE K ta σ G H (some x)) (hb : SE K tb σ G H (some y)) : SE K (tOp (rIn K true) ta tb) σ G H (some (!decide (x ∈ y))) := se_opp (f := fun x y => some (!decide (x ∈ y))) ha hb ro_notIn
theorem ro_inT [DecidableEq α] [RpF α] : RO K (rIn K false) (fun (x : α) (xs : TL α) => some (decide (x ∈ xs.l))) := fun {G H v w x y z} s hv ⟨a, vs, e, h, l, rs⟩ hz Q q => by
  cases (show some _ = some z from hz)
  exact ⟨a, vs, e, .inr (same_tup s h), RpF.flat hv, flats rs, by
    rw [in_reps hv rs]
    exact q _ G H (Ext.refl s) rfl⟩
theorem ro_notInT [DecidableEq α] [RpF α] : RO K (rIn K true) (fun (x : α) (xs : TL α) => some (!decide (x ∈ xs.l))) := fun {G H v w x y z} s hv ⟨a, vs, e, h, l, rs⟩ hz Q q => by
  cases (show some _ = some z from hz)
  exact ⟨a, vs, e, .inr (same_tup s h), RpF.flat hv, flats rs, by
    rw [in_reps hv rs]
    exact q _ G H (Ext.refl s) rfl⟩
theorem ro_inK [DecidableEq α] [RpF α] : RO K (rIn K false) (fun (x : α) (xs : KL α) => some (decide (x ∈ xs.l))) := fun {G H v w x y z} s hv ⟨a, vs, e, h, l, rs⟩ hz Q q => by
  cases (show some _ = some z from hz)
  exact ⟨a, vs, e, .inl (s.seq h), RpF.flat hv, flats rs, by
    rw [in_reps hv rs]
    exact q _ G H (Ext.refl s) rfl⟩
theorem ro_notInK [DecidableEq α] [RpF α] : RO K (rIn K true) (fun (x : α) (xs : KL α) => some (!decide (x ∈ xs.l))) := fun {G H v w x y z} s hv ⟨a, vs, e, h, l, rs⟩ hz Q q => by
  cases (show some _ = some z from hz)
  exact ⟨a, vs, e, .inl (s.seq h), RpF.flat hv, flats rs, by
    rw [in_reps hv rs]
    exact q _ G H (Ext.refl s) rfl⟩
theorem se_inT [DecidableEq α] [RpF α] {m : Option α} {n : Option (TL α)} (ha : SE K ta σ G H m) (hb : SE K tb σ G H n) : SE K (tOp (rIn K false) ta tb) σ G H (m.bind fun x => n.bind fun y => some (decide (x ∈ y.l))) := se_op (f := fun x y => some (decide (x ∈ y.l))) ha hb ro_inT
theorem se_inTp [DecidableEq α] [RpF α] {x : α} {y : (TL α)} (ha : SE K ta σ G H (some x)) (hb : SE K tb σ G H (some y)) : SE K (tOp (rIn K false) ta tb) σ G H (some (decide (x ∈ y.l))) := se_opp (f := fun x y => some (decide (x ∈ y.l))) ha hb ro_inT
theorem se_notInT [DecidableEq α] [RpF α] {m : Option α} {n : Option (TL α)} (ha : SE K ta σ G H m) (hb : SE K tb σ G H n) : SE K (tOp (rIn K true) ta tb) σ G H (m.bind fun x => n.bind fun y => some (!decide (x ∈ y.l))) := se_op (f := fun x y => some (!decide (x ∈ y.l))) ha hb ro_notInT
theorem se_notInTp [DecidableEq α] [RpF α] {x : α} {y : (TL α)} (ha : SE K ta σ G H (some x)) (hb : SE K tb σ G H (some y)) : SE K (tOp (rIn K true) ta tb) σ G H (some (!decide (x ∈ y.l))) := se_opp (f := fun x y => some (!decide (x ∈ y.l))) ha hb ro_notInT
theorem se_inK [DecidableEq α] [RpF α] {m : Option α} {n : Option (KL α)} (ha : SE K ta σ G H m) (hb : SE K tb σ G H n) : SE K (tOp (rIn K false) ta tb) σ G H (m.bind fun x => n.bind fun y => some (decide (x ∈ y.l))) := se_op (f := fun x y => some (decide (x ∈ y.l))) ha hb ro_inK
theorem se_inKp [DecidableEq α] [RpF α] {x : α} {y : (KL α)} (ha : SE K ta σ G H (some x)) (hb : SE K tb σ G H (some y)) : SE K (tOp (rIn K false) ta tb) σ G H (some (decide (x ∈ y.l))) := se_opp (f := fun x y => some (decide (x ∈ y.l))) ha hb ro_inK
theorem se_notInK [DecidableEq α] [RpF α] {m : Option α} {n : Option (KL α)} (ha : SE K ta σ G H m) (hb : SE K tb σ G H n) : SE K (tOp (rIn K true) ta tb) σ G H (m.bind fun x => n.bind fun y => some (!decide (x ∈ y.l))) := se_op (f := fun x y => some (!decide (x ∈ y.l))) ha hb ro_notInK
theorem se_notInKp [DecidableEq α] [RpF α] {x : α} {y : (KL α)} (ha : SE K ta σ G H (some x)) (hb : SE K tb σ G H (some y)) : SE K (tOp (rIn K true) ta tb) σ G H (some (!decide (x ∈ y.l))) := se_opp (f := fun x y => some (!decide (x ∈ y.l))) ha hb ro_notInK
theorem se_ix  {m : Option (List α)} {n : Option Int} (ha : SE K ta σ G H m) (hb : SE K tb σ G H n) : SE K (tOp (rIxL K) ta tb) σ G H (m.bind fun x => n.bind fun y => ixO x y) := se_op (f := fun x y => ixO x y) ha hb ro_ix
theorem se_ixp  {x : (List α)} {y : Int} (ha : SE K ta σ G H (some x)) (hb : SE K tb σ G H (some y)) : SE K (tOp (rIxL K) ta tb) σ G H (ixO x y) := se_opp (f := fun x y => ixO x y) ha hb ro_ix
theorem se_ixK  {m : Option (KL α)} {n : Option Int} (ha : SE K ta σ G H m) (hb : SE K tb σ G H n) : SE K (tOp (rIxL K) ta tb) σ G H (m.bind fun x => n.bind fun y => ixO x.l y) := se_op (f := fun x y => ixO x.l y) ha hb ro_ixK
theorem se_ixKp  {x : (KL α)} {y : Int} (ha : SE K ta σ G H (some x)) (hb : SE K tb σ G H (some y)) : SE K (tOp (rIxL K) ta tb) σ G H (ixO x.l y) := se_opp (f := fun x y => ixO x.l y) ha hb ro_ixK
theorem se_ixT  {m : Option (TL α)} {n : Option Int} (ha : SE K ta σ G H m) (hb : SE K tb σ G H n) : SE K (tOp (rIxT K) ta tb) σ G H (m.bind fun x => n.bind fun y => ixO x.l y) := se_op (f := fun x y => ixO x.l y) ha hb ro_ixT
theorem se_ixTp  {x : (TL α)} {y : Int} (ha : SE K ta σ G H (some x)) (hb : SE K tb σ G H (some y)) : SE K (tOp (rIxT K) ta tb) σ G H (ixO x.l y) := se_opp (f := fun x y => ixO x.l y) ha hb ro_ixT
theorem se_len {m : Option (List α)} (ha : SE K ta σ G H m) : SE K (tCB (fun xs H Q => ∃ p ys, xs = [.ref p] ∧ (SqL K H p ys ∨ SqT K H p ys) ∧ Q (.int ys.length) H) (tCons ta tNil)) σ G H (m.bind fun x => some (x.length : Int)) := se_cb1 (f := fun x => some (x.length : Int)) ha rc_len
theorem se_lenp {x : (List α)} (ha : SE K ta σ G H (some x)) : SE K (tCB (fun xs H Q => ∃ p ys, xs = [.ref p] ∧ (SqL K H p ys ∨ SqT K H p ys) ∧ Q (.int ys.length) H) (tCons ta tNil)) σ G H (some (x.length : Int)) := se_cb1p (f := fun x => some (x.length : Int)) ha rc_len
theorem se_lenK {m : Option (KL α)} (ha : SE K ta σ G H m) : SE K (tCB (fun xs H Q => ∃ p ys, xs = [.ref p] ∧ (SqL K H p ys ∨ SqT K H p ys) ∧ Q (.int ys.length) H) (tCons ta tNil)) σ G H (m.bind fun x => some (x.l.length : Int)) := se_cb1 (f := fun x => some (x.l.length : Int)) ha rc_lenK
theorem se_lenKp {x : (KL α)} (ha : SE K ta σ G H (some x)) : SE K (tCB (fun xs H Q => ∃ p ys, xs = [.ref p] ∧ (SqL K H p ys ∨ SqT K H p ys) ∧ Q (.int ys.length) H) (tCons ta tNil)) σ G H (some (x.l.length : Int)) := se_cb1p (f := fun x => some (x.l.length : Int)) ha rc_lenK
theorem se_lenT {m : Option (TL α)} (ha : SE K ta σ G H m) : SE K (tCB (fun xs H Q => ∃ p ys, xs = [.ref p] ∧ (SqL K H p ys ∨ SqT K H p ys) ∧ Q (.int ys.length) H) (tCons ta tNil)) σ G H (m.bind fun x => some (x.l.length : Int)) := se_cb1 (f := fun x => some (x.l.length : Int)) ha rc_lenT
theorem se_lenTp {x : (TL α)} (ha : SE K ta σ G H (some x)) : SE K (tCB (fun xs H Q => ∃ p ys, xs = [.ref p] ∧ (SqL K H p ys ∨ SqT K H p ys) ∧ Q (.int ys.length) H) (tCons ta tNil)) σ G H (some (x.l.length : Int)) := se_cb1p (f := fun x => some (x.l.length : Int)) ha rc_lenT
theorem se_len2 {m : Option (α × β)} (ha : SE K ta σ G H m) : SE K (tCB (fun xs H Q => ∃ p ys, xs = [.ref p] ∧ (SqL K H p ys ∨ SqT K H p ys) ∧ Q (.int ys.length) H) (tCons ta tNil)) σ G H (m.bind fun x => some (2 : Int)) := se_cb1 (f := fun x => some (2 : Int)) ha rc_len2
theorem se_len2p {x : (α × β)} (ha : SE K ta σ G H (some x)) : SE K (tCB (fun xs H Q => ∃ p ys, xs = [.ref p] ∧ (SqL K H p ys ∨ SqT K H p ys) ∧ Q (.int ys.length) H) (tCons ta tNil)) σ G H (some (2 : Int)) := se_cb1p (f := fun x => some (2 : Int)) ha rc_len2
theorem se_len3 {m : Option (T3 α β γ)} (ha : SE K ta σ G H m) : SE K (tCB (fun xs H Q => ∃ p ys, xs = [.ref p] ∧ (SqL K H p ys ∨ SqT K H p ys) ∧ Q (.int ys.length) H) (tCons ta tNil)) σ G H (m.bind fun x => some (3 : Int)) := se_cb1 (f := fun x => some (3 : Int)) ha rc_len3
theorem se_len3p {x : (T3 α β γ)} (ha : SE K ta σ G H (some x)) : SE K (tCB (fun xs H Q => ∃ p ys, xs = [.ref p] ∧ (SqL K H p ys ∨ SqT K H p ys) ∧ Q (.int ys.length) H) (tCons ta tNil)) σ G H (some (3 : Int)) := se_cb1p (f := fun x => some (3 : Int)) ha rc_len3
theorem se_len4 {m : Option (T4 α β γ δ)} (ha : SE K ta σ G H m) : SE K (tCB (fun xs H Q => ∃ p ys, xs = [.ref p] ∧ (SqL K H p ys ∨ SqT K H p ys) ∧ Q (.int ys.length) H) (tCons ta tNil)) σ G H (m.bind fun x => some (4 : Int)) := se_cb1 (f := fun x => some (4 : Int)) ha rc_len4
theorem se_len4p {x : (T4 α β γ δ)} (ha : SE K ta σ G H (some x)) : SE K (tCB (fun xs H Q => ∃ p ys, xs = [.ref p] ∧ (SqL K H p ys ∨ SqT K H p ys) ∧ Q (.int ys.length) H) (tCons ta tNil)) σ G H (some (4 : Int)) := se_cb1p (f := fun x => some (4 : Int)) ha rc_len4
theorem se_abs {m : Option Int} (ha : SE K ta σ G H m) : SE K (tCB (fun xs H Q => ∃ i, xs = [.int i] ∧ Q (.int (if i < 0 then -i else i)) H) (tCons ta tNil)) σ G H (m.bind fun x => some (x.natAbs : Int)) := se_cb1 (f := fun x => some (x.natAbs : Int)) ha rc_abs
theorem se_absp {x : Int} (ha : SE K ta σ G H (some x)) : SE K (tCB (fun xs H Q => ∃ i, xs = [.int i] ∧ Q (.int (if i < 0 then -i else i)) H) (tCons ta tNil)) σ G H (some (x.natAbs : Int)) := se_cb1p (f := fun x => some (x.natAbs : Int)) ha rc_abs
theorem se_sum {m : Option (List Int)} (ha : SE K ta σ G H m) : SE K (tCB (rSum K) (tCons ta tNil)) σ G H (m.bind fun x => some x.sum) := se_cb1 (f := fun x => some x.sum) ha rc_sum
theorem se_sump {x : (List Int)} (ha : SE K ta σ G H (some x)) : SE K (tCB (rSum K) (tCons ta tNil)) σ G H (some x.sum) := se_cb1p (f := fun x => some x.sum) ha rc_sum
theorem se_all {m : Option (List Bool)} (ha : SE K ta σ G H m) : SE K (tCB (rAll K) (tCons ta tNil)) σ G H (m.bind fun x => some (x.all id)) := se_cb1 (f := fun x => some (x.all id)) ha rc_all
theorem se_allp {x : (List Bool)} (ha : SE K ta σ G H (some x)) : SE K (tCB (rAll K) (tCons ta tNil)) σ G H (some (x.all id)) := se_cb1p (f := fun x => some (x.all id)) ha rc_all
theorem se_any {m : Option (List Bool)} (ha : SE K ta σ G H m) : SE K (tCB (rAny K) (tCons ta tNil)) σ G H (m.bind fun x => some (x.any id)) := se_cb1 (f := fun x => some (x.any id)) ha rc_any
theorem se_anyp {x : (List Bool)} (ha : SE K ta σ G H (some x)) : SE K (tCB (rAny K) (tCons ta tNil)) σ G H (some (x.any id)) := se_cb1p (f := fun x => some (x.any id)) ha rc_any
theorem se_max1 {m : Option (List Int)} (ha : SE K ta σ G H m) : SE K (tCB (rMax K) (tCons ta tNil)) σ G H (m.bind fun x => maxO x) := se_cb1 (f := fun x => maxO x) ha rc_max
theorem se_max1p {x : (List Int)} (ha : SE K ta σ G H (some x)) : SE K (tCB (rMax K) (tCons ta tNil)) σ G H (maxO x) := se_cb1p (f := fun x => maxO x) ha rc_max
theorem se_min1 {m : Option (List Int)} (ha : SE K ta σ G H m) : SE K (tCB (rMin K) (tCons ta tNil)) σ G H (m.bind fun x => minO x) := se_cb1 (f := fun x => minO x) ha rc_min
theorem se_min1p {x : (List Int)} (ha : SE K ta σ G H (some x)) : SE K (tCB (rMin K) (tCons ta tNil)) σ G H (minO x) := se_cb1p (f := fun x => minO x) ha rc_min
theorem se_int1 {m : Option Int} (ha : SE K ta σ G H m) : SE K (tCB (fun xs H Q => (∃ i, xs = [.int i] ∧ Q (.int i) H) ∨ ∃ k, xs = [.bl k] ∧ Q (.int (if k then 1 else 0)) H) (tCons ta tNil)) σ G H (m.bind fun x => some x) := se_cb1 (f := fun x => some x) ha rc_int
theorem se_int1p {x : Int} (ha : SE K ta σ G H (some x)) : SE K (tCB (fun xs H Q => (∃ i, xs = [.int i] ∧ Q (.int i) H) ∨ ∃ k, xs = [.bl k] ∧ Q (.int (if k then 1 else 0)) H) (tCons ta tNil)) σ G H (some x) := se_cb1p (f := fun x => some x) ha rc_int
theorem se_intb {m : Option Bool} (ha : SE K ta σ G H m) : SE K (tCB (fun xs H Q => (∃ i, xs = [.int i] ∧ Q (.int i) H) ∨ ∃ k, xs = [.bl k] ∧ Q (.int (if k then 1 else 0)) H) (tCons ta tNil)) σ G H (m.bind fun x => some (if x then (1 : Int) else 0)) := se_cb1 (f := fun x => some (if x then (1 : Int) else 0)) ha rc_intb
theorem se_intbp {x : Bool} (ha : SE K ta σ G H (some x)) : SE K (tCB (fun xs H Q => (∃ i, xs = [.int i] ∧ Q (.int i) H) ∨ ∃ k, xs = [.bl k] ∧ Q (.int (if k then 1 else 0)) H) (tCons ta tNil)) σ G H (some (if x then (1 : Int) else 0)) := se_cb1p (f := fun x => some (if x then (1 : Int) else 0)) ha rc_intb
theorem se_max2 {m n : Option Int} (ha : SE K ta σ G H m) (hb : SE K tb σ G H n) : SE K (tCB (fun xs H Q => ∃ i j, xs = [.int i, .int j] ∧ Q (.int (if j > i then j else i)) H) (tCons ta (tCons tb tNil))) σ G H (m.bind fun x => n.bind fun y => some (max x y)) := se_cb2 (f := fun x y => some (max x y)) ha hb rc_max2
theorem se_max2p {x y : Int} (ha : SE K ta σ G H (some x)) (hb : SE K tb σ G H (some y)) : SE K (tCB (fun xs H Q => ∃ i j, xs = [.int i, .int j] ∧ Q (.int (if j > i then j else i)) H) (tCons ta (tCons tb tNil))) σ G H (some (max x y)) := se_cb2p (f := fun x y => some (max x y)) ha hb rc_max2
theorem se_min2 {m n : Option Int} (ha : SE K ta σ G H m) (hb : SE K tb σ G H n) : SE K (tCB (fun xs H Q => ∃ i j, xs = [.int i, .int j] ∧ Q (.int (if j < i then j else i)) H) (tCons ta (tCons tb tNil))) σ G H (m.bind fun x => n.bind fun y => some (min x y)) := se_cb2 (f := fun x y => some (min x y)) ha hb rc_min2
theorem se_min2p {x y : Int} (ha : SE K ta σ G H (some x)) (hb : SE K tb σ G H (some y)) : SE K (tCB (fun xs H Q => ∃ i j, xs = [.int i, .int j] ∧ Q (.int (if j < i then j else i)) H) (tCons ta (tCons tb tNil))) σ G H (some (min x y)) := se_cb2p (f := fun x y => some (min x y)) ha hb rc_min2
/-! ### range with a step, sorted -/
theorem insI_perm : ∀ (x : Int) (r : List Int), (insI x r).Perm (x :: r)
  | x, [] => List.Perm.refl _
  | x, y :: r => by
    unfold insI
    split
    · exact List.Perm.refl _
    · exact (List.Perm.cons y (insI_perm x r)).trans (List.Perm.swap x y r)
theorem sortI_perm : ∀ r : List Int, (sortI r).Perm r
  | [] => List.Perm.refl _
  | x :: r => (insI_perm x (sortI r)).trans (List.Perm.cons x (sortI_perm r))
theorem insI_sorted : ∀ (x : Int) (r : List Int), r.Pairwise (· ≤ ·) → (insI x r).Pairwise (· ≤ ·)
  | x, [], _ => List.pairwise_singleton _ _
  | x, y :: r, h => by
    unfold insI
    rw [List.pairwise_cons] at h
    split
    · rename_i hl
      rw [List.pairwise_cons, List.pairwise_cons]
      refine ⟨fun z hz => ?_, h⟩
      rcases List.mem_cons.mp hz with q | q
      · omega
      · have := h.1 z q
        omega
    · rename_i hl
      rw [List.pairwise_cons]
      refine ⟨fun z hz => ?_, insI_sorted x r h.2⟩
      rcases List.mem_cons.mp ((insI_perm x r).mem_iff.mp hz) with q | q
      · omega
      · exact h.1 z q
theorem sortI_sorted : ∀ r : List Int, (sortI r).Pairwise (· ≤ ·)
  | [] => List.Pairwise.nil
  | x :: r => insI_sorted x (sortI r) (sortI_sorted r)
theorem sorted_one : ∀ {a b : List Int}, a.Perm b → a.Pairwise (· ≤ ·) → b.Pairwise (· ≤ ·) → a = b
  | [], b, h, _, _ => (List.Perm.nil_eq h)
  | x :: a, [], h, _, _ => absurd h.length_eq (by simp)
  | x :: a, y :: b, h, ha, hb => by
    have ha2 := List.pairwise_cons.mp ha
    have hb2 := List.pairwise_cons.mp hb
    have h1 : x ≤ y := by
      rcases List.mem_cons.mp (h.mem_iff.mpr List.mem_cons_self) with q | q
      · omega
      · exact ha2.1 y q
    have h2 : y ≤ x := by
      rcases List.mem_cons.mp (h.mem_iff.mp List.mem_cons_self) with q | q
      · omega
      · exact hb2.1 x q
    have e : x = y := by omega
    subst e
    rw [sorted_one (List.Perm.cons_inv h) ha2.2 hb2.2]
theorem fe_sorted {m : Option (List Int)} (h : SE K te σ G H m) : FE K (tCB (rSortedI K) (tCons te tNil)) σ G H (m.bind fun xs => some (sortI xs)) := fun G1 H1 e r hm Q q => by
  obtain ⟨xs, hx, hm⟩ := bind_some hm
  cases hm
  refine h G1 H1 e xs hx _ fun v G2 H2 e2 ⟨a, vs, ea, ha, l, rs⟩ => ?_
  have e3 := rs.ints
  subst e3
  refine ⟨a, xs, by rw [ea], SqL.of (e2.s _ _ ha), fun ys p hp hs np => ?_⟩
  have ey : ys = sortI xs := sorted_one (hp.trans (sortI_perm xs).symm) hs (sortI_sorted xs)
  rw [List.length_map] at l
  have o := own_new (K := K) (ds := ys) (vs := ys.map V.int) e2.s np (by rw [List.length_map, hp.length_eq]; exact l) (reps_ints ys)
  rw [← ey] at q
  exact q p G2 _ (e2.trans (Ext.own e2.s np)) ⟨e2.h.free np, o.g, o.h⟩
theorem fe_sortedp {xs : List Int} (h : SE K te σ G H (some xs)) : FE K (tCB (rSortedI K) (tCons te tNil)) σ G H (some (sortI xs)) := fe_sorted h
theorem size_up {lo hi c : Int} (hc : 0 < c) : Builtin.Range.rangeSize lo hi c = (((hi - lo + c - 1) / c).toNat : Int) := by
  unfold Builtin.Range.rangeSize
  rw [if_pos hc]
  split
  · rename_i h
    have e : hi - lo + c - 1 = (hi - lo - 1) + c * 1 := by omega
    have e2 : (hi - lo + c - 1) / c = (hi - lo - 1) / c + 1 := by rw [e, Int.add_mul_ediv_left _ _ (by omega)]
    have := Int.ediv_nonneg (show 0 ≤ hi - lo - 1 by omega) (show 0 ≤ c by omega)
    omega
  · rename_i h
    have e2 : (hi - lo + c - 1) / c < 1 := Int.ediv_lt_of_lt_mul hc (by omega)
    omega
theorem size_le {lo hi c : Int} (hc : 0 < c) : Builtin.Range.rangeSize lo hi c ≤ (hi - lo).toNat := by
  unfold Builtin.Range.rangeSize
  rw [if_pos hc]
  split
  · rename_i h
    have := Int.ediv_le_self c (show 0 ≤ hi - lo - 1 by omega)
    omega
  · omega
theorem small_up {a b c : Int} (hc : 0 < c) (hc2 : c < 2 ^ 20) (h : -(2 ^ 61) ≤ a ∧ a < 2 ^ 61 ∧ -(2 ^ 61) ≤ b ∧ b < 2 ^ 61) : Builtin.Range.small a b c = true := by
  unfold Builtin.Range.small
  have h1 := size_le (lo := a) (hi := b) hc
  have h2 := size_up (lo := a) (hi := b) hc
  generalize Builtin.Range.rangeSize a b c = n at h1 h2 ⊢
  simp only [Builtin.Range.rangeFitsLong, Bool.and_eq_true, Bool.or_eq_true, decide_eq_true_eq, beq_iff_eq, hc, gt_iff_lt, if_true]
  omega
theorem ie_range3 {c : Int} {m n : Option Int} (hc : 0 < c ∧ c < 2 ^ 20) (h1 : SE K ta σ G H m) (h2 : SE K tb σ G H n) : IE K (iRng3 (tCons ta (tCons tb (tCons (tC (.int c)) tNil)))) σ G H (m.bind fun lo => n.bind fun hi => rangeS lo hi c) := fun G1 H1 e xs hm R q => by
  obtain ⟨lo, hlo, hm⟩ := bind_some hm
  obtain ⟨hi, hhi, hm⟩ := bind_some hm
  unfold rangeS at hm
  split at hm
  · rename_i b
    cases hm
    refine h1 G1 H1 e lo hlo _ fun v G2 H2 e2 hv => ?_
    refine h2 G2 H2 (e.trans e2) hi hhi _ fun w G3 H3 e3 hw => ?_
    refine ⟨lo, hi, c, ((hi - lo + c - 1) / c).toNat, by rw [show v = .int lo from hv, show w = .int hi from hw], ⟨by omega, by omega, small_up hc.1 hc.2 b, size_up hc.1⟩, q _ G3 H3 (e2.trans e3) ?_⟩
    generalize ((hi - lo + c - 1) / c).toNat = n
    refine ⟨fun i G H _ _ h => ?_, fun i x G H s1 s2 h => ?_⟩
    · show n ≤ i
      rwa [List.length_map, List.length_range] at h
    · have hi2 : i < n := by
        obtain ⟨q, _⟩ := List.getElem?_eq_some_iff.mp h
        rwa [List.length_map, List.length_range] at q
      refine ⟨hi2, fun v H' ⟨e1, e2⟩ => ?_⟩
      subst e1
      refine ⟨G, Ext.refl s2, ?_⟩
      rw [List.getElem?_map, List.getElem?_range hi2] at h
      cases h
      exact e2
  · cases hm
theorem ie_range3p {c lo hi : Int} (hc : 0 < c ∧ c < 2 ^ 20) (h1 : SE K ta σ G H (some lo)) (h2 : SE K tb σ G H (some hi)) : IE K (iRng3 (tCons ta (tCons tb (tCons (tC (.int c)) tNil)))) σ G H (rangeS lo hi c) := ie_range3 hc h1 h2
/-! a list of one's own read as a value, and changed later: shown for the time of the reading -/
class ScV (α : Type) [Rp α] : Prop where
  any : ∀ {K : PySem.W.Frag} {G G' : Hp} {v : V} {x : α}, rep K G v x → rep K G' v x
instance : ScV Int := ⟨fun h => h⟩
instance : ScV Bool := ⟨fun h => h⟩
instance : ScV Str := ⟨fun h => h⟩
instance : ScV Unit := ⟨fun h => h⟩
theorem se_tmp [ScV β] {p : Addr} {ds : List α} (o : Own K H0 G H p ds) (h : ∀ vs, Same G (upd G p (.lst vs)) → rep K (upd G p (.lst vs)) (.ref p) ds → SE K te σ (upd G p (.lst vs)) H mb) : SE K te σ G H mb := fun G1 H1 e r hm Q q => by
  obtain ⟨vs, hp, l, rs⟩ := o.h
  have o1 := o.mono e
  have hp1 : H1 p = some (.lst vs) := e.h _ _ hp
  have s0 := h vs (same_new o.g) ⟨p, vs, rfl, upd_same, l, rs.mono (same_new o.g)⟩
  have e1 : Ext (upd G p (.lst vs)) H (upd G1 p (.lst vs)) H1 := by
    refine ⟨fun b u eb => ?_, fun b u eb => ?_, e.h, fun b hb => ?_⟩
    · by_cases h : b = p
      · subst h
        rw [upd_same] at eb ⊢
        exact eb
      · rw [upd_ne h] at eb ⊢
        exact e.g _ _ eb
    · by_cases h : b = p
      · subst h
        rw [upd_same] at eb
        rw [← eb]
        exact hp1
      · rw [upd_ne h] at eb
        exact e.s _ _ eb
    · by_cases h : b = p
      · subst h
        rw [upd_same, upd_same]
      · rw [upd_ne h, upd_ne h]
        exact e.a _ hb
  refine s0 _ _ e1 r hm _ fun v G2 H2 e2 hv => q v G1 H2 ⟨Same.refl _, ?_, e2.h, fun _ _ => rfl⟩ (ScV.any hv)
  exact ((same_new o1.g).trans e2.g).trans e2.s
theorem st_tmp {p : Addr} {ds : List α} {m : Option Bool} (o : Own K H0 G H p ds) (h : ∀ vs, Same G (upd G p (.lst vs)) → rep K (upd G p (.lst vs)) (.ref p) ds → ST tc σ (upd G p (.lst vs)) H m) : ST tc σ G H m := fun G1 H1 e r hm Q q => by
  obtain ⟨vs, hp, l, rs⟩ := o.h
  have o1 := o.mono e
  have hp1 : H1 p = some (.lst vs) := e.h _ _ hp
  have s0 := h vs (same_new o.g) ⟨p, vs, rfl, upd_same, l, rs.mono (same_new o.g)⟩
  have e1 : Ext (upd G p (.lst vs)) H (upd G1 p (.lst vs)) H1 := by
    refine ⟨fun b u eb => ?_, fun b u eb => ?_, e.h, fun b hb => ?_⟩
    · by_cases h : b = p
      · subst h
        rw [upd_same] at eb ⊢
        exact eb
      · rw [upd_ne h] at eb ⊢
        exact e.g _ _ eb
    · by_cases h : b = p
      · subst h
        rw [upd_same] at eb
        rw [← eb]
        exact hp1
      · rw [upd_ne h] at eb
        exact e.s _ _ eb
    · by_cases h : b = p
      · subst h
        rw [upd_same, upd_same]
      · rw [upd_ne h, upd_ne h]
        exact e.a _ hb
  refine s0 _ _ e1 r hm _ fun G2 H2 e2 => q G1 H2 ⟨Same.refl _, ?_, e2.h, fun _ _ => rfl⟩
  exact ((same_new o1.g).trans e2.g).trans e2.s
/-! a place in a written tuple -/
theorem ro_inP2 [DecidableEq α] [RpF α] : RO K (rIn K false) (fun (x : α) (y : α × α) => some (decide (x ∈ [y.1, y.2]))) := fun {G H v w x y z} s hv ⟨a, x0, x1, e, h, h0, h1⟩ hz Q q => by
  cases (show some _ = some z from hz)
  have rs : Reps K G [x0, x1] [y.1, y.2] := (.cons h0 (.cons h1 .nil))
  exact ⟨a, _, e, .inr (same_tup s h), RpF.flat hv, flats rs, by
    rw [in_reps hv rs]
    exact q _ G H (Ext.refl s) rfl⟩
theorem se_inP2 [DecidableEq α] [RpF α] {m : Option α} {n : Option (α × α)} (ha : SE K ta σ G H m) (hb : SE K tb σ G H n) : SE K (tOp (rIn K false) ta tb) σ G H (m.bind fun x => n.bind fun y => some (decide (x ∈ [y.1, y.2]))) := se_op (f := fun x y => some (decide (x ∈ [y.1, y.2]))) ha hb ro_inP2
theorem se_inP2p [DecidableEq α] [RpF α] {x : α} {y : α × α} (ha : SE K ta σ G H (some x)) (hb : SE K tb σ G H (some y)) : SE K (tOp (rIn K false) ta tb) σ G H (some (decide (x ∈ [y.1, y.2]))) := se_opp (f := fun x y => some (decide (x ∈ [y.1, y.2]))) ha hb ro_inP2
theorem ro_notInP2 [DecidableEq α] [RpF α] : RO K (rIn K true) (fun (x : α) (y : α × α) => some (!decide (x ∈ [y.1, y.2]))) := fun {G H v w x y z} s hv ⟨a, x0, x1, e, h, h0, h1⟩ hz Q q => by
  cases (show some _ = some z from hz)
  have rs : Reps K G [x0, x1] [y.1, y.2] := (.cons h0 (.cons h1 .nil))
  exact ⟨a, _, e, .inr (same_tup s h), RpF.flat hv, flats rs, by
    rw [in_reps hv rs]
    exact q _ G H (Ext.refl s) rfl⟩
theorem se_notInP2 [DecidableEq α] [RpF α] {m : Option α} {n : Option (α × α)} (ha : SE K ta σ G H m) (hb : SE K tb σ G H n) : SE K (tOp (rIn K true) ta tb) σ G H (m.bind fun x => n.bind fun y => some (!decide (x ∈ [y.1, y.2]))) := se_op (f := fun x y => some (!decide (x ∈ [y.1, y.2]))) ha hb ro_notInP2
theorem se_notInP2p [DecidableEq α] [RpF α] {x : α} {y : α × α} (ha : SE K ta σ G H (some x)) (hb : SE K tb σ G H (some y)) : SE K (tOp (rIn K true) ta tb) σ G H (some (!decide (x ∈ [y.1, y.2]))) := se_opp (f := fun x y => some (!decide (x ∈ [y.1, y.2]))) ha hb ro_notInP2
theorem ro_inP3 [DecidableEq α] [RpF α] : RO K (rIn K false) (fun (x : α) (y : T3 α α α) => some (decide (x ∈ [y.a, y.b, y.c]))) := fun {G H v w x y z} s hv ⟨a, x0, x1, x2, e, h, h0, h1, h2⟩ hz Q q => by
  cases (show some _ = some z from hz)
  have rs : Reps K G [x0, x1, x2] [y.a, y.b, y.c] := (.cons h0 (.cons h1 (.cons h2 .nil)))
  exact ⟨a, _, e, .inr (same_tup s h), RpF.flat hv, flats rs, by
    rw [in_reps hv rs]
    exact q _ G H (Ext.refl s) rfl⟩
theorem se_inP3 [DecidableEq α] [RpF α] {m : Option α} {n : Option (T3 α α α)} (ha : SE K ta σ G H m) (hb : SE K tb σ G H n) : SE K (tOp (rIn K false) ta tb) σ G H (m.bind fun x => n.bind fun y => some (decide (x ∈ [y.a, y.b, y.c]))) := se_op (f := fun x y => some (decide (x ∈ [y.a, y.b, y.c]))) ha hb ro_inP3
theorem se_inP3p [DecidableEq α] [RpF α] {x : α} {y : T3 α α α} (ha : SE K ta σ G H (some x)) (hb : SE K tb σ G H (some y)) : SE K (tOp (rIn K false) ta tb) σ G H (some (decide (x ∈ [y.a, y.b, y.c]))) := se_opp (f := fun x y => some (decide (x ∈ [y.a, y.b, y.c]))) ha hb ro_inP3
theorem ro_notInP3 [DecidableEq α] [RpF α] : RO K (rIn K true) (fun (x : α) (y : T3 α α α) => some (!decide (x ∈ [y.a, y.b, y.c]))) := fun {G H v w x y z} s hv ⟨a, x0, x1, x2, e, h, h0, h1, h2⟩ hz Q q => by
  cases (show some _ = some z from hz)
  have rs : Reps K G [x0, x1, x2] [y.a, y.b, y.c] := (.cons h0 (.cons h1 (.cons h2 .nil)))
  exact ⟨a, _, e, .inr (same_tup s h), RpF.flat hv, flats rs, by
    rw [in_reps hv rs]
    exact q _ G H (Ext.refl s) rfl⟩
theorem se_notInP3 [DecidableEq α] [RpF α] {m : Option α} {n : Option (T3 α α α)} (ha : SE K ta σ G H m) (hb : SE K tb σ G H n) : SE K (tOp (rIn K true) ta tb) σ G H (m.bind fun x => n.bind fun y => some (!decide (x ∈ [y.a, y.b, y.c]))) := se_op (f := fun x y => some (!decide (x ∈ [y.a, y.b, y.c]))) ha hb ro_notInP3
theorem se_notInP3p [DecidableEq α] [RpF α] {x : α} {y : T3 α α α} (ha : SE K ta σ G H (some x)) (hb : SE K tb σ G H (some y)) : SE K (tOp (rIn K true) ta tb) σ G H (some (!decide (x ∈ [y.a, y.b, y.c]))) := se_opp (f := fun x y => some (!decide (x ∈ [y.a, y.b, y.c]))) ha hb ro_notInP3
theorem ro_inP4 [DecidableEq α] [RpF α] : RO K (rIn K false) (fun (x : α) (y : T4 α α α α) => some (decide (x ∈ [y.a, y.b, y.c, y.d]))) := fun {G H v w x y z} s hv ⟨a, x0, x1, x2, x3, e, h, h0, h1, h2, h3⟩ hz Q q => by
  cases (show some _ = some z from hz)
  have rs : Reps K G [x0, x1, x2, x3] [y.a, y.b, y.c, y.d] := (.cons h0 (.cons h1 (.cons h2 (.cons h3 .nil))))
  exact ⟨a, _, e, .inr (same_tup s h), RpF.flat hv, flats rs, by
    rw [in_reps hv rs]
    exact q _ G H (Ext.refl s) rfl⟩
theorem se_inP4 [DecidableEq α] [RpF α] {m : Option α} {n : Option (T4 α α α α)} (ha : SE K ta σ G H m) (hb : SE K tb σ G H n) : SE K (tOp (rIn K false) ta tb) σ G H (m.bind fun x => n.bind fun y => some (decide (x ∈ [y.a, y.b, y.c, y.d]))) := se_op (f := fun x y => some (decide (x ∈ [y.a, y.b, y.c, y.d]))) ha hb ro_inP4
theorem se_inP4p [DecidableEq α] [RpF α] {x : α} {y : T4 α α α α} (ha : SE K ta σ G H (some x)) (hb : SE K tb σ G H (some y)) : SE K (tOp (rIn K false) ta tb) σ G H (some (decide (x ∈ [y.a, y.b, y.c, y.d]))) := se_opp (f := fun x y => some (decide (x ∈ [y.a, y.b, y.c, y.d]))) ha hb ro_inP4
theorem ro_notInP4 [DecidableEq α] [RpF α] : RO K (rIn K true) (fun (x : α) (y : T4 α α α α) => some (!decide (x ∈ [y.a, y.b, y.c, y.d]))) := fun {G H v w x y z} s hv ⟨a, x0, x1, x2, x3, e, h, h0, h1, h2, h3⟩ hz Q q => by
  cases (show some _ = some z from hz)
  have rs : Reps K G [x0, x1, x2, x3] [y.a, y.b, y.c, y.d] := (.cons h0 (.cons h1 (.cons h2 (.cons h3 .nil))))
  exact ⟨a, _, e, .inr (same_tup s h), RpF.flat hv, flats rs, by
    rw [in_reps hv rs]
    exact q _ G H (Ext.refl s) rfl⟩
theorem se_notInP4 [DecidableEq α] [RpF α] {m : Option α} {n : Option (T4 α α α α)} (ha : SE K ta σ G H m) (hb : SE K tb σ G H n) : SE K (tOp (rIn K true) ta tb) σ G H (m.bind fun x => n.bind fun y => some (!decide (x ∈ [y.a, y.b, y.c, y.d]))) := se_op (f := fun x y => some (!decide (x ∈ [y.a, y.b, y.c, y.d]))) ha hb ro_notInP4
theorem se_notInP4p [DecidableEq α] [RpF α] {x : α} {y : T4 α α α α} (ha : SE K ta σ G H (some x)) (hb : SE K tb σ G H (some y)) : SE K (tOp (rIn K true) ta tb) σ G H (some (!decide (x ∈ [y.a, y.b, y.c, y.d]))) := se_opp (f := fun x y => some (!decide (x ∈ [y.a, y.b, y.c, y.d]))) ha hb ro_notInP4
theorem ro_inP5 [DecidableEq α] [RpF α] : RO K (rIn K false) (fun (x : α) (y : T5 α α α α α) => some (decide (x ∈ [y.a, y.b, y.c, y.d, y.e]))) := fun {G H v w x y z} s hv ⟨a, x0, x1, x2, x3, x4, e, h, h0, h1, h2, h3, h4⟩ hz Q q => by
  cases (show some _ = some z from hz)
  have rs : Reps K G [x0, x1, x2, x3, x4] [y.a, y.b, y.c, y.d, y.e] := (.cons h0 (.cons h1 (.cons h2 (.cons h3 (.cons h4 .nil)))))
  exact ⟨a, _, e, .inr (same_tup s h), RpF.flat hv, flats rs, by
    rw [in_reps hv rs]
    exact q _ G H (Ext.refl s) rfl⟩
theorem se_inP5 [DecidableEq α] [RpF α] {m : Option α} {n : Option (T5 α α α α α)} (ha : SE K ta σ G H m) (hb : SE K tb σ G H n) : SE K (tOp (rIn K false) ta tb) σ G H (m.bind fun x => n.bind fun y => some (decide (x ∈ [y.a, y.b, y.c, y.d, y.e]))) := se_op (f := fun x y => some (decide (x ∈ [y.a, y.b, y.c, y.d, y.e]))) ha hb ro_inP5
theorem se_inP5p [DecidableEq α] [RpF α] {x : α} {y : T5 α α α α α} (ha : SE K ta σ G H (some x)) (hb : SE K tb σ G H (some y)) : SE K (tOp (rIn K false) ta tb) σ G H (some (decide (x ∈ [y.a, y.b, y.c, y.d, y.e]))) := se_opp (f := fun x y => some (decide (x ∈ [y.a, y.b, y.c, y.d, y.e]))) ha hb ro_inP5
theorem ro_notInP5 [DecidableEq α] [RpF α] : RO K (rIn K true) (fun (x : α) (y : T5 α α α α α) => some (!decide (x ∈ [y.a, y.b, y.c, y.d, y.e]))) := fun {G H v w x y z} s hv ⟨a, x0, x1, x2, x3, x4, e, h, h0, h1, h2, h3, h4⟩ hz Q q => by
  cases (show some _ = some z from hz)
  have rs : Reps K G [x0, x1, x2, x3, x4] [y.a, y.b, y.c, y.d, y.e] := (.cons h0 (.cons h1 (.cons h2 (.cons h3 (.cons h4 .nil)))))
  exact ⟨a, _, e, .inr (same_tup s h), RpF.flat hv, flats rs, by
    rw [in_reps hv rs]
    exact q _ G H (Ext.refl s) rfl⟩
theorem se_notInP5 [DecidableEq α] [RpF α] {m : Option α} {n : Option (T5 α α α α α)} (ha : SE K ta σ G H m) (hb : SE K tb σ G H n) : SE K (tOp (rIn K true) ta tb) σ G H (m.bind fun x => n.bind fun y => some (!decide (x ∈ [y.a, y.b, y.c, y.d, y.e]))) := se_op (f := fun x y => some (!decide (x ∈ [y.a, y.b, y.c, y.d, y.e]))) ha hb ro_notInP5
theorem se_notInP5p [DecidableEq α] [RpF α] {x : α} {y : T5 α α α α α} (ha : SE K ta σ G H (some x)) (hb : SE K tb σ G H (some y)) : SE K (tOp (rIn K true) ta tb) σ G H (some (!decide (x ∈ [y.a, y.b, y.c, y.d, y.e]))) := se_opp (f := fun x y => some (!decide (x ∈ [y.a, y.b, y.c, y.d, y.e]))) ha hb ro_notInP5
/-! the kit's rules with the part named -/
section
variable {X : Cx}
theorem pg_tupK {es : List Expr} {k : Nat} {pos : Pos} {t : TGs} {n : Nat} (e : X.K = K) (hc : X.calm = true) (h : PGs X es t) (hn : (assignEach es X.env).length = n := by rfl) (hst : (assignEach es X.env).findIdx? (·.1) = none := by rfl) : PG X (.Tuple es k pos) (gTup K n t) := by
  subst e
  exact pg_tup hc h hn hst
theorem pi_listK {tg l : Expr} {tl : TE} (h : X.K = K) (hl : PE X l tl) : PI X tg l (iList K tl) := by
  subst h
  exact pi_list hl
theorem pi_tupK {tg l : Expr} {tl : TE} (h : X.K = K) (hl : PE X l tl) : PI X tg l (iTup K tl) := by
  subst h
  exact pi_tup hl
theorem pi_zipK {e e2 : Expr} {ta : TA} {p pos tpos : Pos} {elts : List Expr} {kk : Nat} (h : X.K = K) (hg : Gl X "zip") (hm : X.mg "zip" = none) (ha : PA X [e, e2] ta)
    (hs : starEach [e, e2] X.env = (false, eval e X.env) :: starEach [e2] X.env := by rfl) (hpl : (backTo pos (starEach [e2] X.env)).any (·.1) = false := by rfl) :
    PI X (.Tuple elts kk tpos) (.Call (.Name "zip" p) [e, e2] [] pos) (iZip K ta) := by
  subst h
  exact pi_zip hg hm ha hs hpl
theorem ix_listK (h : X.K = K) : IxR X (rIxL K) := h ▸ ix_list
theorem ix_tupK (h : X.K = K) : IxR X (rIxT K) := h ▸ ix_tup
theorem sl_listK (h : X.K = K) : SlR X (rSlL K) := h ▸ sl_list
theorem op_in_seqK (h : X.K = K) : OpR X (compareOp .In) (rIn K false) := h ▸ op_in_seq
theorem op_notIn_seqK (h : X.K = K) : OpR X (compareOp .NotIn) (rIn K true) := h ▸ op_notIn_seq
theorem call_isiK (h : X.K = K) : CallR X (.builtin "isinstance") (rIsi K) := h ▸ call_isi
theorem call_len_seqK (h : X.K = K) : CallR X (.builtin "len") (fun xs H Q => ∃ p ys, xs = [.ref p] ∧ (SqL K H p ys ∨ SqT K H p ys) ∧ Q (.int ys.length) H) := h ▸ call_len_seq
theorem call_list_ofK (h : X.K = K) : CallR X (.type "list") (fun xs H Q => ∃ p ys, xs = [.ref p] ∧ (SqL K H p ys ∨ SqT K H p ys) ∧ ∀ l, H l = none → Q (.ref l) (upd H l (.lst ys))) := h ▸ call_list_of
theorem op_eqDK (h : X.K = K) (hu : X.A.units + 64 < cLine) : OpR X (compareOp .Eq) (rEqD K) := h ▸ op_eqD hu
theorem op_neDK (h : X.K = K) (hu : X.A.units + 64 < cLine) : OpR X (compareOp .NotEq) (rNeD K) := h ▸ op_neD hu
theorem cr_sumK (h : X.K = K) (hc : X.calm = true) : CallR X (.builtin "sum") (rSum K) := h ▸ cr_sum hc
theorem cr_maxK (h : X.K = K) (hc : X.calm = true) : CallR X (.builtin "max") (rMax K) := h ▸ cr_max hc
theorem cr_minK' (h : X.K = K) (hc : X.calm = true) : CallR X (.builtin "min") (rMin K) := h ▸ cr_min hc
theorem cr_anyK (h : X.K = K) (hc : X.calm = true) : CallR X (.builtin "any") (rAny K) := h ▸ cr_any hc
theorem cr_allK (h : X.K = K) (hc : X.calm = true) : CallR X (.builtin "all") (rAll K) := h ▸ cr_all hc
theorem cr_sortedIK (h : X.K = K) : CallR X (.builtin "sorted") (rSortedI K) := h ▸ cr_sortedI
end

end
end Mi

/-! MiD: dicts with whole numbers as keys. -/
namespace Mi
open PySem L2
open Rp (rep)
abbrev RepsD {β : Type} [Rp β] (K : PySem.W.Frag) (G : Hp) : List (Key × V) → List (Int × β) → Prop := Paired fun p q => p.1 = Sum.inl q.1 ∧ rep K G p.2 q.2
section
variable {β : Type} [Rp β] {K : PySem.W.Frag} {G G' : Hp} {ks : List (Key × V)} {l : List (Int × β)} {k : Int} {v : V} {x : β}
theorem repsD_mono (s : Same G G') : ∀ {ks : List (Key × V)} {l : List (Int × β)}, RepsD K G ks l → RepsD K G' ks l
  | _, _, .nil => .nil
  | _, _, .cons h r => .cons ⟨h.1, Rp.mono s h.2⟩ (repsD_mono s r)
theorem repsD_len (h : RepsD K G ks l) : ks.length = l.length := Paired.length h
theorem inl_dec (a b : Int) : decide ((Sum.inl a : Key) = Sum.inl b) = decide (a = b) := decide_eq_decide.mpr ⟨fun e => by injection e, fun e => by rw [e]⟩
theorem repsD_find : ∀ {ks : List (Key × V)} {l : List (Int × β)}, RepsD K G ks l → (dfind l k = none → valV ks (Sum.inl k) = none) ∧ ∀ x, dfind l k = some x → ∃ v, valV ks (Sum.inl k) = some v ∧ rep K G v x
  | _, _, .nil => ⟨fun _ => rfl, fun x h => by cases h⟩
  | (a, v) :: ks, (b, y) :: l, .cons ⟨h1, h2⟩ r => by
    have ih := repsD_find r
    simp only at h1 h2
    subst h1
    by_cases e : b = k
    · subst e
      rw [valV_pos (p := (Sum.inl b, v)) rfl]
      have ef : dfind ((b, y) :: l) b = some y := by simp [dfind]
      rw [ef]
      refine ⟨fun h => (nomatch h), fun x h => ?_⟩
      cases h
      exact ⟨v, rfl, h2⟩
    · have en : ¬ (Sum.inl b : Key) = Sum.inl k := fun h => e (by injection h)
      rw [valV_neg (p := (Sum.inl b, v)) en]
      have ef : dfind ((b, y) :: l) k = dfind l k := by simp [dfind, List.find?_cons, e]
      rw [ef]
      exact ih
theorem repsD_any : ∀ {ks : List (Key × V)} {l : List (Int × β)}, RepsD K G ks l → (ks.any fun kv => decide (kv.1 = (Sum.inl k : Key))) = l.any fun x => decide (x.1 = k)
  | _, _, .nil => rfl
  | (a, v) :: ks, (b, y) :: l, .cons ⟨h1, h2⟩ r => by
    have ih := repsD_any r
    simp only at h1
    subst h1
    rw [List.any_cons, List.any_cons, ih, inl_dec]
theorem repsD_map (hx : rep K G v x) : ∀ {ks : List (Key × V)} {l : List (Int × β)}, RepsD K G ks l → RepsD K G (ks.map fun kv => if kv.1 = (Sum.inl k : Key) then (kv.1, v) else kv) (l.map fun z => if z.1 = k then (z.1, x) else z)
  | _, _, .nil => .nil
  | (a, w) :: ks, (b, y) :: l, .cons ⟨h1, h2⟩ r => by
    have ih := repsD_map hx r
    simp only at h1 h2
    subst h1
    rw [List.map_cons, List.map_cons]
    refine .cons ?_ ih
    by_cases e : b = k
    · subst e
      rw [if_pos rfl, if_pos rfl]
      exact ⟨rfl, hx⟩
    · have en : ¬ (Sum.inl b : Key) = Sum.inl k := fun h => e (by injection h)
      rw [if_neg en, if_neg e]
      exact ⟨rfl, h2⟩
theorem repsD_put (h : RepsD K G ks l) (hx : rep K G v x) : RepsD K G (putK ks (Sum.inl k) v) (dput l k x) := by
  unfold putK dput
  rw [repsD_any h]
  split
  · exact repsD_map hx h
  · exact Paired.snoc h ⟨rfl, hx⟩
theorem repsD_keys : ∀ {ks : List (Key × V)} {l : List (Int × β)}, RepsD K G ks l → ks.map (·.1) = (l.map (·.1)).map Sum.inl
  | _, _, .nil => rfl
  | _, _, .cons h r => by
    rw [List.map_cons, List.map_cons, List.map_cons, repsD_keys r, h.1]
end
instance {β : Type} [Rp β] : Rp (DI β) := ⟨fun K G v d => ∃ a ks, v = .ref a ∧ G a = some (.dK ks) ∧ RepsD K G ks d.l,
  fun s ⟨a, ks, e, h, r⟩ => ⟨a, ks, e, s _ _ h, repsD_mono s r⟩⟩
/-- a dict of one's own -/
structure OwnD {β : Type} [Rp β] (K : PySem.W.Frag) (H0 G H : Hp) (p : Addr) (d : DI β) : Prop where
  z : H0 p = none
  g : G p = none
  h : ∃ ks, H p = some (.dK ks) ∧ RepsD K G ks d.l
section
variable {α β γ δ ρ S R : Type} [Rp α] [Rp β] [Rp γ] [Rp δ]
variable {K : PySem.W.Frag} {σ : St} {G0 H0 G H G1 H1 Gs : Hp} {ta tb te tl td ty tv tx : TE} {tc tt : TT} {t u : TS} {ma : Option α} {mb : Option β} {i j l : Nat} {v : V} {d : DI β} {D : Ends} {out : ρ} {A B : Option ρ} {p q : Addr}
theorem OwnD.ne (x : OwnD K H0 G H p d) : H p ≠ none := by
  obtain ⟨vs, h, _⟩ := x.h
  rw [h]
  intro z
  cases z
theorem OwnD.mono (x : OwnD K H0 G H p d) (e : Ext G H G1 H1) : OwnD K H0 G1 H1 p d := by
  obtain ⟨vs, h, r⟩ := x.h
  exact ⟨x.z, (e.a p x.ne).trans x.g, vs, e.h _ _ h, repsD_mono e.g r⟩
theorem OwnD.off {o : HO} (x : OwnD K H0 G H p d) (n : p ≠ q) : OwnD K H0 G (upd H q o) p d := by
  obtain ⟨vs, h, r⟩ := x.h
  exact ⟨x.z, x.g, vs, by rw [upd_ne n]; exact h, r⟩
theorem OwnD.off2 {o : HO} (x : OwnD K H0 G H p d) (n : p ≠ q) (gq : G q = none) : OwnD K H0 (upd G q o) H p d := by
  obtain ⟨vs, h, r⟩ := x.h
  exact ⟨x.z, by rw [upd_ne n]; exact x.g, vs, h, repsD_mono (same_new gq) r⟩
theorem OwnD.ne2 (x : OwnD K H0 G H p d) (n : H q = none) : p ≠ q := fun e => x.ne (e ▸ n)
theorem OwnD.up (x : OwnD K H G1 H1 p d) (s : Same H0 H) : OwnD K H0 G1 H1 p d := ⟨s.free x.z, x.g, x.h⟩
theorem OwnD.show (x : OwnD K H0 G H p d) (e : Ext G0 H0 G H) : ∃ ks, Ext G0 H0 (upd G p (.dK ks)) H ∧ Same G (upd G p (.dK ks)) ∧ rep K (upd G p (.dK ks)) (.ref p) d := by
  obtain ⟨ks, h, r⟩ := x.h
  exact ⟨ks, e.show x.z x.g h, same_new x.g, p, ks, rfl, upd_same, repsD_mono (same_new x.g) r⟩
theorem ext_up {o : HO} (e : Ext G H G1 H1) (hp : H1 p = some o) : Ext (upd G p o) H (upd G1 p o) H1 := by
  refine ⟨fun b u eb => ?_, fun b u eb => ?_, e.h, fun b hb => ?_⟩
  · by_cases h : b = p
    · subst h
      rw [upd_same] at eb ⊢
      exact eb
    · rw [upd_ne h] at eb ⊢
      exact e.g _ _ eb
  · by_cases h : b = p
    · subst h
      rw [upd_same] at eb
      rw [← eb]
      exact hp
    · rw [upd_ne h] at eb
      exact e.s _ _ eb
  · by_cases h : b = p
    · subst h
      rw [upd_same, upd_same]
    · rw [upd_ne h, upd_ne h]
      exact e.a _ hb
theorem sd_tmp [ScV α] (o : OwnD K H0 G H p d) (h : ∀ vs, Same G (upd G p (.dK vs)) → rep K (upd G p (.dK vs)) (.ref p) d → SE K te σ (upd G p (.dK vs)) H ma) : SE K te σ G H ma := fun G1 H1 e r hm Q q => by
  obtain ⟨vs, hp, rs⟩ := o.h
  have o1 := o.mono e
  have s0 := h vs (same_new o.g) ⟨p, vs, rfl, upd_same, repsD_mono (same_new o.g) rs⟩
  refine s0 _ _ (ext_up e (e.h _ _ hp)) r hm _ fun v G2 H2 e2 hv => q v G1 H2 ⟨Same.refl _, ?_, e2.h, fun _ _ => rfl⟩ (ScV.any hv)
  exact ((same_new o1.g).trans e2.g).trans e2.s
theorem stD_tmp {m : Option Bool} (o : OwnD K H0 G H p d) (h : ∀ vs, Same G (upd G p (.dK vs)) → rep K (upd G p (.dK vs)) (.ref p) d → ST tc σ (upd G p (.dK vs)) H m) : ST tc σ G H m := fun G1 H1 e r hm Q q => by
  obtain ⟨vs, hp, rs⟩ := o.h
  have o1 := o.mono e
  have s0 := h vs (same_new o.g) ⟨p, vs, rfl, upd_same, repsD_mono (same_new o.g) rs⟩
  refine s0 _ _ (ext_up e (e.h _ _ hp)) r hm _ fun G2 H2 e2 => q G1 H2 ⟨Same.refl _, ?_, e2.h, fun _ _ => rfl⟩
  exact ((same_new o1.g).trans e2.g).trans e2.s
/-! ### a new dict -/
def FD (K : PySem.W.Frag) (te : TE) (σ : St) (G H : Hp) (m : Option (DI β)) : Prop :=
  ∀ G1 H1, Ext G H G1 H1 → ∀ r, m = some r → ∀ Q : VK, (∀ p G2 H2, Ext G1 H1 G2 H2 → OwnD K H1 G2 H2 p r → Q (.ref p) H2) → te σ H1 Q
theorem FD.se {m : Option (DI β)} (h : FD K te σ G H m) : SE K te σ G H m := fun G1 H1 e r hm Q q =>
  h G1 H1 e r hm Q fun p G2 H2 e2 o => by
    obtain ⟨ks, e3, _, hr⟩ := o.show e2
    exact q _ _ _ e3 hr
theorem fd_new : FD K tDNewK σ G H (some (⟨[]⟩ : DI β)) := fun G1 H1 e r hm Q q => by
  cases hm
  intro p np
  exact q p G1 _ (Ext.own e.s np) ⟨np, e.s.free np, [], upd_same, .nil⟩
/-- the pairs of a display: keys whole numbers, values whose reading makes no object -/
def PE2 (K : PySem.W.Frag) (trs : List (TE × TE)) (σ : St) (G : Hp) (kvs : List (Key × V)) (n : Nat) : Prop :=
  ∀ (H : Hp) (Q : List (V × V) → Hp → Prop), Q (kvs.map fun kv => (kV kv.1, kv.2)) H → tPairs trs σ H Q
theorem pe2_nil : PE2 K [] σ G [] 0 := fun H Q q => q
theorem pe2_cons {k : Int} {w : V} {trs : List (TE × TE)} {kvs : List (Key × V)} {n : Nat} (h : PE2 K trs σ G kvs n) : PE2 K ((tC (V.int k), tC w) :: trs) σ G ((Sum.inl k, w) :: kvs) (n + 1) := fun H Q q => h H _ q
theorem merge_reps {more : List (Key × V)} {xs : List (Int × β)} (h : RepsD K G more xs) : ∀ {kvs : List (Key × V)} {l : List (Int × β)}, RepsD K G kvs l → RepsD K G (mergeK kvs more) (dput2 l xs) := by
  induction h with
  | nil => exact fun h => h
  | @cons a b l1 l2 h r ih =>
    intro kvs l hl
    obtain ⟨a1, a2⟩ := a
    obtain ⟨h1, h2⟩ := h
    simp only at h1 h2
    subst h1
    exact ih (repsD_put hl h2)
theorem fd_disp {trs : List (TE × TE)} {kvs : List (Key × V)} {n : Nat} {xs : List (Int × β)} (h : PE2 K trs σ G kvs n) (hx : ∀ G, RepsD K G kvs xs) (hn : kvs.length ≤ 15 := by decide) : FD K (tDisp trs) σ G H (some (dmk xs)) := fun G1 H1 e r hm Q q => by
  cases hm
  intro p np
  refine h _ _ ⟨upd_same, kvs, rfl, hn, ?_⟩
  have := q p G1 _ (Ext.own (o := .dK (mergeK [] kvs)) e.s np) ⟨np, e.s.free np, _, upd_same, merge_reps (hx G1) .nil⟩
  rwa [show upd (upd H1 p (.dK [])) p (.dK (mergeK [] kvs)) = upd H1 p (.dK (mergeK [] kvs)) from upd_upd ..]
theorem st_setD {m : Option (DI β)} {k : DI β → Option ρ} (hs : Same G H) (se : FD K te σ G H m) (hm : m.bind k = some out) (kont : ∀ x p G1 H1, Ext G H G1 H1 → OwnD K H G1 H1 p x → k x = some out → D.nx (σ.set i (some (.ref p))) H1) : tAsg te (gName i) D σ H := by
  obtain ⟨x, hx, hk⟩ := bind_some hm
  exact se G H (Ext.refl hs) x hx _ fun p G1 H1 e o => kont x p G1 H1 e o hk
/-! ### readings -/
theorem ro_dget {m : Option (DI β)} {n : Option Int} (hd : SE K td σ G H m) (hk : SE K ty σ G H n) : SE K (tDGet td ty) σ G H (m.bind fun x => n.bind fun y => dgetO x y) := fun G1 H1 e r hm Q q => by
  obtain ⟨d, hd1, hm⟩ := bind_some hm
  obtain ⟨k, hk1, hm⟩ := bind_some hm
  refine hd G1 H1 e d hd1 _ fun v G2 H2 e2 hv => ?_
  refine hk G2 H2 (e.trans e2) k hk1 _ fun w G3 H3 e3 hw => ?_
  obtain ⟨a, ks, ea, h, rs⟩ := (Rp.mono e3.g hv : rep K G3 v d)
  obtain ⟨u, hu, ru⟩ := (repsD_find rs).2 r hm
  refine ⟨a, u, ea, ?_, q u G3 H3 (e2.trans e3) ru⟩
  rw [← hu, show w = kV (Sum.inl k) from hw]
  exact DGet.k (e3.s _ _ h)
theorem se_dget {m : Option (DI β)} {n : Option Int} (hd : SE K td σ G H m) (hk : SE K ty σ G H n) : SE K (tDGet td ty) σ G H (m.bind fun x => n.bind fun y => dgetO x y) := ro_dget hd hk
theorem se_dgetp {x : DI β} {y : Int} (hd : SE K td σ G H (some x)) (hk : SE K ty σ G H (some y)) : SE K (tDGet td ty) σ G H (dgetO x y) := ro_dget hd hk
theorem isSome_find {ks : List (Key × V)} {l : List (Int × β)} {k : Int} (rs : RepsD K G ks l) : (valV ks (Sum.inl k)).isSome = (dfind l k).isSome := by
  have := repsD_find (k := k) rs
  cases h : dfind l k with
  | none => rw [this.1 h]; rfl
  | some x =>
    obtain ⟨v, hv, _⟩ := this.2 x h
    rw [hv]
    rfl
theorem se_din {m : Option (DI β)} {n : Option Int} (hk : SE K ty σ G H n) (hd : SE K td σ G H m) : SE K (tDIn ty td) σ G H (n.bind fun y => m.bind fun x => some (dhas x y)) := fun G1 H1 e r hm Q q => by
  obtain ⟨k, hk1, hm⟩ := bind_some hm
  obtain ⟨d, hd1, hm⟩ := bind_some hm
  cases hm
  refine hk G1 H1 e k hk1 _ fun w G2 H2 e2 hw => ?_
  refine hd G2 H2 (e.trans e2) d hd1 _ fun v G3 H3 e3 ⟨a, ks, ea, h, rs⟩ => ?_
  refine ⟨a, valV ks (Sum.inl k), ea, ?_, ?_⟩
  · rw [show w = kV (Sum.inl k) from hw]
    exact DGet.k (e3.s _ _ h)
  · rw [isSome_find rs]
    exact q _ G3 H3 (e2.trans e3) rfl
theorem se_dinp {x : DI β} {y : Int} (hk : SE K ty σ G H (some y)) (hd : SE K td σ G H (some x)) : SE K (tDIn ty td) σ G H (some (dhas x y)) := se_din hk hd
theorem se_dnotin {m : Option (DI β)} {n : Option Int} (hk : SE K ty σ G H n) (hd : SE K td σ G H m) : SE K (tDNotIn ty td) σ G H (n.bind fun y => m.bind fun x => some (!dhas x y)) := fun G1 H1 e r hm Q q => by
  obtain ⟨k, hk1, hm⟩ := bind_some hm
  obtain ⟨d, hd1, hm⟩ := bind_some hm
  cases hm
  refine hk G1 H1 e k hk1 _ fun w G2 H2 e2 hw => ?_
  refine hd G2 H2 (e.trans e2) d hd1 _ fun v G3 H3 e3 ⟨a, ks, ea, h, rs⟩ => ?_
  refine ⟨a, valV ks (Sum.inl k), ea, ?_, ?_⟩
  · rw [show w = kV (Sum.inl k) from hw]
    exact DGet.k (e3.s _ _ h)
  · rw [isSome_find rs]
    exact q _ G3 H3 (e2.trans e3) rfl
theorem se_dnotinp {x : DI β} {y : Int} (hk : SE K ty σ G H (some y)) (hd : SE K td σ G H (some x)) : SE K (tDNotIn ty td) σ G H (some (!dhas x y)) := se_dnotin hk hd
theorem se_dgetD {m : Option (DI β)} {n : Option Int} {o : Option β} (hd : SE K td σ G H m) (hk : SE K ty σ G H n) (hx : SE K tx σ G H o) : SE K (tDGet2 td ty tx) σ G H (m.bind fun x => n.bind fun y => o.bind fun z => some (dgetD x y z)) := fun G1 H1 e r hm Q q => by
  obtain ⟨d, hd1, hm⟩ := bind_some hm
  obtain ⟨k, hk1, hm⟩ := bind_some hm
  obtain ⟨x, hx1, hm⟩ := bind_some hm
  cases hm
  refine hd G1 H1 e d hd1 _ fun v G2 H2 e2 hv => ?_
  obtain ⟨a, ks, ea, h, rs⟩ := id hv
  refine ⟨a, ea, Or.inl ⟨ks, Rd.of (e2.s _ _ h)⟩, ?_⟩
  refine hk G2 H2 (e.trans e2) k hk1 _ fun w G3 H3 e3 hw => ?_
  refine hx G3 H3 ((e.trans e2).trans e3) x hx1 _ fun z G4 H4 e4 hz => ?_
  have h4 : H4 a = some (.dK ks) := e4.s _ _ (e4.g _ _ (e3.g _ _ h))
  refine ⟨valV ks (Sum.inl k), ?_, ?_⟩
  · rw [show w = kV (Sum.inl k) from hw]
    exact DGet.k h4
  · refine q _ G4 H4 ((e2.trans e3).trans e4) ?_
    have hf := repsD_find (k := k) rs
    unfold dgetD
    cases hc : dfind d.l k with
    | none => rw [hf.1 hc]; exact hz
    | some y =>
      obtain ⟨u, hu, ru⟩ := hf.2 y hc
      rw [hu]
      exact Rp.mono e4.g (Rp.mono e3.g ru)
theorem se_dgetDp {x : DI β} {y : Int} {z : β} (hd : SE K td σ G H (some x)) (hk : SE K ty σ G H (some y)) (hx : SE K tx σ G H (some z)) : SE K (tDGet2 td ty tx) σ G H (some (dgetD x y z)) := se_dgetD hd hk hx
/-- sorted(d) -/
def rSortedD : List V → Hp → VK → Prop := fun xs H Q => ∃ (a : Addr) (kvs : List (Key × V)) (ks : List Int), xs = [.ref a] ∧ Rd H a (.dK kvs) ∧ kvs.map (·.1) = ks.map Sum.inl ∧ ks.length < 64 ∧
    ∀ (ys : List Int) (p : Addr), ys.Perm ks → ys.Pairwise (· ≤ ·) → H p = none → Q (.ref p) (upd H p (.lst (ys.map V.int)))
theorem cr_sortedD {X : Cx} (hc : X.calm = true) : CallR X (.builtin "sorted") rSortedD := call_sortedDI hc
theorem fe_sortedD {m : Option (DI β)} (h : SE K td σ G H m) : FE K (tCB rSortedD (tCons td tNil)) σ G H (m.bind fun d => dsortO d) := fun G1 H1 e r hm Q q => by
  obtain ⟨d, hd1, hm⟩ := bind_some hm
  unfold dsortO at hm
  split at hm
  · rename_i hl
    cases hm
    refine h G1 H1 e d hd1 _ fun v G2 H2 e2 ⟨a, ks, ea, hg, rs⟩ => ?_
    refine ⟨a, ks, d.l.map (·.1), by rw [ea], Rd.of (e2.s _ _ hg), repsD_keys rs, by rw [List.length_map]; exact hl, fun ys p hp hs np => ?_⟩
    have ey : ys = sortI (d.l.map (·.1)) := sorted_one (hp.trans (sortI_perm _).symm) hs (sortI_sorted _)
    subst ey
    refine q p G2 _ (e2.trans (Ext.own e2.s np)) ⟨e2.h.free np, e2.s.free np, _, upd_same, ?_, reps_ints _⟩
    rw [List.length_map, (sortI_perm _).length_eq, List.length_map]
    exact Nat.le_trans (Nat.le_of_lt hl) (by decide)
  · cases hm
theorem fe_sortedDp {d : DI β} (h : SE K td σ G H (some d)) : FE K (tCB rSortedD (tCons td tNil)) σ G H (dsortO d) := fe_sortedD h
/-! ### d[k] = v -/
theorem st_dput {n : Option Int} {k : DI β → Option ρ} (hs : Same G H) (hv : σ[i]? = some (some (.ref p))) (o : OwnD K H0 G H p d) (se : SE K tv σ G H mb) (sk : SE K ty σ G H n) (hm : (mb.bind fun x => n.bind fun j => (dputO d j x).bind k) = some out)
    (kont : ∀ es h G1 H1, Ext G H G1 H1 → OwnD K H0 G1 (upd H1 p h) p es → G1 p = none → k es = some out → D.nx σ (upd H1 p h)) : sDPut (tVar i) ty tv D σ H := by
  obtain ⟨x, hx, hm⟩ := bind_some hm
  obtain ⟨j, hj, hm⟩ := bind_some hm
  obtain ⟨es, he, hm⟩ := bind_some hm
  unfold dputO at he
  split at he
  · rename_i hl
    cases he
    refine se G H (Ext.refl hs) x hx _ fun v G1 H1 e1 hv1 => ?_
    refine ⟨.ref p, hv, ?_⟩
    refine sk G1 H1 e1 j hj _ fun w G2 H2 e2 hw => ?_
    have o2 := (o.mono e1).mono e2
    obtain ⟨ks, hp, rs⟩ := o2.h
    refine ⟨p, upd H2 p (.dK (putK ks (Sum.inl j) v)), rfl, ?_, ?_⟩
    · rw [show w = kV (Sum.inl j) from hw]
      exact DPut.k hp (by rw [repsD_len rs]; exact Nat.lt_of_lt_of_le hl (by decide))
    · exact kont _ _ G2 H2 (e1.trans e2) ⟨o2.z, o2.g, _, upd_same, repsD_put rs (Rp.mono e2.g hv1)⟩ o2.g hm
  · cases he
theorem hu1 {n : Nat} (h : n + 64 < cLine) : n + 1 < cLine := by omega
end
/-! ### a value of one of two kinds -/
instance {α β : Type} [Rp α] [Rp β] : Rp (Sum α β) := ⟨fun K G v d => match d with
  | .inl x => rep K G v x
  | .inr x => rep K G v x, fun {_ _ _ _ d} s h => by
  cases d with
  | inl x => exact Rp.mono s h
  | inr x => exact Rp.mono s h⟩
class RpDX (α β : Type) [Rp α] [DecidableEq α] [RpD α] [Rp β] [DecidableEq β] [RpD β] : Prop where
  l : ∀ (x : α) (y : β), PyData.eqv (RpD.py x) (RpD.py y) = false
  r : ∀ (x : α) (y : β), PyData.eqv (RpD.py y) (RpD.py x) = false
instance {α β : Type} [Rp α] [DecidableEq α] [RpD α] [Rp β] [DecidableEq β] [RpD β] : RpDX Int (α × β) := ⟨fun _ _ => rfl, fun _ _ => rfl⟩
instance {α β : Type} [Rp α] [DecidableEq α] [RpD α] [Rp β] [DecidableEq β] [RpD β] : RpDX Bool (α × β) := ⟨fun _ _ => rfl, fun _ _ => rfl⟩
instance {α β : Type} [Rp α] [DecidableEq α] [RpD α] [Rp β] [DecidableEq β] [RpD β] [RpDX α β] : RpD (Sum α β) := ⟨fun d => match d with
  | .inl x => RpD.py x
  | .inr x => RpD.py x, fun {_ _ _ _ d} s h => by
    cases d with
    | inl x => exact RpD.dp s h
    | inr x => exact RpD.dp s h, fun x y => by
    cases x with
    | inl x =>
      cases y with
      | inl y =>
        show PyData.eqv (RpD.py x) (RpD.py y) = _
        rw [RpD.eqv, Bool.eq_iff_iff]
        simp
      | inr y =>
        show PyData.eqv (RpD.py x) (RpD.py y) = _
        rw [RpDX.l, eq_comm, decide_eq_false_iff_not]
        exact fun h => nomatch h
    | inr x =>
      cases y with
      | inl y =>
        show PyData.eqv (RpD.py x) (RpD.py y) = _
        rw [RpDX.r, eq_comm, decide_eq_false_iff_not]
        exact fun h => nomatch h
      | inr y =>
        show PyData.eqv (RpD.py x) (RpD.py y) = _
        rw [RpD.eqv, Bool.eq_iff_iff]
        simp, fun d => by
    cases d with
    | inl x => exact RpD.lay x
    | inr x => exact RpD.lay x, max (RpD.dep α) (RpD.dep β), fun d => by
    cases d with
    | inl x => exact Nat.le_trans (RpD.depth x) (Nat.le_max_left _ _)
    | inr x => exact Nat.le_trans (RpD.depth x) (Nat.le_max_right _ _)⟩
instance {α β : Type} [Rp α] [DecidableEq α] [RpD α] [Rp β] [DecidableEq β] [RpD β] [RpDX α β] [RpDN α] [RpDN β] : RpDN (Sum α β) := ⟨fun d => by
  cases d with
  | inl x => exact RpDN.l x
  | inr x => exact RpDN.l x, fun d => by
  cases d with
  | inl x => exact RpDN.r x
  | inr x => exact RpDN.r x⟩
section
variable {α β γ : Type} [Rp α] [Rp β] [Rp γ]
variable {K : PySem.W.Frag} {σ : St} {G H : Hp} {te tl : TE} {ta : TA}
theorem se_inl {m : Option α} (h : SE K te σ G H m) : SE K te σ G H (m.bind fun x => some (Sum.inl x : Sum α β)) := fun G1 H1 e r hm Q q => by
  obtain ⟨x, hx, hm⟩ := bind_some hm
  cases hm
  exact h G1 H1 e x hx Q fun v G2 H2 e2 hv => q v G2 H2 e2 hv
theorem se_inlp {x : α} (h : SE K te σ G H (some x)) : SE K te σ G H (some (Sum.inl x : Sum α β)) := se_inl h
theorem se_inr {m : Option β} (h : SE K te σ G H m) : SE K te σ G H (m.bind fun x => some (Sum.inr x : Sum α β)) := fun G1 H1 e r hm Q q => by
  obtain ⟨x, hx, hm⟩ := bind_some hm
  cases hm
  exact h G1 H1 e x hx Q fun v G2 H2 e2 hv => q v G2 H2 e2 hv
theorem se_inrp {x : β} (h : SE K te σ G H (some x)) : SE K te σ G H (some (Sum.inr x : Sum α β)) := se_inr h
theorem se_outL {m : Option (Sum α β)} (h : SE K te σ G H m) : SE K te σ G H (m.bind outL) := fun G1 H1 e r hm Q q => by
  obtain ⟨x, hx, hm⟩ := bind_some hm
  cases x with
  | inl x =>
    cases hm
    exact h G1 H1 e _ hx Q fun v G2 H2 e2 hv => q v G2 H2 e2 hv
  | inr x => cases hm
theorem se_outLp {x : Sum α β} (h : SE K te σ G H (some x)) : SE K te σ G H (outL x) := se_outL h
theorem se_outR {m : Option (Sum α β)} (h : SE K te σ G H m) : SE K te σ G H (m.bind outR) := fun G1 H1 e r hm Q q => by
  obtain ⟨x, hx, hm⟩ := bind_some hm
  cases x with
  | inl x => cases hm
  | inr x =>
    cases hm
    exact h G1 H1 e _ hx Q fun v G2 H2 e2 hv => q v G2 H2 e2 hv
theorem se_outRp {x : Sum α β} (h : SE K te σ G H (some x)) : SE K te σ G H (outR x) := se_outR h
theorem se_isiS [RpTy α] [RpTy β] {T : String} {a b : Bool} {m : Option (Sum α β)} (h : SE K te σ G H m) (ha : kitB (RpTy.ty α) T = some a) (hb : kitB (RpTy.ty β) T = some b) : SE K (tCB (rIsi K) (tCons te (tCons (tC (.ty T)) tNil))) σ G H (m.bind fun o => some (sumB a b o)) := fun G1 H1 e z hm Q q => by
  obtain ⟨o, ho, hm⟩ := bind_some hm
  cases hm
  refine h G1 H1 e o ho _ fun v G2 H2 e2 hv => ?_
  cases o with
  | inl x => exact ⟨v, .ty T, _, _, a, rfl, .ty T, RpTy.tyX e2.s (show rep K G2 v x from hv), kit_ty ha, q _ G2 H2 e2 rfl⟩
  | inr x => exact ⟨v, .ty T, _, _, b, rfl, .ty T, RpTy.tyX e2.s (show rep K G2 v x from hv), kit_ty hb, q _ G2 H2 e2 rfl⟩
theorem se_isiSp [RpTy α] [RpTy β] {T : String} {a b : Bool} {x : Sum α β} (h : SE K te σ G H (some x)) (ha : kitB (RpTy.ty α) T = some a) (hb : kitB (RpTy.ty β) T = some b) : SE K (tCB (rIsi K) (tCons te (tCons (tC (.ty T)) tNil))) σ G H (some (sumB a b x)) := se_isiS h ha hb
end
/-! ### a written tuple of one kind as a tuple of many -/
section
variable {α : Type} [Rp α]
variable {K : PySem.W.Frag} {σ : St} {G H : Hp} {te : TE}
theorem se_tl2 {m : Option (α × α)} (h : SE K te σ G H m) : SE K te σ G H (m.bind fun p => some (⟨[p.1, p.2]⟩ : TL α)) := fun G1 H1 e r hm Q q => by
  obtain ⟨p, hp, hm⟩ := bind_some hm
  cases hm
  refine h G1 H1 e p hp Q fun v G2 H2 e2 ⟨a, x0, x1, e, h, h0, h1⟩ => q v G2 H2 e2 ⟨a, _, e, h, ?_, (.cons h0 (.cons h1 .nil))⟩
  show 2 ≤ sizeLine
  decide
theorem se_tl2p {p : α × α} (h : SE K te σ G H (some p)) : SE K te σ G H (some (⟨[p.1, p.2]⟩ : TL α)) := se_tl2 h
theorem se_tl3 {m : Option (T3 α α α)} (h : SE K te σ G H m) : SE K te σ G H (m.bind fun p => some (⟨[p.a, p.b, p.c]⟩ : TL α)) := fun G1 H1 e r hm Q q => by
  obtain ⟨p, hp, hm⟩ := bind_some hm
  cases hm
  refine h G1 H1 e p hp Q fun v G2 H2 e2 ⟨a, x0, x1, x2, e, h, h0, h1, h2⟩ => q v G2 H2 e2 ⟨a, _, e, h, ?_, (.cons h0 (.cons h1 (.cons h2 .nil)))⟩
  show 3 ≤ sizeLine
  decide
theorem se_tl3p {p : T3 α α α} (h : SE K te σ G H (some p)) : SE K te σ G H (some (⟨[p.a, p.b, p.c]⟩ : TL α)) := se_tl3 h
theorem se_tl4 {m : Option (T4 α α α α)} (h : SE K te σ G H m) : SE K te σ G H (m.bind fun p => some (⟨[p.a, p.b, p.c, p.d]⟩ : TL α)) := fun G1 H1 e r hm Q q => by
  obtain ⟨p, hp, hm⟩ := bind_some hm
  cases hm
  refine h G1 H1 e p hp Q fun v G2 H2 e2 ⟨a, x0, x1, x2, x3, e, h, h0, h1, h2, h3⟩ => q v G2 H2 e2 ⟨a, _, e, h, ?_, (.cons h0 (.cons h1 (.cons h2 (.cons h3 .nil))))⟩
  show 4 ≤ sizeLine
  decide
theorem se_tl4p {p : T4 α α α α} (h : SE K te σ G H (some p)) : SE K te σ G H (some (⟨[p.a, p.b, p.c, p.d]⟩ : TL α)) := se_tl4 h
theorem se_tl5 {m : Option (T5 α α α α α)} (h : SE K te σ G H m) : SE K te σ G H (m.bind fun p => some (⟨[p.a, p.b, p.c, p.d, p.e]⟩ : TL α)) := fun G1 H1 e r hm Q q => by
  obtain ⟨p, hp, hm⟩ := bind_some hm
  cases hm
  refine h G1 H1 e p hp Q fun v G2 H2 e2 ⟨a, x0, x1, x2, x3, x4, e, h, h0, h1, h2, h3, h4⟩ => q v G2 H2 e2 ⟨a, _, e, h, ?_, (.cons h0 (.cons h1 (.cons h2 (.cons h3 (.cons h4 .nil)))))⟩
  show 5 ≤ sizeLine
  decide
theorem se_tl5p {p : T5 α α α α α} (h : SE K te σ G H (some p)) : SE K te σ G H (some (⟨[p.a, p.b, p.c, p.d, p.e]⟩ : TL α)) := se_tl5 h
end
/-! ### is True, is False -/
section
variable {K : PySem.W.Frag} {σ : St} {G H : Hp} {te : TE}
theorem se_isB {b : Bool} {m : Option Bool} (h : SE K te σ G H m) : SE K (tOp rIsB te (tC (.bl b))) σ G H (m.bind fun x => some (decide (x = b))) := fun G1 H1 e r hm Q q => by
  obtain ⟨x, hx, hm⟩ := bind_some hm
  cases hm
  exact h G1 H1 e x hx _ fun v G2 H2 e2 hv => ⟨x, b, hv, rfl, q _ G2 H2 e2 rfl⟩
theorem se_isBp {b x : Bool} (h : SE K te σ G H (some x)) : SE K (tOp rIsB te (tC (.bl b))) σ G H (some (decide (x = b))) := se_isB h
theorem se_isNotB {b : Bool} {m : Option Bool} (h : SE K te σ G H m) : SE K (tOp rNotB te (tC (.bl b))) σ G H (m.bind fun x => some (!decide (x = b))) := fun G1 H1 e r hm Q q => by
  obtain ⟨x, hx, hm⟩ := bind_some hm
  cases hm
  exact h G1 H1 e x hx _ fun v G2 H2 e2 hv => ⟨x, b, hv, rfl, q _ G2 H2 e2 rfl⟩
theorem se_isNotBp {b x : Bool} (h : SE K te σ G H (some x)) : SE K (tOp rNotB te (tC (.bl b))) σ G H (some (!decide (x = b))) := se_isNotB h
end
/-! ### a list of two unlike things -/
instance {α β : Type} [Rp α] [Rp β] : Rp (HL α β) := ⟨fun K G v d => ∃ p x y, v = .ref p ∧ G p = some (.lst [x, y]) ∧ rep K G x d.a ∧ rep K G y d.b,
  fun s ⟨p, x, y, e, h, h1, h2⟩ => ⟨p, x, y, e, s _ _ h, Rp.mono s h1, Rp.mono s h2⟩⟩
theorem eqvL2 {a b c d : PyData} : PyData.eqv (.list [a, b]) (.list [c, d]) = (PyData.eqv a c && PyData.eqv b d) := by
  show (PyData.eqv a c && (PyData.eqv b d && true)) = _
  rw [Bool.and_true]
instance {α β : Type} [Rp α] [DecidableEq α] [RpD α] [Rp β] [DecidableEq β] [RpD β] : RpD (HL α β) := ⟨fun p => .list [RpD.py p.a, RpD.py p.b], fun s ⟨p, x, y, e, h, h1, h2⟩ => by
  rw [e]
  exact .lst (SqL.of (s _ _ h)) (.cons (RpD.dp s h1) (.cons (RpD.dp s h2) .nil)), fun x y => by
  rw [eqvL2, RpD.eqv, RpD.eqv, Bool.eq_iff_iff]
  cases x
  cases y
  simp, fun x => by
  show (PyData.canLay0 (RpD.py x.a) && (PyData.canLay0 (RpD.py x.b) && true)) = true
  rw [RpD.lay, RpD.lay]
  rfl, max (RpD.dep α) (RpD.dep β) + 1, fun x => by
  show max (PyData.depth (RpD.py x.a)) (max (PyData.depth (RpD.py x.b)) 0) + 1 ≤ _
  have h1 := RpD.depth x.a
  have h2 := RpD.depth x.b
  omega⟩
section
variable {α β : Type} [Rp α] [Rp β]
variable {K : PySem.W.Frag} {σ : St} {G H : Hp} {ta tb te : TE}
theorem se_hl {m : Option α} {n : Option β} (ha : SE K ta σ G H m) (hb : SE K tb σ G H n) : SE K (tLst (tCons ta (tCons tb tNil))) σ G H (m.bind fun x => n.bind fun y => some (HL.mk x y)) := fun G1 H1 e r hm Q q => by
  obtain ⟨x, hx, hm⟩ := bind_some hm
  obtain ⟨y, hy, hm⟩ := bind_some hm
  cases hm
  refine ha G1 H1 e x hx _ fun v G2 H2 e2 hv => ?_
  refine hb G2 H2 (e.trans e2) y hy _ fun w G3 H3 e3 hw => ?_
  refine ⟨by show 2 ≤ sizeLine; decide, fun p np => ?_⟩
  have eN : Ext G3 H3 (upd G3 p (.lst [v, w])) (upd H3 p (.lst [v, w])) := Ext.new e3.s np
  exact q _ _ _ ((e2.trans e3).trans eN) ⟨p, v, w, rfl, upd_same, Rp.mono eN.g (Rp.mono e3.g hv), Rp.mono eN.g hw⟩
theorem se_hlp {x : α} {y : β} (ha : SE K ta σ G H (some x)) (hb : SE K tb σ G H (some y)) : SE K (tLst (tCons ta (tCons tb tNil))) σ G H (some (HL.mk x y)) := se_hl ha hb
theorem se_h0 {m : Option (HL α β)} (h : SE K te σ G H m) : SE K (tOp (rIxL K) te (tC (.int 0))) σ G H (m.bind fun p => some p.a) := fun G1 H1 e r hm Q q => by
  obtain ⟨d, hd, hm⟩ := bind_some hm
  cases hm
  refine h G1 H1 e d hd _ fun v G2 H2 e2 ⟨p, x, y, ev, hp, h1, h2⟩ => ?_
  exact ⟨p, [x, y], 0, x, ev, rfl, SqL.of (e2.s _ _ hp), rfl, q x G2 H2 e2 h1⟩
theorem se_h0p {x : HL α β} (h : SE K te σ G H (some x)) : SE K (tOp (rIxL K) te (tC (.int 0))) σ G H (some x.a) := se_h0 h
theorem se_h1 {m : Option (HL α β)} (h : SE K te σ G H m) : SE K (tOp (rIxL K) te (tC (.int 1))) σ G H (m.bind fun p => some p.b) := fun G1 H1 e r hm Q q => by
  obtain ⟨d, hd, hm⟩ := bind_some hm
  cases hm
  refine h G1 H1 e d hd _ fun v G2 H2 e2 ⟨p, x, y, ev, hp, h1, h2⟩ => ?_
  exact ⟨p, [x, y], 1, y, ev, rfl, SqL.of (e2.s _ _ hp), rfl, q y G2 H2 e2 h2⟩
theorem se_h1p {x : HL α β} (h : SE K te σ G H (some x)) : SE K (tOp (rIxL K) te (tC (.int 1))) σ G H (some x.b) := se_h1 h
end
/-! ### enumerate -/
theorem enumL_len {α : Type} : ∀ (k : Int) (xs : List α), (enumL k xs).length = xs.length
  | _, [] => rfl
  | k, x :: r => congrArg (· + 1) (enumL_len (k + 1) r)
theorem enumL_get {α : Type} : ∀ (k : Int) (xs : List α) (i : Nat) (p : Int × α), (enumL k xs)[i]? = some p → p.1 = k + i ∧ xs[i]? = some p.2
  | k, [], i, p, h => by
    rw [show enumL k ([] : List α) = [] from rfl] at h
    simp at h
  | k, x :: r, 0, p, h => by
    have h : some (k, x) = some p := h
    cases h
    exact ⟨by simp, rfl⟩
  | k, x :: r, i + 1, p, h => by
    have := enumL_get (k + 1) r i p h
    exact ⟨by have := this.1; omega, this.2⟩
section
variable {α : Type} [Rp α]
variable {K : PySem.W.Frag} {σ : St} {G H : Hp} {te : TE}
theorem ib_enum {m : Option (List α)} (h : SE K te σ G H m) : IB K (iEnum K (tCons te tNil)) σ G H (m.bind fun xs => some (enumL 0 xs)) := fun G1 H1 e xs hm R q => by
  obtain ⟨ys, hys, hm⟩ := bind_some hm
  cases hm
  refine h G1 H1 e ys hys _ fun v G2 H2 e2 ⟨a, vs, ea, ha, l, rs⟩ => ?_
  refine ⟨a, vs, by rw [ea], SqL.of (e2.s _ _ ha), q _ G2 H2 e2 ⟨fun i G H s1 s2 hi => ⟨vs, SqL.of (s2 _ _ (s1 _ _ ha)), by rw [rs.len, ← enumL_len 0 ys]; exact hi⟩, fun i x G H s1 s2 hi => ?_⟩ (by rw [enumL_len, ← rs.len]; exact l)⟩
  obtain ⟨h1, h2⟩ := enumL_get 0 ys i x hi
  obtain ⟨w, hw1, hw2⟩ := rs.get h2
  have hS := SqL.of (K := K) (s2 _ _ (s1 _ _ ha))
  refine ⟨⟨vs, w, hS, hw1⟩, fun u H' ⟨T, y, eu, hT, eH, hy⟩ => ?_⟩
  subst eu eH
  have ey := hy vs hS
  rw [hw1] at ey
  cases ey
  have eN : Ext G H (upd G T (.tup [.int (i : Nat), w])) (upd H T (.tup [.int (i : Nat), w])) := Ext.new s2 hT
  refine ⟨_, eN, T, _, _, rfl, SqT.of upd_same, ?_, Rp.mono eN.g (Rp.mono s1 hw2)⟩
  show V.int (i : Nat) = V.int x.1
  rw [h1, Int.zero_add]
theorem ib_enump {xs : List α} (h : SE K te σ G H (some xs)) : IB K (iEnum K (tCons te tNil)) σ G H (some (enumL 0 xs)) := ib_enum h
end
theorem pi_enumK {X : Cx} {K : PySem.W.Frag} {e : Expr} {ta : TA} {p pos tpos : Pos} {elts : List Expr} {kk : Nat} (h : X.K = K) (hg : Gl X "enumerate") (hm : X.mg "enumerate" = none) (ha : PA X [e] ta) (hs : starEach [e] X.env = [(false, eval e X.env)] := by rfl) :
    PI X (.Tuple elts kk tpos) (.Call (.Name "enumerate" p) [e] [] pos) (iEnum K ta) := by
  subst h
  exact pi_enum hg hm ha hs
end Mi

/-! MiN: tables of one's own, their rows one's own too. -/
namespace Mi
open PySem L2
open Rp (rep)
/-- an address as a value -/
instance : Rp Nat := ⟨fun _ _ v d => v = .ref d, fun _ h => h⟩
/-- no address in common -/
def DJ (as bs : List Nat) : Prop := ∀ a ∈ as, a ∉ bs
section
variable {as bs : List Nat} {a b : Nat}
theorem DJ.symm (h : DJ as bs) : DJ bs as := fun b hb ha => h b ha hb
theorem DJ.one (h : DJ [a] bs) : a ∉ bs := h a List.mem_cons_self
theorem DJ.ni (h : DJ as [b]) : b ∉ as := h.symm.one
theorem DJ.ne1 (h : DJ as [b]) (ha : a ∈ as) : b ≠ a := fun e => h.ni (e ▸ ha)
theorem DJ.snoc {p : Nat} (h : DJ (p :: as) bs) (n : a ∉ bs) : DJ (p :: (as ++ [a])) bs := fun x hx => by
  rcases List.mem_cons.mp hx with e | hx
  · exact h x (e ▸ List.mem_cons_self)
  · rcases List.mem_append.mp hx with hx | hx
    · exact h x (List.mem_cons_of_mem _ hx)
    · rw [List.mem_singleton.mp hx]
      exact n
theorem DJ.of {H : Hp} (hx : ∀ a ∈ as, H a = none) (hy : ∀ b ∈ bs, H b ≠ none) : DJ as bs := fun a ha hb => hy a hb (hx a ha)
theorem Pmem {α β : Type} {F : α → β → Prop} {x : α} : ∀ {xs : List α} {ys : List β}, Paired F xs ys → x ∈ xs → ∃ y, F x y
  | _, _, .cons r t, h => by
    rcases List.mem_cons.mp h with e | h
    · subst e
      exact ⟨_, r⟩
    · exact Pmem t h
theorem Pmap {α β : Type} {F F' : α → β → Prop} : ∀ {xs : List α} {ys : List β}, Paired F xs ys → (∀ a b, a ∈ xs → F a b → F' a b) → Paired F' xs ys
  | _, _, .nil, _ => .nil
  | _, _, .cons r t, h => .cons (h _ _ List.mem_cons_self r) (Pmap t fun a b ha => h a b (List.mem_cons_of_mem _ ha))
theorem Pcomp {α β γ : Type} {F : α → β → Prop} {F' : β → γ → Prop} {R : α → γ → Prop} : ∀ {xs : List α} {ys : List β} {zs : List γ}, Paired F xs ys → Paired F' ys zs → (∀ a b c, b ∈ ys → F a b → F' b c → R a c) → Paired R xs zs
  | _, _, _, .nil, .nil, _ => .nil
  | _, _, _, .cons r t, .cons r2 t2, h => .cons (h _ _ _ List.mem_cons_self r r2) (Pcomp t t2 fun a b c hb => h a b c (List.mem_cons_of_mem _ hb))
theorem Papp {α β : Type} {F : α → β → Prop} : ∀ {xs xs2 : List α} {ys ys2 : List β}, Paired F xs ys → Paired F xs2 ys2 → Paired F (xs ++ xs2) (ys ++ ys2)
  | _, _, _, _, .nil, h => h
  | _, _, _, _, .cons r t, h => .cons r (Papp t h)
end
section
variable {α β γ ρ : Type} [Rp α] [Rp β] [Rp γ]
variable {K : PySem.W.Frag} {σ : St} {G0 H0 G H G1 H1 G2 H2 : Hp} {ta tb tc te : TE} {tt : TT} {p q : Addr} {as qs : List Nat} {d : List α} {ds : List (List α)} {D : Ends} {i : Nat} {out : ρ} {ma : Option α} {mb : Option β}
/-- the addresses as are shown -/
def shv (as : List Nat) (G H : Hp) : Hp := fun b => if b ∈ as then H b else G b
theorem shv_in (h : q ∈ as) : shv as G H q = H q := if_pos h
theorem shv_out (h : q ∉ as) : shv as G H q = G q := if_neg h
theorem same_shv (hg : ∀ a ∈ as, G a = none) : Same G (shv as G H) := fun b u e => by
  rw [shv_out fun h => by rw [hg b h] at e; cases e]
  exact e
theorem Ext.shv (e : Ext G0 H0 G H) (hz : ∀ a ∈ as, H0 a = none) (hg : ∀ a ∈ as, G a = none) : Ext G0 H0 (shv as G H) H :=
  ⟨e.g.trans (same_shv hg), fun b u h => by
    by_cases hb : b ∈ as
    · rw [shv_in hb] at h
      exact h
    · rw [shv_out hb] at h
      exact e.s _ _ h, e.h, fun b hb => by
    rw [shv_out fun h => hb (hz b h)]
    exact e.a b hb⟩
theorem peek (e : Ext G H G1 H1) (hh : ∀ a ∈ as, H a ≠ none) : Ext (Mi.shv as G H) H (Mi.shv as G1 H1) H1 :=
  ⟨fun b u h => by
    by_cases hb : b ∈ as
    · rw [shv_in hb] at h ⊢
      exact e.h _ _ h
    · rw [shv_out hb] at h ⊢
      exact e.g _ _ h, fun b u h => by
    by_cases hb : b ∈ as
    · rw [shv_in hb] at h
      exact h
    · rw [shv_out hb] at h
      exact e.s _ _ h, e.h, fun b hb => by
    by_cases hb2 : b ∈ as
    · rw [shv_in hb2, shv_in hb2]
      cases hu : H b with
      | none => exact absurd hu hb
      | some u => exact e.h _ _ hu
    · rw [shv_out hb2, shv_out hb2]
      exact e.a b hb⟩
structure Own2 (K : PySem.W.Frag) (H0 G H : Hp) (p : Addr) (qs : List Nat) (ds : List (List α)) : Prop where
  o : Own K H0 G H p qs
  rows : Paired (fun q d => Own K H0 G H q d) qs ds
  nd : (p :: qs).Nodup
theorem Own2.all (x : Own2 K H0 G H p qs ds) : ∀ a ∈ p :: qs, H0 a = none ∧ G a = none ∧ H a ≠ none := fun a ha => by
  rcases List.mem_cons.mp ha with e | ha
  · subst e
    exact ⟨x.o.z, x.o.g, x.o.ne⟩
  · obtain ⟨d, hd⟩ := Pmem x.rows ha
    exact ⟨hd.z, hd.g, hd.ne⟩
theorem Own2.zs (x : Own2 K H0 G H p qs ds) : ∀ a ∈ p :: qs, H0 a = none := fun a ha => (x.all a ha).1
theorem Own2.gs (x : Own2 K H0 G H p qs ds) : ∀ a ∈ p :: qs, G a = none := fun a ha => (x.all a ha).2.1
theorem Own2.nes (x : Own2 K H0 G H p qs ds) : ∀ a ∈ p :: qs, H a ≠ none := fun a ha => (x.all a ha).2.2
theorem Own.zs (x : Own K H0 G H p d) : ∀ a ∈ [p], H0 a = none := fun a ha => by rw [List.mem_singleton.mp ha]; exact x.z
theorem Own.nes (x : Own K H0 G H p d) : ∀ a ∈ [p], H a ≠ none := fun a ha => by rw [List.mem_singleton.mp ha]; exact x.ne
theorem Own2.mono (x : Own2 K H0 G H p qs ds) (e : Ext G H G1 H1) : Own2 K H0 G1 H1 p qs ds := ⟨x.o.mono e, Pmap x.rows fun _ _ _ h => h.mono e, x.nd⟩
theorem Own2.up (x : Own2 K H G1 H1 p qs ds) (s : Same H0 H) : Own2 K H0 G1 H1 p qs ds := ⟨x.o.up s, Pmap x.rows fun _ _ _ h => h.up s, x.nd⟩
theorem Own2.off {o : HO} (x : Own2 K H0 G H p qs ds) (n : q ∉ p :: qs) : Own2 K H0 G (upd H q o) p qs ds :=
  ⟨x.o.off fun e => n (e ▸ List.mem_cons_self), Pmap x.rows fun a _ ha h => h.off fun e => n (e ▸ List.mem_cons_of_mem _ ha), x.nd⟩
theorem Own2.off2 {o : HO} (x : Own2 K H0 G H p qs ds) (n : q ∉ p :: qs) (gq : G q = none) : Own2 K H0 (upd G q o) H p qs ds :=
  ⟨x.o.off2 (fun e => n (e ▸ List.mem_cons_self)) gq, Pmap x.rows fun a _ ha h => h.off2 (fun e => n (e ▸ List.mem_cons_of_mem _ ha)) gq, x.nd⟩
theorem Own.offS (x : Own K H0 G H q d) (n : q ∉ as) (hg : ∀ a ∈ as, G a = none) : Own K H0 (Mi.shv as G H) H q d := by
  obtain ⟨vs, h, l, r⟩ := x.h
  exact ⟨x.z, by rw [shv_out n]; exact x.g, vs, h, l, r.mono (same_shv hg)⟩
theorem Own2.offS (x : Own2 K H0 G H p qs ds) (n : DJ as (p :: qs)) (hg : ∀ a ∈ as, G a = none) : Own2 K H0 (Mi.shv as G H) H p qs ds :=
  ⟨x.o.offS (fun h => n _ h List.mem_cons_self) hg, Pmap x.rows fun a _ ha h => h.offS (fun h2 => n _ h2 (List.mem_cons_of_mem _ ha)) hg, x.nd⟩
theorem Own2.rep (x : Own2 K H0 G H p qs ds) (ha : ∀ a ∈ qs, a ∈ as) (hg : ∀ a ∈ as, G a = none) : ∃ vs, H p = some (.lst vs) ∧ vs.length ≤ sizeLine ∧ Reps K (Mi.shv as G H) vs ds := by
  obtain ⟨vs, h, l, r⟩ := x.o.h
  refine ⟨vs, h, l, Pcomp r x.rows fun v q d hq hv hd => ?_⟩
  obtain ⟨ws, h1, l1, r1⟩ := hd.h
  exact ⟨q, ws, hv, by rw [shv_in (ha q hq)]; exact h1, l1, r1.mono (same_shv hg)⟩
theorem Own2.shown (x : Own2 K H0 G H p qs ds) : Rp.rep K (Mi.shv (p :: qs) G H) (.ref p) ds := by
  obtain ⟨vs, h, l, r⟩ := x.rep (as := p :: qs) (fun a ha => List.mem_cons_of_mem _ ha) x.gs
  exact ⟨p, vs, rfl, by rw [shv_in List.mem_cons_self]; exact h, l, r⟩
/-- it is shown: not changed any more -/
theorem Own2.show (x : Own2 K H0 G H p qs ds) (e : Ext G0 H0 G H) : Ext G0 H0 (Mi.shv (p :: qs) G H) H ∧ Same G (Mi.shv (p :: qs) G H) ∧ Rp.rep K (Mi.shv (p :: qs) G H) (.ref p) ds :=
  ⟨e.shv x.zs x.gs, same_shv x.gs, x.shown⟩
/-- its rows alone are shown -/
theorem Own2.own (x : Own2 K H0 G H p qs ds) : Own K H0 (Mi.shv qs G H) H p ds := by
  obtain ⟨vs, h, l, r⟩ := x.rep (as := qs) (fun a ha => ha) fun a ha => x.gs a (List.mem_cons_of_mem _ ha)
  exact ⟨x.o.z, by rw [shv_out (List.nodup_cons.mp x.nd).1]; exact x.o.g, vs, h, l, r⟩
/-- .. for the time of a reading -/
instance [ScV α] : ScV (Option α) := ⟨fun {_ _ _ _ x} h => by
  cases x with
  | none => exact h
  | some x => exact ⟨ScV.any h.1, h.2⟩⟩
theorem se_tmp2 [ScV β] (o : Own2 K H0 G H p qs ds) (h : Same G (Mi.shv (p :: qs) G H) → Rp.rep K (Mi.shv (p :: qs) G H) (.ref p) ds → SE K te σ (Mi.shv (p :: qs) G H) H mb) : SE K te σ G H mb := fun G1 H1 e r hm Q q => by
  refine h (same_shv o.gs) o.shown _ _ (peek e o.nes) r hm _ fun v G2 H2 e2 hv => q v G1 H2 ⟨Same.refl _, ?_, e2.h, fun _ _ => rfl⟩ (ScV.any hv)
  exact ((same_shv (o.mono e).gs).trans e2.g).trans e2.s
theorem st_tmp2 {m : Option Bool} (o : Own2 K H0 G H p qs ds) (h : Same G (Mi.shv (p :: qs) G H) → Rp.rep K (Mi.shv (p :: qs) G H) (.ref p) ds → ST tt σ (Mi.shv (p :: qs) G H) H m) : ST tt σ G H m := fun G1 H1 e r hm Q q => by
  refine h (same_shv o.gs) o.shown _ _ (peek e o.nes) r hm _ fun G2 H2 e2 => q G1 H2 ⟨Same.refl _, ?_, e2.h, fun _ _ => rfl⟩
  exact ((same_shv (o.mono e).gs).trans e2.g).trans e2.s

/-! ### what makes a table of one's own -/
def FE2 (K : PySem.W.Frag) (te : TE) (σ : St) (G H : Hp) (m : Option (List (List α))) : Prop :=
  ∀ G1 H1, Ext G H G1 H1 → ∀ r, m = some r → ∀ Q : VK, (∀ p qs G2 H2, Ext G1 H1 G2 H2 → Own2 K H1 G2 H2 p qs r → Q (.ref p) H2) → te σ H1 Q
theorem FE2.fe {m : Option (List (List α))} (h : FE2 K te σ G H m) : FE K te σ G H m := fun G1 H1 e r hm Q q =>
  h G1 H1 e r hm Q fun p qs G2 H2 e2 o => q p _ H2 (e2.shv (fun a ha => o.zs a (List.mem_cons_of_mem _ ha)) (fun a ha => o.gs a (List.mem_cons_of_mem _ ha))) o.own
def RF2 {ρ : Type} [Rp ρ] (K : PySem.W.Frag) (H G' H' : Hp) (u : V) (r : List (List ρ)) : Prop := ∃ p qs, u = .ref p ∧ Own2 K H G' H' p qs r
theorem rf2m {ρ : Type} [Rp ρ] {K : PySem.W.Frag} : ∀ H1 H2, Same H1 H2 → ∀ G' H' u (r : List (List ρ)), RF2 K H2 G' H' u r → RF2 K H1 G' H' u r := fun _ _ s _ _ _ _ ⟨p, qs, e, o⟩ => ⟨p, qs, e, o.up s⟩
theorem XE.fe2 {m : Option (List (List α))} (h : XE (RF2 K) te σ G H m) : FE2 K te σ G H m := fun G1 H1 e r hm Q q =>
  h G1 H1 e r hm Q fun u G2 H2 e2 ⟨p, qs, eu, o⟩ => by
    rw [eu]
    exact q p qs G2 H2 e2 o
theorem FE2.xe {m : Option (List (List α))} (h : FE2 K te σ G H m) : XE (RF2 K) te σ G H m := fun G1 H1 e r hm Q q =>
  h G1 H1 e r hm Q fun p qs G2 H2 e2 o => q (.ref p) G2 H2 e2 ⟨p, qs, rfl, o⟩
theorem own2_nil (s : Same G H) (n : H p = none) : Own2 K H G (upd H p (.lst [])) p [] ([] : List (List α)) := ⟨own_new s n (Nat.zero_le _) .nil, .nil, by simp⟩
theorem fe2_nil : FE2 K (tLst tNil) σ G H (some ([] : List (List α))) := fun G1 H1 e r hm Q q => by
  cases hm
  exact ⟨Nat.zero_le _, fun p np => q p [] G1 _ (Ext.own e.s np) (own2_nil e.s np)⟩
/-- one row more -/
theorem Own2.snoc {vs : List V} (x : Own2 K H0 G H p qs ds) (o : Own K H0 G H q d) (n : q ∉ p :: qs) (hp : H p = some (.lst vs)) (l : vs.length < sizeLine) : Own2 K H0 G (upd H p (.lst (vs ++ [.ref q]))) p (qs ++ [q]) (ds ++ [d]) := by
  obtain ⟨vs', h', l', r'⟩ := x.o.h
  have hpq : q ≠ p := fun e => n (e ▸ List.mem_cons_self)
  rw [hp] at h'
  cases h'
  have hn := List.nodup_cons.mp x.nd
  refine ⟨⟨x.o.z, x.o.g, _, upd_same, ?_, r'.app (.cons rfl .nil)⟩, Papp (Pmap x.rows fun a _ ha h => h.off fun e => hn.1 (e ▸ ha)) (.cons (o.off hpq) .nil), ?_⟩
  · rw [List.length_append]
    exact l
  · refine List.nodup_cons.mpr ⟨fun h => ?_, List.nodup_append.mpr ⟨hn.2, by simp, fun a ha b hb e => ?_⟩⟩
    · rcases List.mem_append.mp h with h | h
      · exact hn.1 h
      · exact hpq (List.mem_singleton.mp h).symm
    · rw [List.mem_singleton.mp hb] at e
      exact n (e ▸ List.mem_cons_of_mem _ ha)
theorem fe2_lc {wi : TI} {g : TG} {vs : List Nat} {γ : Type} [Rp γ] {m : Option (List γ)} {c : γ → Option Bool} {f : γ → Option (List α)} (P : St → Hp → Hp → γ → Prop) (ib : IB K wi σ G H m) (tg : TgOk K g vs σ P)
    (ht : ∀ x σ2 G1 H1, Ext G H G1 H1 → P σ2 G1 H1 x → ST tt σ2 G1 H1 (c x)) (he : ∀ x σ2 G1 H1, Ext G H G1 H1 → P σ2 G1 H1 x → FE K te σ2 G1 H1 (f x)) : FE2 K (tLc wi g tt te vs) σ G H (m.bind fun xs => filO c f xs) := fun G1 H1 e r hm Q q => by
  obtain ⟨xs, hx, hm⟩ := bind_some hm
  refine ib G1 H1 e xs hx _ fun J G2 H2 e2 it hl D hD => ?_
  refine ⟨fun i m H => ∃ G qs ys rest, Ext G2 H2 G H ∧ Own2 K H2 G H D qs ys ∧ ys.length ≤ i ∧ filO c f (xs.drop i) = some rest ∧ ys ++ rest = r ∧ m = xs.length - i,
    ⟨xs.length, G2, [], [], r, Ext.own e2.s hD, own2_nil e2.s hD, Nat.le_refl _, hm, rfl, rfl⟩, fun i m H ⟨G', qs, ys, rest, e3, o, hy, hn, er, em⟩ => ?_⟩
  by_cases hi : i < xs.length
  · right
    have hx : xs[i]? = some xs[i] := List.getElem?_eq_getElem hi
    obtain ⟨go, yl⟩ := it.go i _ G' H e3.g e3.s hx
    rw [List.drop_eq_getElem_cons hi] at hn
    obtain ⟨b, hb, hn⟩ := bind_some (show (c xs[i]).bind _ = some rest from hn)
    refine ⟨go, fun H' => ∃ G qs ys rest, Ext G2 H2 G H' ∧ Own2 K H2 G H' D qs ys ∧ ys.length ≤ i + 1 ∧ filO c f (xs.drop (i + 1)) = some rest ∧ ys ++ rest = r, fun H' ⟨G, qs, ys, rest, a1, a2, a3, a4, a5⟩ => ⟨m - 1, by omega, G, qs, ys, rest, a1, a2, a3, a4, a5, by omega⟩, fun v H' hy2 => ?_⟩
    obtain ⟨G4, e4, hv⟩ := yl v H' hy2
    have eA := (e.trans e2).trans (e3.trans e4)
    refine tg G4 H' v xs[i] e4.s hv _ fun σ2 w2 p2 => ⟨w2, ?_⟩
    refine ht xs[i] σ2 G4 H' eA p2 G4 H' (Ext.refl e4.s) b hb _ fun G5 H5 e5 => ?_
    cases b with
    | false => exact ⟨G5, qs, ys, rest, (e3.trans e4).trans e5, (o.mono e4).mono e5, Nat.le_succ_of_le hy, hn, er⟩
    | true =>
      obtain ⟨y, h5, h6⟩ := bind_some (show (f xs[i]).bind _ = some rest from hn)
      obtain ⟨rest2, h7, h8⟩ := bind_some h6
      cases h8
      show te σ2 H5 _
      refine he xs[i] σ2 G4 H' eA p2 G5 H5 e5 y h5 _ fun u G6 H6 e6 hu => ?_
      have o5 := (o.mono e4).mono e5
      have o6 := o5.mono e6
      have nu : u ∉ D :: qs := fun h => o5.nes u h hu.z
      have hu2 : Own K H2 G6 H6 u y := hu.up ((e3.trans e4).trans e5).h
      obtain ⟨vs6, a1, a2, a3⟩ := o6.o.h
      have ll : vs6.length < sizeLine := by
        rw [a3.len, Paired.length o6.rows]
        omega
      have oS := o6.snoc hu2 nu a1 ll
      refine ⟨vs6, a1, ll, G6, qs ++ [u], ys ++ [y], rest2, (((e3.trans e4).trans e5).trans e6).put o6.o.z o6.o.g, oS, ?_, h7, ?_⟩
      · rw [List.length_append]
        exact Nat.succ_le_succ hy
      · rw [← er, List.append_assoc]
        rfl
  · left
    rw [List.drop_eq_nil_of_le (by omega)] at hn
    cases hn
    rw [List.append_nil] at er
    subst er
    exact ⟨it.stop i G' H e3.g e3.s (by omega), q D qs G' H (e2.trans e3) (o.up e2.h)⟩
theorem fe2_map {wi : TI} {g : TG} {vs : List Nat} {γ : Type} [Rp γ] {m : Option (List γ)} {f : γ → Option (List α)} (P : St → Hp → Hp → γ → Prop) (ib : IB K wi σ G H m) (tg : TgOk K g vs σ P)
    (he : ∀ x σ2 G1 H1, Ext G H G1 H1 → P σ2 G1 H1 x → FE K te σ2 G1 H1 (f x)) : FE2 K (tLc wi g tYes te vs) σ G H (m.bind fun xs => mapO f xs) := fun G1 H1 e r hm Q q => by
  refine fe2_lc (c := fun _ => some true) (f := f) P ib tg (fun _ _ _ _ _ _ => st_yes) he G1 H1 e r ?_ Q q
  rw [← hm]
  cases m with
  | none => rfl
  | some xs => exact filO_yes xs

/-! ### statements -/
theorem st_setF2 {m : Option (List (List α))} {k : List (List α) → Option ρ} (hs : Same G H) (se : FE2 K te σ G H m) (hm : m.bind k = some out) (kont : ∀ x p qs G1 H1, Ext G H G1 H1 → Own2 K H G1 H1 p qs x → k x = some out → D.nx (σ.set i (some (.ref p))) H1) : tAsg te (gName i) D σ H := by
  obtain ⟨x, hx, hk⟩ := bind_some hm
  exact se G H (Ext.refl hs) x hx _ fun p qs G1 H1 e o => kont x p qs G1 H1 e o hk
theorem st_retO2 {r : List (List α)} (hv : σ[i]? = some (some (.ref p))) (e : Ext G0 H0 G H) (o : Own2 K H0 G H p qs ds) (hm : some ds = some r) (q : ∀ u G' H', Ext G0 H0 G' H' → RF2 K H0 G' H' u r → D.rt u H') : tRet (tVar i) D σ H := by
  cases hm
  exact ⟨.ref p, hv, q _ G H e ⟨p, qs, rfl, o⟩⟩
/-- t.append(row), the row new -/
theorem st_app2 {m : Option (List α)} {k : List (List α) → Option ρ} (hs : Same G H) (hv : σ[i]? = some (some (.ref p))) (o : Own2 K H0 G H p qs ds) (h0 : Same H0 H) (se : FE K te σ G H m) (hm : (m.bind fun x => (appO ds x).bind k) = some out)
    (kont : ∀ es q h G1 H1, Ext G H G1 H1 → Own2 K H0 G1 (upd H1 p h) p (qs ++ [q]) es → H q = none → k es = some out → D.nx σ (upd H1 p h)) : tDrop (tBM K "list" rAppend (tVar i) (tCons te tNil)) D σ H := by
  obtain ⟨x, hx, hm⟩ := bind_some hm
  obtain ⟨y, hy, hm⟩ := bind_some hm
  unfold appO at hy
  split at hy
  · rename_i hl
    cases hy
    obtain ⟨vs0, g0, l0, rs0⟩ := o.o.h
    refine ⟨.ref p, hv, .inl ⟨rfl, _, SqL.of g0⟩, ?_⟩
    refine se G H (Ext.refl hs) x hx _ fun q G1 H1 e1 hw => ?_
    have o1 := o.mono e1
    obtain ⟨vs, h1, l1, rs⟩ := o1.o.h
    have ll : vs.length < 16000000 := by
      rw [rs.len, Paired.length o1.rows]
      exact hl
    refine ⟨p, vs, .ref q, rfl, rfl, h1, Nat.lt_of_lt_of_le ll (by decide), ?_⟩
    exact kont _ q _ G1 H1 e1 (o1.snoc (hw.up h0) (fun h => o.nes q h hw.z) h1 (Nat.lt_of_lt_of_le ll (by decide))) hw.z hm
  · cases hy
/-- .. a list of one's own, given away -/
theorem st_app2O {j : Nat} {k : List (List α) → Option ρ} (hs : Same G H) (hv : σ[i]? = some (some (.ref p))) (o : Own2 K H0 G H p qs ds) (hj : σ[j]? = some (some (.ref q))) (r : Own K H0 G H q d) (n : q ∉ p :: qs) (hm : (appO ds d).bind k = some out)
    (kont : ∀ es h, Own2 K H0 G (upd H p h) p (qs ++ [q]) es → k es = some out → D.nx σ (upd H p h)) : tDrop (tBM K "list" rAppend (tVar i) (tCons (tVar j) tNil)) D σ H := by
  obtain ⟨y, hy, hm⟩ := bind_some hm
  unfold appO at hy
  split at hy
  · rename_i hl
    cases hy
    obtain ⟨vs, h1, l0, rs0⟩ := o.o.h
    have ll : vs.length < 16000000 := by
      rw [rs0.len, Paired.length o.rows]
      exact hl
    refine ⟨.ref p, hv, .inl ⟨rfl, _, SqL.of h1⟩, ?_⟩
    refine ⟨.ref q, hj, p, vs, .ref q, rfl, rfl, h1, Nat.lt_of_lt_of_le ll (by decide), ?_⟩
    exact kont _ _ (o.snoc r n h1 (Nat.lt_of_lt_of_le ll (by decide))) hm
  · cases hy
/-- the place of an item -/
def plc (n : Nat) (i : Int) : Option Nat := if 0 ≤ i then some i.toNat else if -(n : Int) ≤ i then some (i + n).toNat else none
theorem ixO_at {α : Type} {xs : List α} {i : Int} {x : α} (h : ixO xs i = some x) : ∃ n, plc xs.length i = some n ∧ xs[n]? = some x ∧ n < xs.length := by
  unfold ixO at h
  unfold plc
  split at h
  · rename_i h0
    obtain ⟨hk, _⟩ := List.getElem?_eq_some_iff.mp h
    exact ⟨i.toNat, if_pos h0, h, hk⟩
  · rename_i h0
    split at h
    · rename_i h1
      obtain ⟨hk, _⟩ := List.getElem?_eq_some_iff.mp h
      exact ⟨(i + xs.length).toNat, by rw [if_neg h0, if_pos h1], h, hk⟩
    · cases h
theorem setO_at {α : Type} {xs : List α} {i : Int} {n : Nat} (h : plc xs.length i = some n) (hn : n < xs.length) (y : α) : setO xs i y = some (xs.set n y) := by
  unfold plc at h
  unfold setO
  split at h
  · cases h
    rw [if_pos (by omega)]
  · rename_i h0
    split at h
    · cases h
      rw [if_neg (by omega), if_pos (by omega)]
    · cases h
theorem atI_at {vs : List V} {i : Int} {n : Nat} {v : V} (h : plc vs.length i = some n) (hv : vs[n]? = some v) : atI vs i = some v := by
  obtain ⟨hk, _⟩ := List.getElem?_eq_some_iff.mp hv
  unfold plc at h
  unfold atI ixN
  split at h
  · rename_i h0
    cases h
    rw [if_pos h0, if_pos (by omega)]
    exact hv
  · rename_i h0
    split at h
    · rename_i h1
      cases h
      rw [if_neg h0, if_pos h1]
      exact hv
    · cases h
theorem rows_at : ∀ {qs : List Nat} {ds : List (List α)} {n : Nat} {d : List α}, Paired (fun q d => Own K H0 G H q d) qs ds → ds[n]? = some d → ∃ q, qs[n]? = some q ∧ Own K H0 G H q d ∧ q ∈ qs
  | _, _, 0, _, .cons r _, h => by
    cases h
    exact ⟨_, rfl, r, List.mem_cons_self⟩
  | _, _, n + 1, _, .cons _ t, h => by
    obtain ⟨q, h1, h2, h3⟩ := rows_at (n := n) t h
    exact ⟨q, h1, h2, List.mem_cons_of_mem _ h3⟩
theorem rows_put {o : HO} {d' : List α} : ∀ {qs : List Nat} {ds : List (List α)} {n : Nat}, Paired (fun a d => Own K H0 G H a d) qs ds → qs.Nodup → qs[n]? = some q → Own K H0 G (upd H q o) q d' → Paired (fun a d => Own K H0 G (upd H q o) a d) qs (ds.set n d')
  | a0 :: qs, _ :: ds, 0, .cons r t, hn, h, x => by
    have e0 : a0 = q := Option.some.inj h
    subst e0
    have := List.nodup_cons.mp hn
    exact .cons x (Pmap t fun a _ ha h => h.off fun e => this.1 (by rw [e] at ha; exact ha))
  | a0 :: qs, _ :: ds, n + 1, .cons r t, hn, h, x => by
    have h2 := List.nodup_cons.mp hn
    have hm : q ∈ qs := List.mem_of_getElem? (show qs[n]? = some q from h)
    exact .cons (r.off fun e => h2.1 (by rw [e]; exact hm)) (rows_put t h2.2 h x)
theorem Own2.put {n : Nat} {o : HO} {d' : List α} (x : Own2 K H0 G H p qs ds) (h : qs[n]? = some q) (r : Own K H0 G (upd H q o) q d') : Own2 K H0 G (upd H q o) p qs (ds.set n d') := by
  have hn := List.nodup_cons.mp x.nd
  have hm : q ∈ qs := List.mem_of_getElem? h
  exact ⟨x.o.off fun e => hn.1 (e ▸ hm), rows_put x.rows hn.2 h r, x.nd⟩
def set2O {α : Type} (ds : List (List α)) (i j : Int) (x : α) : Option (List (List α)) := (ixO ds i).bind fun r => (setO r j x).bind fun r2 => setO ds i r2
def app2O {α : Type} (ds : List (List α)) (i : Int) (x : α) : Option (List (List α)) := (ixO ds i).bind fun r => (appO r x).bind fun r2 => setO ds i r2
def clr2O {α : Type} (ds : List (List α)) (i : Int) : Option (List (List α)) := (ixO ds i).bind fun _ => setO ds i []
/-- t[i] of a table of one's own -/
theorem Own2.item {j : Int} (x : Own2 K H0 G H p qs ds) (h : ixO ds j = some d) : ∃ vs q n, H p = some (.lst vs) ∧ atI vs j = some (.ref q) ∧ qs[n]? = some q ∧ q ∈ qs ∧ Own K H0 G H q d ∧ ∀ y, setO ds j y = some (ds.set n y) := by
  obtain ⟨vs, h1, l, r⟩ := x.o.h
  obtain ⟨n, a1, a2, a3⟩ := ixO_at h
  obtain ⟨q, c1, c2, c3⟩ := rows_at x.rows a2
  obtain ⟨v, hv, hv2⟩ := r.get c1
  rw [show v = V.ref q from hv2] at hv
  refine ⟨vs, q, n, h1, atI_at (n := n) ?_ hv, c1, c3, c2, fun y => setO_at a1 a3 y⟩
  rw [r.len, Paired.length x.rows]
  exact a1
/-- an item of a row -/
theorem se_own2_ix {mi mj : Option Int} (hv : σ[i]? = some (some (.ref p))) (o : Own2 K H0 G H p qs ds) (hi : SE K tb σ G H mi) (hj : SE K tc σ G H mj) : SE K (tOp (rIxL K) (tOp (rIxL K) (tVar i) tb) tc) σ G H (mi.bind fun a => mj.bind fun b => (ixO ds a).bind fun r => ixO r b) := fun G1 H1 e z hm Q q => by
  obtain ⟨a, ha, hm⟩ := bind_some hm
  obtain ⟨b, hb, hm⟩ := bind_some hm
  obtain ⟨r, hr, hm⟩ := bind_some hm
  refine ⟨.ref p, hv, ?_⟩
  refine hi G1 H1 e a ha _ fun w G2 H2 e2 hw => ?_
  obtain ⟨vs, q', n, h1, h2, h3, h4, h5, h6⟩ := (o.mono (e.trans e2)).item hr
  refine ⟨p, vs, a, .ref q', rfl, hw, SqL.of h1, h2, ?_⟩
  refine hj G2 H2 (e.trans e2) b hb _ fun w2 G3 H3 e3 hw2 => ?_
  obtain ⟨ws, g1, g2, g3⟩ := (h5.mono e3).h
  obtain ⟨u, g4, g5⟩ := atI_reps g3 hm
  exact ⟨q', ws, b, u, rfl, hw2, SqL.of g1, g4, q u G3 H3 ((e2.trans e3)) g5⟩
theorem se_own2_len (hv : σ[i]? = some (some (.ref p))) (o : Own2 K H0 G H p qs ds) : SE K (tCB (fun xs H Q => ∃ p ys, xs = [.ref p] ∧ (SqL K H p ys ∨ SqT K H p ys) ∧ Q (.int ys.length) H) (tCons (tVar i) tNil)) σ G H (some (ds.length : Int)) := by
  rw [← Paired.length o.rows]
  exact se_own_len hv o.o
/-- t[i][j] = e -/
theorem st_put2 {mi mj : Option Int} {k : List (List α) → Option ρ} (hs : Same G H) (hv : σ[i]? = some (some (.ref p))) (o : Own2 K H0 G H p qs ds) (se : SE K te σ G H ma) (si : SE K ta σ G H mi) (sj : SE K tb σ G H mj) (hm : (ma.bind fun x => mi.bind fun i => mj.bind fun j => (set2O ds i j x).bind k) = some out)
    (kont : ∀ es q h G1 H1, Ext G H G1 H1 → Own2 K H0 G1 (upd H1 q h) p qs es → Own2 K H0 G1 H1 p qs ds → q ∈ p :: qs → k es = some out → D.nx σ (upd H1 q h)) : tAsg te (gSub (tOp (rIxL K) (tVar i) ta) tb rSetL) D σ H := by
  obtain ⟨x, hx, hm⟩ := bind_some hm
  obtain ⟨a, ha, hm⟩ := bind_some hm
  obtain ⟨b, hb, hm⟩ := bind_some hm
  obtain ⟨es, he, hm⟩ := bind_some hm
  unfold set2O at he
  obtain ⟨r, hr, he⟩ := bind_some he
  obtain ⟨r2, hr2, he⟩ := bind_some he
  refine se G H (Ext.refl hs) x hx _ fun v G1 H1 e1 hw => ?_
  refine ⟨.ref p, hv, ?_⟩
  refine si G1 H1 e1 a ha _ fun w G2 H2 e2 hwa => ?_
  obtain ⟨vs, q', n, h1, h2, _, _, _, _⟩ := (o.mono (e1.trans e2)).item hr
  refine ⟨p, vs, a, .ref q', rfl, hwa, SqL.of h1, h2, ?_⟩
  refine sj G2 H2 (e1.trans e2) b hb _ fun w2 G3 H3 e3 hwb => ?_
  have o3 := (o.mono (e1.trans e2)).mono e3
  obtain ⟨vs', q2, n, h1', h2', h3, h4, h5, h6⟩ := o3.item hr
  have : vs' = vs := by
    have := e3.h _ _ h1
    rw [h1'] at this
    cases this
    rfl
  subst this
  rw [h2] at h2'
  cases h2'
  rw [h6] at he
  cases he
  obtain ⟨ws, g1, g2, g3⟩ := h5.h
  have hw3 := Rp.mono e3.g (Rp.mono e2.g hw)
  have hl := g3.len
  have hmq : q' ∈ p :: qs := List.mem_cons_of_mem _ h4
  unfold setO at hr2
  split at hr2
  · rename_i hc
    cases hr2
    refine ⟨q', ws, b, b.toNat, rfl, hwb, g1, ?_, ?_⟩
    · unfold ixN
      rw [if_pos hc.1, if_pos (by omega)]
    · exact kont _ q' _ G3 H3 ((e1.trans e2).trans e3) (o3.put h3 ⟨h5.z, h5.g, _, upd_same, by rw [List.length_set]; exact g2, g3.set _ hw3⟩) o3 hmq hm
  · split at hr2
    · rename_i hc
      cases hr2
      refine ⟨q', ws, b, (b + ws.length).toNat, rfl, hwb, g1, ?_, ?_⟩
      · unfold ixN
        rw [if_neg (by omega), if_pos (by omega)]
      · rw [show (ws.length : Int) = r.length by rw [hl]]
        exact kont _ q' _ G3 H3 ((e1.trans e2).trans e3) (o3.put h3 ⟨h5.z, h5.g, _, upd_same, by rw [List.length_set]; exact g2, g3.set _ hw3⟩) o3 hmq hm
    · cases hr2
/-- t[i].append(e) -/
theorem st_rowapp {mi : Option Int} {k : List (List α) → Option ρ} (hs : Same G H) (hv : σ[i]? = some (some (.ref p))) (o : Own2 K H0 G H p qs ds) (si : SE K ta σ G H mi) (se : SE K te σ G H ma) (hm : (mi.bind fun i => ma.bind fun x => (app2O ds i x).bind k) = some out)
    (kont : ∀ es q h G1 H1, Ext G H G1 H1 → Own2 K H0 G1 (upd H1 q h) p qs es → Own2 K H0 G1 H1 p qs ds → q ∈ p :: qs → k es = some out → D.nx σ (upd H1 q h)) : tDrop (tBM K "list" rAppend (tOp (rIxL K) (tVar i) ta) (tCons te tNil)) D σ H := by
  obtain ⟨a, ha, hm⟩ := bind_some hm
  obtain ⟨x, hx, hm⟩ := bind_some hm
  obtain ⟨es, he, hm⟩ := bind_some hm
  unfold app2O at he
  obtain ⟨r, hr, he⟩ := bind_some he
  obtain ⟨r2, hr2, he⟩ := bind_some he
  refine ⟨.ref p, hv, ?_⟩
  refine si G H (Ext.refl hs) a ha _ fun w G2 H2 e2 hwa => ?_
  obtain ⟨vs, q', n, h1, h2, _, _, hq2, _⟩ := (o.mono e2).item hr
  obtain ⟨ws0, gg, _, _⟩ := hq2.h
  refine ⟨p, vs, a, .ref q', rfl, hwa, SqL.of h1, h2, .inl ⟨rfl, _, SqL.of gg⟩, ?_⟩
  refine se G2 H2 e2 x hx _ fun v G3 H3 e3 hw => ?_
  have o3 := (o.mono e2).mono e3
  obtain ⟨vs', q2, n, h1', h2', h3, h4, h5, h6⟩ := o3.item hr
  have : vs' = vs := by
    have := e3.h _ _ h1
    rw [h1'] at this
    cases this
    rfl
  subst this
  rw [h2] at h2'
  cases h2'
  rw [h6] at he
  cases he
  unfold appO at hr2
  split at hr2
  · rename_i hl
    cases hr2
    obtain ⟨ws, g1, g2, g3⟩ := h5.h
    have ll : ws.length < 16000000 := by
      rw [g3.len]
      exact hl
    refine ⟨q', ws, v, rfl, rfl, g1, Nat.lt_of_lt_of_le ll (by decide), ?_⟩
    refine kont _ q' _ G3 H3 (e2.trans e3) (o3.put h3 ⟨h5.z, h5.g, _, upd_same, ?_, g3.app (.cons hw .nil)⟩) o3 (List.mem_cons_of_mem _ h4) hm
    rw [List.length_append]
    exact Nat.le_trans (Nat.succ_le_of_lt ll) (by decide)
  · cases hr2
/-- t[i].clear() -/
theorem st_rowclear {mi : Option Int} {k : List (List α) → Option ρ} (hs : Same G H) (hv : σ[i]? = some (some (.ref p))) (o : Own2 K H0 G H p qs ds) (si : SE K ta σ G H mi) (hm : (mi.bind fun i => (clr2O ds i).bind k) = some out)
    (kont : ∀ es q h G1 H1, Ext G H G1 H1 → Own2 K H0 G1 (upd H1 q h) p qs es → Own2 K H0 G1 H1 p qs ds → q ∈ p :: qs → k es = some out → D.nx σ (upd H1 q h)) : tDrop (tBM0 K "list" rClear (tOp (rIxL K) (tVar i) ta)) D σ H := by
  obtain ⟨a, ha, hm⟩ := bind_some hm
  obtain ⟨es, he, hm⟩ := bind_some hm
  unfold clr2O at he
  obtain ⟨r, hr, he⟩ := bind_some he
  refine ⟨.ref p, hv, ?_⟩
  refine si G H (Ext.refl hs) a ha _ fun w G2 H2 e2 hwa => ?_
  have o2 := o.mono e2
  obtain ⟨vs, q', n, h1, h2, h3, h4, h5, h6⟩ := o2.item hr
  rw [h6] at he
  cases he
  obtain ⟨ws, g1, g2, g3⟩ := h5.h
  refine ⟨p, vs, a, .ref q', rfl, hwa, SqL.of h1, h2, .inl ⟨rfl, _, SqL.of g1⟩, q', ws, rfl, rfl, g1, ?_⟩
  exact kont _ q' _ G2 H2 e2 (o2.put h3 ⟨h5.z, h5.g, _, upd_same, Nat.zero_le _, .nil⟩) o2 (List.mem_cons_of_mem _ h4) hm
end
end Mi

/-! MiS: sorted(set(list)), two tables of one's own one behind the other. -/
namespace Mi
open PySem PySem.Spec PyProof.Rows L2
/-- a set without a member -/
abbrev set0 (w : World) : Obj := { cls := .type "set", dict := none, data := .set #[] 0 (.fresh 0 0 (!w.params.followText "set-order")) }
section
variable {P : Program} {w : World} {A : Around} {E : Value → Shared → Prop} {s : Shared}
theorem set_of_list {l : Addr} {items : Array Value} (ns : List Int) {Q : Value → Shared → Prop} (hh : A.handled = none) (hl : s.heap.IsList l items) (hit : IntsAre items.toList ns) (hb : ns.length + 1 < scanBound)
    (h : ∀ (h' : Heap) (tk c : Nat), SetR w h' s.heap.objs.size (fun j => decide (j ∈ ns)) c → c ≤ ns.length → (∀ b o, s.heap.get? b = some o → h'.get? b = some o) → Q (.ref s.heap.objs.size) { s with heap := h', toks := tk }) :
    wpAny (model P w) A (call (.type "set") [.ref l]) Q E s := by
  have hn : items.size = ns.length := by have q := IntsAre.length hit; rw [Array.length_toList] at q; exact q
  have hS : (s.heap.push (set0 w)).get? s.heap.objs.size = some (set0 w) := Heap.get?_push_size _ rfl
  have ⟨c, tl, hmro⟩ := F.called_set.mro; have hmade := F.called_set.made; have hsub := F.called_set.sub
  have h1 := F.called_set.notType; have h2 := F.called_set.canCreate; have hct := F.typeCall_set_1 (.ref l)
  refine wpAny_call (codeAny_of_tree ?_); show wpAny _ _ (callAny (.type "set") _) _ _ _
  refine wpAny_pure ⟨Code.quiet_builtin _ (by decide +kernel), codeAny_builtin F.entry_type_call ?_⟩; rw [Around.under_plain (weight_type_call_type "set" [.ref l] []) rfl]
  repeat (any_goals (first | assumption | wp_step))
  refine codeAny_mono (code_set_led1 (.ref l) (E := E) (Q₁ := fun o s1 => o = .ref s.heap.objs.size ∧ s1 = { s with heap := s.heap.push (set0 w) }) ⟨rfl, rfl⟩) fun r s1 hr => ?_
  cases r with
  | error e => exact hr
  | ok fl =>
    cases fl with
    | ret obj =>
      obtain ⟨rfl, rfl⟩ := hr
      have hT : Shared.TypeIs { s with heap := s.heap.push (set0 w) } (.ref s.heap.objs.size) "set" := ⟨_, hS, rfl⟩
      have hli := F.called_set.init.lookup; have hbi := F.called_set.init.bind (.ref s.heap.objs.size)
      repeat (any_goals (first | assumption | wp_step))
      refine codeAny_mono (codeAny_call_builtin (R := wants (fun r s2 => r = .none ∧ ∃ h' tk c, s2 = { s with heap := h', toks := tk } ∧ SetR w h' s.heap.objs.size (fun j => decide (j ∈ ns)) c ∧ c ≤ ns.length ∧ ∀ b o, s.heap.get? b = some o → h'.get? b = some o) E) F.called_set.init.plain F.entry_set_init (check_set_init_1 hT ?_)) fun r2 s2 hr2 => ?_
      · obtain ⟨⟨cl, di, da, sl⟩, ho, e1, nl, e2⟩ := hl
        simp only at e1 e2
        subst e1 e2
        have ho' := Heap.get?_push_of_some (set0 w) ho
        have f1 := F.sub_list_set; have f2 := F.sub_list_frozenset; have f3 : (Value.type "list" == Value.type "dict") = false := by decide
        have hl1 : (s.heap.push (set0 w)).IsList l items := ⟨_, ho', rfl, nl, rfl⟩
        unfold Builtin.«set.__init__» noKeywords Builtin.Frozenset.updateFrom
        generalize hPI : pyIter = PI
        wp_walk
        subst hPI
        refine wpAny_pyIter_list hl1 (wpAny_bind (wpAny_runValue ?_))
        have lS : l < s.heap.objs.size := Heap.lt_size ho
        have z1 : (s.heap.push (set0 w)).objs.size = s.heap.objs.size + 1 := Heap.size_push ..
        have n1 : l ≠ (s.heap.push (set0 w)).objs.size := by rw [z1]; exact Nat.ne_of_lt (Nat.lt_succ_of_lt lS)
        have n2 : s.heap.objs.size ∉ [(s.heap.push (set0 w)).objs.size, l] := fun m => by
          rcases List.mem_cons.mp m with m | m
          · rw [z1] at m; exact Nat.ne_of_lt (Nat.lt_succ_self _) m
          · exact Nat.ne_of_gt lS (List.mem_singleton.mp m)
        have hv : ∀ (i : Nat) (v : Value), items[i]? = some v → ∃ k t, ns[i]? = some k ∧ v = .int k t := fun i v hv => by
          have hi : i < ns.length := hn ▸ (Array.getElem?_eq_some_iff.mp hv).1
          obtain ⟨t, e⟩ := IntsAre.int_at hit i v ((Array.getElem?_toList ..).trans hv)
          exact ⟨ns[i], t, List.getElem?_eq_getElem hi, e.trans (by rw [List.getD_eq_getElem?_getD, List.getElem?_eq_getElem hi]; rfl)⟩
        refine set_update_ints (Walks.list (by simp [hh]) _ l n1 items).toS s.heap.objs.size n2 ns hn hb hv (items.size - 0) 0 _ (by omega) (Nat.zero_le _) ⟨⟨_, Heap.get?_push_size _ rfl, rfl, rfl⟩, hl1.push _⟩ ⟨0, Nat.le_refl 0, setR_new_at (Heap.get?_push_of_some _ hS)⟩ fun s' c' hm hc' hS' => ?_
        obtain ⟨h', g', d', tk', os'⟩ := s'
        have eg : g' = s.gens := hm.gens
        have ed : d' = s.drawn := hm.drawn
        have eo : os' = s.os := hm.os
        subst eg ed eo
        show wpAny _ _ _ _ _ _
        refine wpAny_pure ?_
        show wpAny _ _ (ret Value.none) _ _ _
        refine wpAny_pure ⟨rfl, h', tk', c', rfl, hS', hn ▸ hc', fun b o e => hm.heap b o (fun m => ?_) (Heap.get?_push_of_some _ (Heap.get?_push_of_some _ e))⟩
        have hb0 : b < s.heap.objs.size := Heap.lt_size e
        rcases List.mem_cons.mp m with m | m
        · exact Nat.ne_of_lt hb0 m
        · rcases List.mem_cons.mp m with m | m
          · rw [z1] at m; exact Nat.ne_of_lt (Nat.lt_succ_of_lt hb0) m
          · exact (List.not_mem_nil m).elim
      · cases r2 with
        | error e => exact hr2
        | ok f2 =>
          cases f2 with
          | ret r =>
            obtain ⟨rfl, h', tk, c', rfl, q1, q2, q3⟩ := hr2
            repeat (any_goals (first | assumption | wp_step))
            exact h _ _ _ q1 q2 q3
          | _ => exact hr2.elim
    | _ => exact hr.elim
/-- set(xs), of a list of whole numbers -/
def rSetL (K : PySem.W.Frag) (w : World) : List V → Hp → VK → Prop := fun xs H Q => ∃ (l : Addr) (ns : List Int), xs = [.ref l] ∧ SqL K H l (ns.map V.int) ∧ ns.length < 64 ∧ ∀ (a : Addr) (c : Nat), H a = none → c ≤ ns.length → Q (.ref a) (upd H a (SetO w a (fun j => decide (j ∈ ns)) c))
theorem cr_setL {X : Cx} (hc : X.calm = true) : CallR X (.type "set") (rSetL X.K X.w) := by
  intro pins s σ H vs us Q I r h
  obtain ⟨l, ns, rfl, hq, hl, q⟩ := h
  rw [Vals.ref1 r]
  obtain ⟨its, r, pl, hz⟩ := I.list hq
  refine set_of_list ns (I.ok.hd hc) pl.isList (by simpa using ints_of_vals r) (by unfold scanBound; omega) fun h' tk c R hcn k => ?_
  exact ⟨.ref _, upd H s.heap.objs.size (SetO X.w s.heap.objs.size (fun j => decide (j ∈ ns)) c), I.laid (t' := tk) k (Nat.le_refl _) (setO_new R), rfl, q _ c (I.hok.fresh (Nat.le_refl _)) hcn⟩
end
end Mi
namespace Mi
open PySem L2
open Rp (rep)
def insU (x : Int) : List Int → List Int
  | [] => [x]
  | y :: r => if x < y then x :: y :: r else if x = y then y :: r else y :: insU x r
def sortU : List Int → List Int
  | [] => []
  | x :: r => insU x (sortU r)
theorem insU_mem {x z : Int} : ∀ {r : List Int}, z ∈ insU x r ↔ z = x ∨ z ∈ r
  | [] => by simp [insU]
  | y :: r => by
    unfold insU
    split
    · simp
    · split
      · rename_i e
        subst e
        simp
      · simp only [List.mem_cons, insU_mem (r := r)]
        constructor
        · rintro (h | h | h) <;> simp [h]
        · rintro (h | h | h) <;> simp [h]
theorem sortU_mem {z : Int} : ∀ {r : List Int}, z ∈ sortU r ↔ z ∈ r
  | [] => Iff.rfl
  | x :: r => by
    rw [sortU, insU_mem, sortU_mem, List.mem_cons]
theorem insU_up {x : Int} : ∀ {r : List Int}, r.Pairwise (· < ·) → (insU x r).Pairwise (· < ·)
  | [], _ => List.pairwise_singleton _ _
  | y :: r, h => by
    have h2 := List.pairwise_cons.mp h
    unfold insU
    split
    · rename_i hl
      refine List.pairwise_cons.mpr ⟨fun z hz => ?_, h⟩
      rcases List.mem_cons.mp hz with e | hz
      · omega
      · have := h2.1 z hz
        omega
    · split
      · exact h
      · refine List.pairwise_cons.mpr ⟨fun z hz => ?_, insU_up h2.2⟩
        rcases insU_mem.mp hz with e | hz
        · omega
        · exact h2.1 z hz
theorem sortU_up : ∀ r : List Int, (sortU r).Pairwise (· < ·)
  | [] => List.Pairwise.nil
  | _ :: r => insU_up (sortU_up r)
theorem up_le {r : List Int} (h : r.Pairwise (· < ·)) : r.Pairwise (· ≤ ·) := h.imp fun h => Int.le_of_lt h
theorem up_nd {r : List Int} (h : r.Pairwise (· < ·)) : r.Nodup := h.imp fun h => Int.ne_of_lt h
theorem up_one {a b : List Int} (h : ∀ z, z ∈ a ↔ z ∈ b) (ha : a.Pairwise (· < ·)) (hb : b.Pairwise (· < ·)) : a = b :=
  sorted_one ((List.perm_ext_iff_of_nodup (up_nd ha) (up_nd hb)).mpr h) (up_le ha) (up_le hb)
def setSortO (xs : List Int) : Option (List Int) := if xs.length < 64 then some (sortU xs) else none
section
variable {α ρ : Type} [Rp α] {K : PySem.W.Frag} {σ : St} {G0 H0 G H : Hp} {te : TE} {p p2 : Addr} {qs qs2 : List Nat} {ds ds2 : List (List α)} {D : Ends} {i j : Nat} {w : World}
theorem fe_sortSet {m : Option (List Int)} (h : SE K te σ G H m) : FE K (tCB (rSortedSet w) (tCons (tCB (rSetL K w) (tCons te tNil)) tNil)) σ G H (m.bind fun xs => setSortO xs) := fun G1 H1 e r hm Q q => by
  obtain ⟨xs, hx, hm⟩ := bind_some hm
  unfold setSortO at hm
  split at hm
  · rename_i hl
    cases hm
    refine h G1 H1 e xs hx _ fun v G2 H2 e2 ⟨a, vs, ea, ha, l, rs⟩ => ?_
    have e3 := rs.ints
    subst e3
    refine ⟨a, xs, by rw [ea], SqL.of (e2.s _ _ ha), hl, fun b c nb hc => ?_⟩
    refine ⟨b, _, c, rfl, upd_same, Nat.lt_of_le_of_lt hc hl, fun ys p hs hm hy np => ?_⟩
    have ey : ys = sortU xs := up_one (fun z => by rw [hm, sortU_mem, decide_eq_true_eq]) hs (sortU_up xs)
    subst ey
    have E3 := Ext.own (o := SetO w b (fun j => decide (j ∈ xs)) c) e2.s nb
    have s3 := E3.s
    have o := own_new (K := K) (ds := sortU xs) (vs := (sortU xs).map V.int) s3 np (by rw [List.length_map, hy]; exact Nat.le_trans hc (Nat.le_trans (Nat.le_of_lt hl) (by decide))) (reps_ints _)
    exact q p G2 _ ((e2.trans E3).trans (Ext.own s3 np)) ⟨(e2.trans E3).h.free np, o.g, o.h⟩
  · cases hm
theorem fe_sortSetp {xs : List Int} (h : SE K te σ G H (some xs)) : FE K (tCB (rSortedSet w) (tCons (tCB (rSetL K w) (tCons te tNil)) tNil)) σ G H (setSortO xs) := fe_sortSet h
/-- return a + b, both tables of one's own: a new one with the rows of both -/
theorem st_retCat2 {r : List (List α)} (hv : σ[i]? = some (some (.ref p))) (hw : σ[j]? = some (some (.ref p2))) (e : Ext G0 H0 G H) (o : Own2 K H0 G H p qs ds) (o2 : Own2 K H0 G H p2 qs2 ds2) (n : DJ (p :: qs) (p2 :: qs2)) (hm : catO ds ds2 = some r)
    (q : ∀ u G' H', Ext G0 H0 G' H' → RF2 K H0 G' H' u r → D.rt u H') : tRet (tOp rCat (tVar i) (tVar j)) D σ H := by
  unfold catO at hm
  split at hm
  · rename_i hl
    cases hm
    obtain ⟨vs, h1, l1, r1⟩ := o.o.h
    obtain ⟨ws, h2, l2, r2⟩ := o2.o.h
    have ll : vs.length + ws.length ≤ sizeLine := by
      rw [r1.len, r2.len, Paired.length o.rows, Paired.length o2.rows]
      exact Nat.le_trans hl (by decide)
    refine ⟨.ref p, hv, .ref p2, hw, p, p2, vs, ws, rfl, rfl, h1, h2, ll, fun p3 np => ?_⟩
    have x := own_new (K := K) (ds := qs ++ qs2) e.s np (by rw [List.length_append]; exact ll) (r1.app r2)
    have n3 : ∀ a, H a ≠ none → p3 ≠ a := fun a h e => h (e ▸ np)
    refine q _ G _ (e.trans (Ext.own e.s np)) ⟨p3, qs ++ qs2, rfl, x.up e.h, Papp (Pmap o.rows fun a _ ha h => h.off (n3 a (o.nes a (List.mem_cons_of_mem _ ha))).symm) (Pmap o2.rows fun a _ ha h => h.off (n3 a (o2.nes a (List.mem_cons_of_mem _ ha))).symm), ?_⟩
    refine List.nodup_cons.mpr ⟨fun h => ?_, List.nodup_append.mpr ⟨(List.nodup_cons.mp o.nd).2, (List.nodup_cons.mp o2.nd).2, fun a ha b hb e => n a (List.mem_cons_of_mem _ ha) (e ▸ List.mem_cons_of_mem _ hb)⟩⟩
    rcases List.mem_append.mp h with h | h
    · exact n3 _ (o.nes _ (List.mem_cons_of_mem _ h)) rfl
    · exact n3 _ (o2.nes _ (List.mem_cons_of_mem _ h)) rfl
  · cases hm
/-- list(d): its keys -/
def dkeysO {β : Type} (d : DI β) : Option (List Int) := if d.l.length ≤ 16000000 then some (d.l.map (·.1)) else none
theorem cr_listD {X : Cx} (hc : X.calm = true) : CallR X (.type "list") (fun xs H Q => ∃ (a : Addr) (kvs : List (Key × V)), xs = [.ref a] ∧ Rd H a (.dK kvs) ∧ ∀ p, H p = none → Q (.ref p) (upd H p (.lst (kvs.map fun kv => kV kv.1)))) := call_listD hc
theorem fe_listD {m : Option (DI α)} (h : SE K te σ G H m) : FE K (tCB (fun xs H Q => ∃ (a : Addr) (kvs : List (Key × V)), xs = [.ref a] ∧ Rd H a (.dK kvs) ∧ ∀ p, H p = none → Q (.ref p) (upd H p (.lst (kvs.map fun kv => kV kv.1)))) (tCons te tNil)) σ G H (m.bind fun d => dkeysO d) := fun G1 H1 e r hm Q q => by
  obtain ⟨d, hd1, hm⟩ := bind_some hm
  unfold dkeysO at hm
  split at hm
  · rename_i hl
    cases hm
    refine h G1 H1 e d hd1 _ fun v G2 H2 e2 ⟨a, ks, ea, hg, rs⟩ => ?_
    refine ⟨a, ks, by rw [ea], Rd.of (e2.s _ _ hg), fun p np => ?_⟩
    have ek : (ks.map fun kv => kV kv.1) = (d.l.map (·.1)).map V.int := by
      have := congrArg (List.map kV) (repsD_keys rs)
      rw [List.map_map, List.map_map] at this
      exact this
    rw [ek]
    have o := own_new (K := K) (ds := d.l.map (·.1)) (vs := (d.l.map (·.1)).map V.int) e2.s np (by rw [List.length_map, List.length_map]; exact Nat.le_trans hl (by decide)) (reps_ints _)
    exact q p G2 _ (e2.trans (Ext.own e2.s np)) ⟨e2.h.free np, o.g, o.h⟩
  · cases hm
theorem fe_listDp {d : DI α} (h : SE K te σ G H (some d)) : FE K (tCB (fun xs H Q => ∃ (a : Addr) (kvs : List (Key × V)), xs = [.ref a] ∧ Rd H a (.dK kvs) ∧ ∀ p, H p = none → Q (.ref p) (upd H p (.lst (kvs.map fun kv => kV kv.1)))) (tCons te tNil)) σ G H (dkeysO d) := fe_listD h
/-- range with a step, no longer than a list may be -/
def rangeSC (lo hi c : Int) : Option (List Int) := if (hi - lo).toNat ≤ 16000000 then rangeS lo hi c else none
theorem ib_range3 {ta tb : TE} {c : Int} {m n : Option Int} (hc : 0 < c ∧ c < 2 ^ 20) (h1 : SE K ta σ G H m) (h2 : SE K tb σ G H n) : IB K (iRng3 (tCons ta (tCons tb (tCons (tC (.int c)) tNil)))) σ G H (m.bind fun lo => n.bind fun hi => rangeSC lo hi c) := fun G1 H1 e xs hm R q => by
  obtain ⟨lo, hlo, hm⟩ := bind_some hm
  obtain ⟨hi, hhi, hm⟩ := bind_some hm
  unfold rangeSC at hm
  split at hm
  · rename_i hl
    refine ie_range3 hc h1 h2 G1 H1 e xs (by rw [hlo, hhi]; exact hm) R fun J G2 H2 e2 it => q J G2 H2 e2 it ?_
    unfold rangeS at hm
    split at hm
    · cases hm
      rw [List.length_map, List.length_range]
      have h3 := size_le (lo := lo) (hi := hi) hc.1
      rw [size_up hc.1] at h3
      exact Nat.le_trans (by omega) (show 16000000 ≤ sizeLine by decide)
    · cases hm
  · cases hm
theorem ib_range3p {ta tb : TE} {c lo hi : Int} (hc : 0 < c ∧ c < 2 ^ 20) (h1 : SE K ta σ G H (some lo)) (h2 : SE K tb σ G H (some hi)) : IB K (iRng3 (tCons ta (tCons tb (tCons (tC (.int c)) tNil)))) σ G H (rangeSC lo hi c) := ib_range3 hc h1 h2
/-- a new list, of scalars, made of a list of one's own that is shown for that time -/
theorem reps_any {β : Type} [Rp β] [ScV β] {G G' : Hp} : ∀ {vs : List V} {ds : List β}, Reps K G vs ds → Reps K G' vs ds
  | _, _, .nil => .nil
  | _, _, .cons h r => .cons (ScV.any h) (reps_any r)
theorem fe_tmp {β : Type} [Rp β] [ScV β] {d : List α} {mb : Option (List β)} (o : Own K H0 G H p d) (h : ∀ vs, Same G (upd G p (.lst vs)) → rep K (upd G p (.lst vs)) (.ref p) d → FE K te σ (upd G p (.lst vs)) H mb) : FE K te σ G H mb := fun G1 H1 e r hm Q q => by
  obtain ⟨vs, hp, l, rs⟩ := o.h
  have o1 := o.mono e
  have hp1 : H1 p = some (.lst vs) := e.h _ _ hp
  have s0 := h vs (same_new o.g) ⟨p, vs, rfl, upd_same, l, rs.mono (same_new o.g)⟩
  have e1 : Ext (upd G p (.lst vs)) H (upd G1 p (.lst vs)) H1 := by
    refine ⟨fun b u eb => ?_, fun b u eb => ?_, e.h, fun b hb => ?_⟩
    · by_cases h : b = p
      · subst h
        rw [upd_same] at eb ⊢
        exact eb
      · rw [upd_ne h] at eb ⊢
        exact e.g _ _ eb
    · by_cases h : b = p
      · subst h
        rw [upd_same] at eb
        cases eb
        exact hp1
      · rw [upd_ne h] at eb
        exact e.s _ _ eb
    · by_cases h : b = p
      · subst h
        rw [upd_same, upd_same]
      · rw [upd_ne h, upd_ne h]
        exact e.a b hb
  refine s0 _ _ e1 r hm Q fun p2 G2 H2 e2 x => ?_
  obtain ⟨ws, w1, w2, w3⟩ := x.h
  refine q p2 G1 H2 ⟨Same.refl _, fun b u eb => ?_, e2.h, fun _ _ => rfl⟩ ⟨x.z, ?_, ws, w1, w2, reps_any w3⟩
  · exact e2.h _ _ (e1.s b u (by
      by_cases h : b = p
      · subst h
        rw [o1.g] at eb
        cases eb
      · rw [upd_ne h]
        exact eb))
  · by_cases h : p2 = p
    · subst h
      exact o1.g
    · have : H1 p2 = none := x.z
      cases hg : G1 p2 with
      | none => rfl
      | some u =>
        have := e1.s p2 u (by rw [upd_ne h]; exact hg)
        rw [x.z] at this
        cases this
/-! ### None, or a list of one's own -/
def OwnV (K : PySem.W.Frag) (H0 G H : Hp) (w : V) (d : Option (List α)) : Prop := match d with
  | none => w = .non
  | some d => ∃ p, w = .ref p ∧ Own K H0 G H p d
section
variable {w : V} {d : Option (List α)} {G1 H1 : Hp}
theorem OwnV.mono (x : OwnV K H0 G H w d) (e : Ext G H G1 H1) : OwnV K H0 G1 H1 w d := by
  cases d with
  | none => exact x
  | some d =>
    obtain ⟨p, ew, o⟩ := x
    exact ⟨p, ew, o.mono e⟩
theorem OwnV.up (x : OwnV K H G1 H1 w d) (s : Same H0 H) : OwnV K H0 G1 H1 w d := by
  cases d with
  | none => exact x
  | some d =>
    obtain ⟨p, ew, o⟩ := x
    exact ⟨p, ew, o.up s⟩
theorem OwnV.show (x : OwnV K H0 G H w d) (e : Ext G0 H0 G H) : ∃ G', Ext G0 H0 G' H ∧ Same G G' ∧ rep K G' w d := by
  cases d with
  | none => exact ⟨G, e, Same.refl _, x⟩
  | some d =>
    obtain ⟨p, ew, o⟩ := x
    obtain ⟨vs, e2, s, r⟩ := o.show e
    subst ew
    exact ⟨_, e2, s, r, RpN.nn r⟩
def RN {ρ : Type} [Rp ρ] (K : PySem.W.Frag) (H G' H' : Hp) (u : V) (r : Option (List ρ)) : Prop := OwnV K H G' H' u r
theorem rnm {ρ : Type} [Rp ρ] {K : PySem.W.Frag} : ∀ H1 H2, Same H1 H2 → ∀ G' H' u (r : Option (List ρ)), RN K H2 G' H' u r → RN K H1 G' H' u r := fun _ _ s _ _ _ _ h => OwnV.up h s
theorem XE.nse {m : Option (Option (List α))} (h : XE (RN K) te σ G H m) : SE K te σ G H m := fun G1 H1 e r hm Q q =>
  h G1 H1 e r hm Q fun u G2 H2 e2 o => by
    obtain ⟨G', e3, s, hr⟩ := OwnV.show o e2
    exact q u G' H2 e3 hr
theorem xn_none : XE (RN K) (tC .non) σ G H (some (none : Option (List α))) := fun G1 H1 e r hm Q q => by
  cases hm
  exact q .non G1 H1 (Ext.refl e.s) rfl
theorem FE.xn {m : Option (List α)} (h : FE K te σ G H m) : XE (RN K) te σ G H (m.bind fun x => some (some x)) := fun G1 H1 e r hm Q q => by
  obtain ⟨x, hx, hm⟩ := bind_some hm
  cases hm
  exact h G1 H1 e x hx Q fun p G2 H2 e2 o => q (.ref p) G2 H2 e2 ⟨p, rfl, o⟩
theorem st_setN {m : Option (Option (List α))} {k : Option (List α) → Option ρ} {out : ρ} (hs : Same G H) (se : XE (RN K) te σ G H m) (hm : m.bind k = some out) (kont : ∀ x w G1 H1, Ext G H G1 H1 → OwnV K H G1 H1 w x → k x = some out → D.nx (σ.set i (some w)) H1) : tAsg te (gName i) D σ H := by
  obtain ⟨x, hx, hk⟩ := bind_some hm
  exact se G H (Ext.refl hs) x hx _ fun u G1 H1 e o => kont x u G1 H1 e o hk
theorem se_tmpN {β : Type} [Rp β] [ScV β] {mb : Option β} (o : OwnV K H0 G H w d) (h : ∀ G', Same G G' → rep K G' w d → SE K te σ G' H mb) : SE K te σ G H mb := by
  cases d with
  | none => exact h G (Same.refl _) o
  | some d =>
    obtain ⟨p, ew, o⟩ := o
    subst ew
    exact se_tmp o fun vs s r => h _ s ⟨r, RpN.nn r⟩
theorem st_tmpN {m : Option Bool} {tt : TT} (o : OwnV K H0 G H w d) (h : ∀ G', Same G G' → rep K G' w d → ST tt σ G' H m) : ST tt σ G H m := by
  cases d with
  | none => exact h G (Same.refl _) o
  | some d =>
    obtain ⟨p, ew, o⟩ := o
    subst ew
    exact st_tmp o fun vs s r => h _ s ⟨r, RpN.nn r⟩
theorem st_clearN {k : List α → Option ρ} {out : ρ} (hs : Same G H) (hv : σ[i]? = some (some w)) (o : OwnV K H0 G H w d) (hm : (d.bind fun _ => some ([] : List α)).bind k = some out)
    (kont : ∀ es p h G1 H1, Ext G H G1 H1 → w = .ref p → Own K H0 G1 (upd H1 p h) p es → G1 p = none → k es = some out → D.nx σ (upd H1 p h)) : tDrop (tBM0 K "list" rClear (tVar i)) D σ H := by
  cases d with
  | none => cases hm
  | some d =>
    obtain ⟨p, ew, o⟩ := o
    subst ew
    exact st_clear hs hv o hm fun es h G1 H1 e o g hk => kont es p h G1 H1 e rfl o g hk
end
end
end Mi

/-! MiT: tuples made of lists of whole numbers; dicts with such as keys. -/
namespace Mi
open PySem L2
open Rp (rep)
/-- tuple(xs), made here -/
structure TK where
  l : List Int
deriving DecidableEq
def TK.tl (t : TK) : TL Int := ⟨t.l⟩
instance : Rp TK := ⟨fun _ G v d => ∃ a, v = .ref a ∧ G a = some (.tup (d.l.map V.int)) ∧ d.l.length ≤ sizeLine, fun s ⟨a, e, h, l⟩ => ⟨a, e, s _ _ h, l⟩⟩
structure DT (β : Type) where
  l : List (List Int × β)
section
variable {β : Type}
def tfind (l : List (List Int × β)) (k : List Int) : Option β := (l.find? fun x => decide (x.1 = k)).map (·.2)
def tput (l : List (List Int × β)) (k : List Int) (v : β) : List (List Int × β) := if (l.any fun x => decide (x.1 = k)) = true then l.map (fun x => if x.1 = k then (x.1, v) else x) else l ++ [(k, v)]
def tputO (d : DT β) (k : TK) (v : β) : Option (DT β) := if d.l.length < 16000000 then some ⟨tput d.l k.l v⟩ else none
def thas (d : DT β) (k : TK) : Bool := (tfind d.l k.l).isSome
def tgetD (d : DT β) (k : TK) (x : β) : β := (tfind d.l k.l).getD x
end
/-- the parts of a key -/
abbrev kk (k : List Int) : List Key := k.map Sum.inl
theorem kk_inj {a b : List Int} : kk a = kk b ↔ a = b := ⟨fun h => List.map_inj_right (fun _ _ h => by injection h) |>.mp h, fun h => by rw [h]⟩
theorem kk_kV (a : List Int) : (kk a).map kV = a.map V.int := by
  rw [List.map_map]
  rfl
abbrev RepsT {β : Type} [Rp β] (K : PySem.W.Frag) (G : Hp) : List (List Key × V) → List (List Int × β) → Prop := Paired fun p q => p.1 = kk q.1 ∧ rep K G p.2 q.2
section
variable {β : Type} [Rp β] {K : PySem.W.Frag} {G G' : Hp} {ks : List (List Key × V)} {l : List (List Int × β)} {k : List Int} {v : V} {x : β}
theorem repsT_mono (s : Same G G') : ∀ {ks : List (List Key × V)} {l : List (List Int × β)}, RepsT K G ks l → RepsT K G' ks l
  | _, _, .nil => .nil
  | _, _, .cons h r => .cons ⟨h.1, Rp.mono s h.2⟩ (repsT_mono s r)
theorem kk_dec (a b : List Int) : decide (kk a = kk b) = decide (a = b) := decide_eq_decide.mpr kk_inj
theorem repsT_find : ∀ {ks : List (List Key × V)} {l : List (List Int × β)}, RepsT K G ks l → (tfind l k = none → valV ks (kk k) = none) ∧ ∀ x, tfind l k = some x → ∃ v, valV ks (kk k) = some v ∧ rep K G v x
  | _, _, .nil => ⟨fun _ => rfl, fun x h => by cases h⟩
  | (a, v) :: ks, (b, y) :: l, .cons ⟨h1, h2⟩ r => by
    have ih := repsT_find r
    simp only at h1 h2
    subst h1
    by_cases e : b = k
    · subst e
      rw [valV_pos (p := (kk b, v)) rfl, show tfind ((b, y) :: l) b = some y by simp [tfind]]
      exact ⟨fun h => (nomatch h), fun x h => by cases h; exact ⟨v, rfl, h2⟩⟩
    · rw [valV_neg (p := (kk b, v)) fun h => e (kk_inj.mp h), show tfind ((b, y) :: l) k = tfind l k by simp [tfind, List.find?_cons, e]]
      exact ih
theorem repsT_any : ∀ {ks : List (List Key × V)} {l : List (List Int × β)}, RepsT K G ks l → (ks.any fun kv => decide (kv.1 = kk k)) = l.any fun x => decide (x.1 = k)
  | _, _, .nil => rfl
  | (a, v) :: ks, (b, y) :: l, .cons ⟨h1, h2⟩ r => by
    simp only at h1
    subst h1
    rw [List.any_cons, List.any_cons, repsT_any r, kk_dec]
theorem repsT_map (hx : rep K G v x) : ∀ {ks : List (List Key × V)} {l : List (List Int × β)}, RepsT K G ks l → RepsT K G (ks.map fun kv => if kv.1 = kk k then (kv.1, v) else kv) (l.map fun z => if z.1 = k then (z.1, x) else z)
  | _, _, .nil => .nil
  | (a, w) :: ks, (b, y) :: l, .cons ⟨h1, h2⟩ r => by
    simp only at h1 h2
    subst h1
    rw [List.map_cons, List.map_cons]
    refine .cons ?_ (repsT_map hx r)
    by_cases e : b = k
    · subst e
      rw [if_pos rfl, if_pos rfl]
      exact ⟨rfl, hx⟩
    · rw [if_neg (fun h => e (kk_inj.mp h)), if_neg e]
      exact ⟨rfl, h2⟩
theorem repsT_put (h : RepsT K G ks l) (hx : rep K G v x) : RepsT K G (putK ks (kk k) v) (tput l k x) := by
  unfold putK tput
  rw [repsT_any h]
  split
  · exact repsT_map hx h
  · exact Paired.snoc h ⟨rfl, hx⟩
theorem isSome_tfind (rs : RepsT K G ks l) : (valV ks (kk k)).isSome = (tfind l k).isSome := by
  have := repsT_find (k := k) rs
  cases h : tfind l k with
  | none => rw [this.1 h]; rfl
  | some x =>
    obtain ⟨v, hv, _⟩ := this.2 x h
    rw [hv]
    rfl
end
instance {β : Type} [Rp β] : Rp (DT β) := ⟨fun K G v d => ∃ a ks, v = .ref a ∧ G a = some (.dT ks) ∧ RepsT K G ks d.l, fun s ⟨a, ks, e, h, r⟩ => ⟨a, ks, e, s _ _ h, repsT_mono s r⟩⟩
/-- a dict of one's own, its keys tuples -/
structure OwnT {β : Type} [Rp β] (K : PySem.W.Frag) (H0 G H : Hp) (p : Addr) (d : DT β) : Prop where
  z : H0 p = none
  g : G p = none
  h : ∃ ks, H p = some (.dT ks) ∧ RepsT K G ks d.l
section
variable {α β ρ : Type} [Rp α] [Rp β]
variable {K : PySem.W.Frag} {σ : St} {G0 H0 G H G1 H1 : Hp} {te td ty tv tx : TE} {tc : TT} {ma : Option α} {mb : Option β} {i : Nat} {d : DT β} {D : Ends} {out : ρ} {p q : Addr}
theorem OwnT.ne (x : OwnT K H0 G H p d) : H p ≠ none := by
  obtain ⟨vs, h, _⟩ := x.h
  rw [h]
  exact fun z => nomatch z
theorem OwnT.mono (x : OwnT K H0 G H p d) (e : Ext G H G1 H1) : OwnT K H0 G1 H1 p d := by
  obtain ⟨vs, h, r⟩ := x.h
  exact ⟨x.z, (e.a p x.ne).trans x.g, vs, e.h _ _ h, repsT_mono e.g r⟩
theorem OwnT.off {o : HO} (x : OwnT K H0 G H p d) (n : p ≠ q) : OwnT K H0 G (upd H q o) p d := by
  obtain ⟨vs, h, r⟩ := x.h
  exact ⟨x.z, x.g, vs, by rw [upd_ne n]; exact h, r⟩
theorem OwnT.off2 {o : HO} (x : OwnT K H0 G H p d) (n : p ≠ q) (gq : G q = none) : OwnT K H0 (upd G q o) H p d := by
  obtain ⟨vs, h, r⟩ := x.h
  exact ⟨x.z, by rw [upd_ne n]; exact x.g, vs, h, repsT_mono (same_new gq) r⟩
theorem OwnT.ne2 (x : OwnT K H0 G H p d) (n : H q = none) : p ≠ q := fun e => x.ne (e ▸ n)
theorem OwnT.up (x : OwnT K H G1 H1 p d) (s : Same H0 H) : OwnT K H0 G1 H1 p d := ⟨s.free x.z, x.g, x.h⟩
theorem OwnT.show (x : OwnT K H0 G H p d) (e : Ext G0 H0 G H) : ∃ ks, Ext G0 H0 (upd G p (.dT ks)) H ∧ Same G (upd G p (.dT ks)) ∧ rep K (upd G p (.dT ks)) (.ref p) d := by
  obtain ⟨ks, h, r⟩ := x.h
  exact ⟨ks, e.show x.z x.g h, same_new x.g, p, ks, rfl, upd_same, repsT_mono (same_new x.g) r⟩
theorem sdT_tmp [ScV α] (o : OwnT K H0 G H p d) (h : ∀ vs, Same G (upd G p (.dT vs)) → rep K (upd G p (.dT vs)) (.ref p) d → SE K te σ (upd G p (.dT vs)) H ma) : SE K te σ G H ma := fun G1 H1 e r hm Q q => by
  obtain ⟨vs, hp, rs⟩ := o.h
  have o1 := o.mono e
  have s0 := h vs (same_new o.g) ⟨p, vs, rfl, upd_same, repsT_mono (same_new o.g) rs⟩
  refine s0 _ _ (ext_up e (e.h _ _ hp)) r hm _ fun v G2 H2 e2 hv => q v G1 H2 ⟨Same.refl _, ?_, e2.h, fun _ _ => rfl⟩ (ScV.any hv)
  exact ((same_new o1.g).trans e2.g).trans e2.s
theorem stT_tmp {m : Option Bool} (o : OwnT K H0 G H p d) (h : ∀ vs, Same G (upd G p (.dT vs)) → rep K (upd G p (.dT vs)) (.ref p) d → ST tc σ (upd G p (.dT vs)) H m) : ST tc σ G H m := fun G1 H1 e r hm Q q => by
  obtain ⟨vs, hp, rs⟩ := o.h
  have o1 := o.mono e
  have s0 := h vs (same_new o.g) ⟨p, vs, rfl, upd_same, repsT_mono (same_new o.g) rs⟩
  refine s0 _ _ (ext_up e (e.h _ _ hp)) r hm _ fun G2 H2 e2 => q G1 H2 ⟨Same.refl _, ?_, e2.h, fun _ _ => rfl⟩
  exact ((same_new o1.g).trans e2.g).trans e2.s
/-! ### a new one -/
def FT (K : PySem.W.Frag) (te : TE) (σ : St) (G H : Hp) (m : Option (DT β)) : Prop :=
  ∀ G1 H1, Ext G H G1 H1 → ∀ r, m = some r → ∀ Q : VK, (∀ p G2 H2, Ext G1 H1 G2 H2 → OwnT K H1 G2 H2 p r → Q (.ref p) H2) → te σ H1 Q
theorem FT.se {m : Option (DT β)} (h : FT K te σ G H m) : SE K te σ G H m := fun G1 H1 e r hm Q q =>
  h G1 H1 e r hm Q fun p G2 H2 e2 o => by
    obtain ⟨ks, e3, _, hr⟩ := o.show e2
    exact q _ _ _ e3 hr
theorem ft_new : FT K tDNewT σ G H (some (⟨[]⟩ : DT β)) := fun G1 H1 e r hm Q q => by
  cases hm
  intro p np
  exact q p G1 _ (Ext.own e.s np) ⟨np, e.s.free np, [], upd_same, .nil⟩
theorem st_setT {m : Option (DT β)} {k : DT β → Option ρ} (hs : Same G H) (se : FT K te σ G H m) (hm : m.bind k = some out) (kont : ∀ x p G1 H1, Ext G H G1 H1 → OwnT K H G1 H1 p x → k x = some out → D.nx (σ.set i (some (.ref p))) H1) : tAsg te (gName i) D σ H := by
  obtain ⟨x, hx, hk⟩ := bind_some hm
  exact se G H (Ext.refl hs) x hx _ fun p G1 H1 e o => kont x p G1 H1 e o hk
/-! ### readings -/
theorem dget_t {a b : Addr} {ks : List (List Key × V)} {k : List Int} (h : H a = some (.dT ks)) (hb : H b = some (.tup (k.map V.int))) : DGet H a (.ref b) (valV ks (kk k)) := DGet.t h (by rw [kk_kV]; exact hb)
theorem se_tin {m : Option (DT β)} {n : Option TK} (hk : SE K ty σ G H n) (hd : SE K td σ G H m) : SE K (tDIn ty td) σ G H (n.bind fun y => m.bind fun x => some (thas x y)) := fun G1 H1 e r hm Q q => by
  obtain ⟨k, hk1, hm⟩ := bind_some hm
  obtain ⟨d, hd1, hm⟩ := bind_some hm
  cases hm
  refine hk G1 H1 e k hk1 _ fun w G2 H2 e2 hw => ?_
  refine hd G2 H2 (e.trans e2) d hd1 _ fun v G3 H3 e3 ⟨a, ks, ea, h, rs⟩ => ?_
  obtain ⟨b, eb, hb, _⟩ := (Rp.mono e3.g hw : rep K G3 w k)
  refine ⟨a, valV ks (kk k.l), ea, ?_, ?_⟩
  · rw [eb]
    exact dget_t (e3.s _ _ h) (e3.s _ _ hb)
  · rw [isSome_tfind rs]
    exact q _ G3 H3 (e2.trans e3) rfl
theorem se_tinp {x : DT β} {y : TK} (hk : SE K ty σ G H (some y)) (hd : SE K td σ G H (some x)) : SE K (tDIn ty td) σ G H (some (thas x y)) := se_tin hk hd
theorem se_tnotin {m : Option (DT β)} {n : Option TK} (hk : SE K ty σ G H n) (hd : SE K td σ G H m) : SE K (tDNotIn ty td) σ G H (n.bind fun y => m.bind fun x => some (!thas x y)) := fun G1 H1 e r hm Q q => by
  obtain ⟨k, hk1, hm⟩ := bind_some hm
  obtain ⟨d, hd1, hm⟩ := bind_some hm
  cases hm
  refine hk G1 H1 e k hk1 _ fun w G2 H2 e2 hw => ?_
  refine hd G2 H2 (e.trans e2) d hd1 _ fun v G3 H3 e3 ⟨a, ks, ea, h, rs⟩ => ?_
  obtain ⟨b, eb, hb, _⟩ := (Rp.mono e3.g hw : rep K G3 w k)
  refine ⟨a, valV ks (kk k.l), ea, ?_, ?_⟩
  · rw [eb]
    exact dget_t (e3.s _ _ h) (e3.s _ _ hb)
  · rw [isSome_tfind rs]
    exact q _ G3 H3 (e2.trans e3) rfl
theorem se_tnotinp {x : DT β} {y : TK} (hk : SE K ty σ G H (some y)) (hd : SE K td σ G H (some x)) : SE K (tDNotIn ty td) σ G H (some (!thas x y)) := se_tnotin hk hd
theorem se_tgetD {m : Option (DT β)} {n : Option TK} {o : Option β} (hd : SE K td σ G H m) (hk : SE K ty σ G H n) (hx : SE K tx σ G H o) : SE K (tDGet2 td ty tx) σ G H (m.bind fun x => n.bind fun y => o.bind fun z => some (tgetD x y z)) := fun G1 H1 e r hm Q q => by
  obtain ⟨d, hd1, hm⟩ := bind_some hm
  obtain ⟨k, hk1, hm⟩ := bind_some hm
  obtain ⟨x, hx1, hm⟩ := bind_some hm
  cases hm
  refine hd G1 H1 e d hd1 _ fun v G2 H2 e2 hv => ?_
  obtain ⟨a, ks, ea, h, rs⟩ := id hv
  refine ⟨a, ea, Or.inr ⟨ks, Rd.of (e2.s _ _ h)⟩, ?_⟩
  refine hk G2 H2 (e.trans e2) k hk1 _ fun w G3 H3 e3 hw => ?_
  refine hx G3 H3 ((e.trans e2).trans e3) x hx1 _ fun z G4 H4 e4 hz => ?_
  have h4 : H4 a = some (.dT ks) := e4.s _ _ (e4.g _ _ (e3.g _ _ h))
  obtain ⟨b, eb, hb, _⟩ := (Rp.mono e4.g hw : rep K G4 w k)
  refine ⟨valV ks (kk k.l), ?_, ?_⟩
  · rw [eb]
    exact dget_t h4 (e4.s _ _ hb)
  · refine q _ G4 H4 ((e2.trans e3).trans e4) ?_
    have hf := repsT_find (k := k.l) rs
    unfold tgetD
    cases hc : tfind d.l k.l with
    | none => rw [hf.1 hc]; exact hz
    | some y =>
      obtain ⟨u, hu, ru⟩ := hf.2 y hc
      rw [hu]
      exact Rp.mono e4.g (Rp.mono e3.g ru)
theorem se_tgetDp {x : DT β} {y : TK} {z : β} (hd : SE K td σ G H (some x)) (hk : SE K ty σ G H (some y)) (hx : SE K tx σ G H (some z)) : SE K (tDGet2 td ty tx) σ G H (some (tgetD x y z)) := se_tgetD hd hk hx
/-! ### d[k] = v -/
theorem st_tput {n : Option TK} {k : DT β → Option ρ} (hs : Same G H) (hv : σ[i]? = some (some (.ref p))) (o : OwnT K H0 G H p d) (se : SE K tv σ G H mb) (sk : SE K ty σ G H n) (hm : (mb.bind fun x => n.bind fun j => (tputO d j x).bind k) = some out)
    (kont : ∀ es h G1 H1, Ext G H G1 H1 → OwnT K H0 G1 (upd H1 p h) p es → G1 p = none → k es = some out → D.nx σ (upd H1 p h)) : sDPut (tVar i) ty tv D σ H := by
  obtain ⟨x, hx, hm⟩ := bind_some hm
  obtain ⟨j, hj, hm⟩ := bind_some hm
  obtain ⟨es, he, hm⟩ := bind_some hm
  unfold tputO at he
  split at he
  · rename_i hl
    cases he
    refine se G H (Ext.refl hs) x hx _ fun v G1 H1 e1 hv1 => ?_
    refine ⟨.ref p, hv, ?_⟩
    refine sk G1 H1 e1 j hj _ fun w G2 H2 e2 ⟨b, eb, hb, _⟩ => ?_
    have o2 := (o.mono e1).mono e2
    obtain ⟨ks, hp, rs⟩ := o2.h
    refine ⟨p, upd H2 p (.dT (putK ks (kk j.l) v)), rfl, ?_, ?_⟩
    · rw [eb]
      exact DPut.t hp (by rw [kk_kV]; exact e2.s _ _ hb) (by rw [Paired.length rs]; exact Nat.lt_of_lt_of_le hl (by decide))
    · exact kont _ _ G2 H2 (e1.trans e2) ⟨o2.z, o2.g, _, upd_same, repsT_put rs (Rp.mono e2.g hv1)⟩ o2.g hm
  · cases he
/-! ### tuple(xs) -/
theorem se_tupleOf {m : Option (List Int)} (h : SE K te σ G H m) : SE K (tCB (fun xs H Q => ∃ p ys, xs = [.ref p] ∧ ((SqL K H p ys ∧ ∀ l, H l = none → Q (.ref l) (upd H l (.tup ys))) ∨ (SqT K H p ys ∧ Q (.ref p) H))) (tCons te tNil)) σ G H (m.bind fun xs => some (TK.mk xs)) := fun G1 H1 e r hm Q q => by
  obtain ⟨xs, hx, hm⟩ := bind_some hm
  cases hm
  refine h G1 H1 e xs hx _ fun v G2 H2 e2 ⟨a, vs, ea, ha, l, rs⟩ => ?_
  have e3 := rs.ints
  subst e3
  refine ⟨a, _, by rw [ea], .inl ⟨SqL.of (e2.s _ _ ha), fun p np => ?_⟩⟩
  exact q (.ref p) _ _ (e2.trans (Ext.new e2.s np)) ⟨p, rfl, upd_same, by rw [List.length_map] at l; exact l⟩
theorem se_tupleOfp {xs : List Int} (h : SE K te σ G H (some xs)) : SE K (tCB (fun xs H Q => ∃ p ys, xs = [.ref p] ∧ ((SqL K H p ys ∧ ∀ l, H l = none → Q (.ref l) (upd H l (.tup ys))) ∨ (SqT K H p ys ∧ Q (.ref p) H))) (tCons te tNil)) σ G H (some (TK.mk xs)) := se_tupleOf h
theorem se_tktl {m : Option TK} (h : SE K te σ G H m) : SE K te σ G H (m.bind fun p => some (TK.tl p)) := fun G1 H1 e r hm Q q => by
  obtain ⟨p, hp, hm⟩ := bind_some hm
  cases hm
  exact h G1 H1 e p hp Q fun v G2 H2 e2 ⟨a, ea, hg, l⟩ => q v G2 H2 e2 ⟨a, _, ea, SqT.of hg, by rw [List.length_map]; exact l, reps_ints _⟩
theorem se_tktlp {p : TK} (h : SE K te σ G H (some p)) : SE K te σ G H (some (TK.tl p)) := se_tktl h
end
end Mi
namespace Mi
open L2
instance : RpTy TK := ⟨"tuple", fun s ⟨a, e, h, _⟩ => by rw [e]; exact ty_tup (SqT.of (s _ _ h))⟩
end Mi
namespace Mi
open PySem L2
instance {α : Type} [DecidableEq α] : DecidableEq (TL α) := fun a b => decidable_of_iff (a.l = b.l) ⟨fun h => by cases a; cases b; cases h; rfl, fun h => by rw [h]⟩
theorem tl_eq {α : Type} {a b : TL α} : a = b ↔ a.l = b.l := ⟨fun h => by rw [h], fun h => by cases a; cases b; cases h; rfl⟩
instance {α : Type} [Rp α] [DecidableEq α] [RpD α] : RpD (TL α) := ⟨fun xs => .tuple (xs.l.map RpD.py), fun s ⟨a, vs, e, h, _, r⟩ => by
  rw [e]
  exact .tup (same_tup s h) (dall s r), fun x y => (eqvAll_map x.l y.l).trans (decide_eq_decide.mpr tl_eq.symm), fun x => layAll_map x.l, RpD.dep α + 1, fun x => Nat.succ_le_succ (depAll_map x.l)⟩
end Mi

namespace Mi
open PySem
namespace Mir

def law_cell_at_ (law_script_ : (KL Int)) (law_k_ : Int) : Option Int :=
  (some (decide (law_k_ < (law_script_.l.length : Int)))).bind fun b => cond b (ixO law_script_.l law_k_) (some (0))
def law_big_ (law_cell_ : Int) (law_k_ : Int) : Option Int :=
  (some (decide (1000000000000000000 ≤ (law_cell_.natAbs : Int)))).bind fun b => cond b (some (law_cell_)) ((some (0)).bind fun law_number_ => (rangeO 0 9).bind fun xs => (forN (fun (s1 : Int) (i1 : Int) => ((((some ((law_cell_.natAbs : Int) % 2147483647)).bind fun x => (mulO 97 law_k_).bind fun y => some (x + y)).bind fun x => (mulO 131 i1).bind fun y => some (x + y)).bind fun x => (some (13)).bind fun y => some (x + y)).bind fun law_part_ => (((some (law_part_)).bind fun x => (((some (16807)).bind fun x => (mulO i1 i1).bind fun y => some (x + y)).bind fun x => (some (law_k_)).bind fun y => some (x + y)).bind fun y => mulO x y).bind fun x => some (x % 2147483647)).bind fun law_part_ => ((mulO s1 2147483659).bind fun x => ((mulO law_part_ 48271).bind fun x => some (x % 2147483647)).bind fun y => some (x + y)).bind fun law_number_ => some law_number_) xs law_number_).bind fun z1 => some (z1))
def law_drawn_ (law_cell_ : Int) (law_other_ : Int) : Option ((List Int) × (List Int)) :=
  ((some (1 + ((law_cell_ / 6) % 100))).bind fun x => ((some (1)).bind fun x => (mulO 2 ((law_cell_ / 600) % 2)).bind fun y => some (x - y)).bind fun y => mulO x y).bind fun law_a_ => ((some (1 + (law_other_ % 100))).bind fun x => ((some (1)).bind fun x => (mulO 2 ((law_other_ / 100) % 2)).bind fun y => some (x - y)).bind fun y => mulO x y).bind fun law_b_ => (some ((law_other_ / 200) % 61)).bind fun law_x_ => (some (1 + ((law_other_ / 12200) % 60))).bind fun law_y_ => (((mulO law_a_ law_x_).bind fun x => (some (law_x_)).bind fun y => mulO x y).bind fun x => ((mulO law_b_ law_y_).bind fun x => (some (law_y_)).bind fun y => mulO x y).bind fun y => some (x + y)).bind fun law_made_ => (some ([law_a_, law_b_, 0 - law_made_])).bind fun law_row_ => (some ([law_x_, law_y_, 1])).bind fun law_zero_ => ((some ((decide (law_made_ = 0)) || (decide (((law_cell_ / 1200) % 5) = 0)))).bind fun b => cond b ((some ([law_a_, 0 - law_a_, law_b_])).bind fun law_row_ => (some ([1, 1, 0])).bind fun law_zero_ => some (law_row_, law_zero_)) (some (law_row_, law_zero_))).bind fun s1 => (some (law_cell_ % 3)).bind fun law_turn_ => (some (law_cell_ / 6000)).bind fun law_bits_ => (rangeO 0 3).bind fun xs => (forN (fun (s2 : (List Int) × Int) (i2 : Int) => ((ixO s2.1 i2).bind fun x => ((some (1)).bind fun x => (mulO 2 (s2.2 % 2)).bind fun y => some (x - y)).bind fun y => mulO x y).bind fun x => (some (i2)).bind fun j => (setO s2.1 j x).bind fun law_zero_ => (some (s2.2 / 2)).bind fun law_bits_ => some (law_zero_, law_bits_)) xs (s1.2, law_bits_)).bind fun z2 => (catO (cutL s1.1 (some law_turn_) (none)) (cutL s1.1 (none) (some law_turn_))).bind fun x0 => (catO (cutL z2.1 (some law_turn_) (none)) (cutL z2.1 (none) (some law_turn_))).bind fun x1 => some (x0, x1)
noncomputable def law_common_ (law_a_ : Int) (law_b_ : Int) : Option Int :=
  (whileN (fun (s1 : Int × Int) => some (!decide (s1.2 = 0))) (fun (s1 : Int × Int) => (modO s1.1 s1.2).bind fun law_rest_ => (some (s1.2)).bind fun law_a_ => (some (law_rest_)).bind fun law_b_ => some (law_a_, law_b_)) (law_a_, law_b_)).bind fun z1 => some ((z1.1.natAbs : Int))
noncomputable def law_line_ (law_s_ : Int) (law_t_ : Int) : Option (Int × Int) :=
  (Mir.law_common_ law_s_ law_t_).bind fun law_part_ => (some (decide (law_part_ = 0))).bind fun b => cond b (some ((1, 0))) (((some ((decide (law_s_ < 0)) || ((decide (law_s_ = 0)) && (decide (law_t_ < 0))))).bind fun b => cond b ((some (0 - law_part_)).bind fun law_part_ => some law_part_) (some law_part_)).bind fun s1 => (divO law_s_ s1).bind fun x0 => (divO law_t_ s1).bind fun x1 => some (x0, x1))
noncomputable def law_lines_ (law_cell_ : Int) (law_other_ : Int) : Option (List (Int × Int)) :=
  (some ([(1, 0), (0, 1)])).bind fun law_lines_here_ => (rangeO 0 4).bind fun xs => (forN (fun (s1 : Int × Int × (List (Int × Int))) (i1 : Int) => (some (1000)).bind fun law_bound_ => ((some (decide (((s1.1 / 7) % 4) = 0))).bind fun b => cond b ((some (1000000000000)).bind fun law_bound_ => some law_bound_) (some law_bound_)).bind fun s2 => ((((some (s1.1)).bind fun x => ((mulO 2 s2).bind fun x => (some (1)).bind fun y => some (x - y)).bind fun y => modO x y).bind fun x => (some (s2)).bind fun y => some (x - y)).bind fun x => (some (1)).bind fun y => some (x + y)).bind fun law_s_ => ((((some (s1.2.1)).bind fun x => ((mulO 2 s2).bind fun x => (some (1)).bind fun y => some (x - y)).bind fun y => modO x y).bind fun x => (some (s2)).bind fun y => some (x - y)).bind fun x => (some (1)).bind fun y => some (x + y)).bind fun law_t_ => (Mir.law_line_ law_s_ law_t_).bind fun x => (appO s1.2.2 x).bind fun law_lines_here_ => ((some (s1.1)).bind fun x => (mulO 3 s2).bind fun y => divO x y).bind fun law_cell_ => ((some (s1.2.1)).bind fun x => (mulO 3 s2).bind fun y => divO x y).bind fun law_other_ => some (law_cell_, law_other_, law_lines_here_)) xs (law_cell_, law_other_, law_lines_here_)).bind fun z1 => some z1.2.2
def is_row_ (row_ : (List Int)) : Option Bool :=
  (some ((decide ((row_.length : Int) < 1)) || (decide (8 < (row_.length : Int))))).bind fun b => cond b (some (false)) ((some (row_)).bind fun xs => (forR (fun (s1 : Unit) (i1 : Int) => (some ((!true) || (false || ((decide (i1 = 0)) || (decide (1073741824 ≤ (i1.natAbs : Int))))))).bind fun b => cond b ((some (false)).bind fun x => some (.rt x)) (some (.nx ()))) xs ()).bind fun o1 => Sum.elim (fun z1 => some (true)) (fun x => some x) o1)
def must_be_row_ (row_ : (List Int)) : Option Unit :=
  ((Mir.is_row_ row_).bind fun b => some (!b)).bind fun b => cond b (none) (some ())
def seat_ (zero_ : (List Int)) : Option (T3 Int Int Int) :=
  (((rangeC 0 3).bind fun xs => filO (fun k_ => (ixO zero_ k_).bind fun x => (some (0)).bind fun y => some (!decide (x = y))) (fun k_ => some (k_)) xs).bind fun xs => (some (0)).bind fun k => ixO xs k).bind fun h_ => ((rangeC 0 3).bind fun xs => filO (fun k_ => some (!decide (k_ = h_))) (fun k_ => some (k_)) xs).bind fun xs => unl2 xs fun i_ j_ => some ((T3.mk h_ i_ j_))
noncomputable def common_ (one_ : Int) (other_ : Int) : Option Int :=
  (whileN (fun (s1 : Int × Int) => some (!decide (s1.2 = 0))) (fun (s1 : Int × Int) => (some (s1.2)).bind fun y2 => (modO s1.1 s1.2).bind fun y3 => some (y2, y3)) (one_, other_)).bind fun z1 => some ((z1.1.natAbs : Int))
noncomputable def primitive_ (numbers_ : (List Int)) : Option (List Int) :=
  (some (0)).bind fun part_ => (some (numbers_)).bind fun xs => (forN (fun (s1 : Int) (i1 : Int) => (Mir.common_ s1 i1).bind fun part_ => some part_) xs part_).bind fun z1 => (some (numbers_)).bind fun xs => mapO (fun number_ => divO number_ z1) xs
noncomputable def signed_ (numbers_ : (List Int)) : Option (List Int) :=
  (Mir.primitive_ numbers_).bind fun row_ => (some (row_)).bind fun xs => (forR (fun (s1 : Unit) (i1 : Int) => (some (decide (i1 < 0))).bind fun b => cond b (((some (row_)).bind fun xs => mapO (fun other_ => some (0 - other_)) xs).bind fun x => some (.rt x)) ((some (decide (0 < i1))).bind fun b => cond b ((some (row_)).bind fun x => some (.rt x)) (some (.nx ())))) xs ()).bind fun o1 => Sum.elim (fun z1 => some (row_)) (fun x => some x) o1
noncomputable def point_of_ (row_ : (List Int)) (zero_ : (List Int)) (line_ : (Int × Int)) : Option (List Int) :=
  (Mir.must_be_row_ row_).bind fun u1 => (Mir.seat_ zero_).bind fun t2 => (some ([0, 0, 0])).bind fun way_ => (some (line_.1)).bind fun x => (some (t2.b)).bind fun j => (setO way_ j x).bind fun way_ => (some (line_.2)).bind fun x => (some (t2.c)).bind fun j => (setO way_ j x).bind fun way_ => (((rangeC 0 3).bind fun xs => mapO (fun k_ => ((ixO row_ k_).bind fun x => (ixO way_ k_).bind fun y => mulO x y).bind fun x => (ixO way_ k_).bind fun y => mulO x y) xs).bind fun x => some (x.sum)).bind fun made_ => (((rangeC 0 3).bind fun xs => mapO (fun k_ => ((ixO row_ k_).bind fun x => (ixO zero_ k_).bind fun y => mulO x y).bind fun x => (ixO way_ k_).bind fun y => mulO x y) xs).bind fun x => some (x.sum)).bind fun both_ => ((rangeC 0 3).bind fun xs => mapO (fun k_ => ((some (made_)).bind fun x => (ixO zero_ k_).bind fun y => mulO x y).bind fun x => ((mulO 2 both_).bind fun x => (ixO way_ k_).bind fun y => mulO x y).bind fun y => some (x - y)) xs).bind fun x0 => Mir.signed_ x0
noncomputable def law_is_zero_ (law_row_ : (List Int)) (law_zero_ : (List Int)) : Option Bool :=
  (some ((!true) || (!decide ((law_zero_.length : Int) = (law_row_.length : Int))))).bind fun b => cond b (some (false)) ((some (0)).bind fun law_part_ => (some (0)).bind fun law_total_ => (rangeO 0 (law_row_.length : Int)).bind fun xs => (forR (fun (s1 : Int × Int) (i1 : Int) => ((((ixO law_zero_ i1).bind fun _ => some true).bind fun b => some (!b)).bind fun b => cond b (some true) ((ixO law_zero_ i1).bind fun _ => some false)).bind fun b => cond b ((some (false)).bind fun x => some (.rt x)) (((some (s1.1)).bind fun x0 => (ixO law_zero_ i1).bind fun x1 => Mir.law_common_ x0 x1).bind fun law_part_ => ((some (s1.2)).bind fun x => (((ixO law_row_ i1).bind fun x => (ixO law_zero_ i1).bind fun y => mulO x y).bind fun x => (ixO law_zero_ i1).bind fun y => mulO x y).bind fun y => some (x + y)).bind fun law_total_ => some (.nx (law_part_, law_total_)))) xs (law_part_, law_total_)).bind fun o1 => Sum.elim (fun z1 => some ((decide (z1.1 = 1)) && (decide (z1.2 = 0)))) (fun x => some x) o1)
def law_first_ (law_zero_ : (List Int)) : Option Int :=
  (rangeO 0 3).bind fun xs => (forR (fun (s1 : Unit) (i1 : Int) => ((ixO law_zero_ i1).bind fun x => (some (0)).bind fun y => some (!decide (x = y))).bind fun b => cond b ((some (i1)).bind fun x => some (.rt x)) (some (.nx ()))) xs ()).bind fun o1 => Sum.elim (fun z1 => some (3)) (fun x => some x) o1
def law_lies_ (law_row_ : (List Int)) (law_zero_ : (List Int)) (law_line_here_ : (Int × Int)) (law_point_ : (List Int)) : Option Bool :=
  (Mir.law_first_ law_zero_).bind fun law_h_ => ((rangeC 0 3).bind fun xs => filO (fun law_k_ => some (!decide (law_k_ = law_h_))) (fun law_k_ => some (law_k_)) xs).bind fun xs => unl2 xs fun law_i_ law_j_ => (((ixO law_point_ law_i_).bind fun x => (ixO law_zero_ law_h_).bind fun y => mulO x y).bind fun x => ((ixO law_zero_ law_i_).bind fun x => (ixO law_point_ law_h_).bind fun y => mulO x y).bind fun y => some (x - y)).bind fun law_s_ => (((ixO law_point_ law_j_).bind fun x => (ixO law_zero_ law_h_).bind fun y => mulO x y).bind fun x => ((ixO law_zero_ law_j_).bind fun x => (ixO law_point_ law_h_).bind fun y => mulO x y).bind fun y => some (x - y)).bind fun law_t_ => (some ((decide (law_s_ = 0)) && (decide (law_t_ = 0)))).bind fun b => cond b ((((ixO law_row_ law_i_).bind fun x => (ixO law_zero_ law_i_).bind fun y => mulO x y).bind fun x => (some (law_line_here_.1)).bind fun y => mulO x y).bind fun law_both_ => ((some (law_both_)).bind fun x => (((ixO law_row_ law_j_).bind fun x => (ixO law_zero_ law_j_).bind fun y => mulO x y).bind fun x => (some (law_line_here_.2)).bind fun y => mulO x y).bind fun y => some (x + y)).bind fun x => (some (0)).bind fun y => some (decide (x = y))) ((mulO law_s_ law_line_here_.2).bind fun x => (mulO law_t_ law_line_here_.1).bind fun y => some (decide (x = y)))
noncomputable def line_of_ (row_ : (List Int)) (zero_ : (List Int)) (point_ : (List Int)) : Option TK :=
  (Mir.must_be_row_ row_).bind fun u1 => (Mir.seat_ zero_).bind fun t2 => (((ixO point_ t2.b).bind fun x => (ixO zero_ t2.a).bind fun y => mulO x y).bind fun x => ((ixO zero_ t2.b).bind fun x => (ixO point_ t2.a).bind fun y => mulO x y).bind fun y => some (x - y)).bind fun s_ => (((ixO point_ t2.c).bind fun x => (ixO zero_ t2.a).bind fun y => mulO x y).bind fun x => ((ixO zero_ t2.c).bind fun x => (ixO point_ t2.a).bind fun y => mulO x y).bind fun y => some (x - y)).bind fun t_ => ((some ((decide (s_ = 0)) && (decide (t_ = 0)))).bind fun b => cond b (((ixO row_ t2.c).bind fun x => (ixO zero_ t2.c).bind fun y => mulO x y).bind fun s_ => ((some (0)).bind fun x => ((ixO row_ t2.b).bind fun x => (ixO zero_ t2.b).bind fun y => mulO x y).bind fun y => some (x - y)).bind fun t_ => some (s_, t_)) (some (s_, t_))).bind fun s3 => (Mir.signed_ ([s3.1, s3.2])).bind fun xs => some (TK.mk xs)
noncomputable def law_one_ (law_row_ : (List Int)) (law_zero_ : (List Int)) (law_line_here_ : (Int × Int)) : Option (Option (List Int)) :=
  (some ([law_row_, law_zero_])).bind fun law_handed_ => ((ixO law_handed_ 0).bind fun x0 => (ixO law_handed_ 1).bind fun x1 => (some (law_line_here_)).bind fun x2 => Mir.point_of_ x0 x1 x2).bind fun law_point_ => (((Mir.law_is_zero_ law_row_ law_point_).bind fun b => some (!b)).bind fun b => cond b (some true) ((((some (law_point_)).bind fun xs => (Mir.law_first_ law_point_).bind fun k => ixO xs k).bind fun x => (some (0)).bind fun y => some (decide (x < y))).bind fun b => cond b (some true) (some (!decide (law_handed_ = ([law_row_, law_zero_])))))).bind fun b => cond b (some (none)) (((Mir.law_lies_ law_row_ law_zero_ law_line_here_ law_point_).bind fun b => some (!b)).bind fun b => cond b (some (none)) (((ixO law_handed_ 0).bind fun x0 => (ixO law_handed_ 1).bind fun x1 => (some (law_point_)).bind fun x2 => Mir.line_of_ x0 x1 x2).bind fun law_said_ => (some ((!true) || ((!decide ((TK.tl law_said_) = (⟨[law_line_here_.1, law_line_here_.2]⟩ : (TL Int)))) || (!decide (law_handed_ = ([law_row_, law_zero_])))))).bind fun b => cond b (some (none)) ((((ixO (TK.tl law_said_).l 0).bind fun _ => some false).bind fun b => cond b (some true) ((ixO (TK.tl law_said_).l 1).bind fun _ => some false)).bind fun b => cond b (some (none)) (some (some law_point_)))))
noncomputable def point_of__2 (row_ : (List Int)) (zero_ : (List Int)) (line_ : TK) : Option (List Int) :=
  (Mir.must_be_row_ row_).bind fun u1 => (Mir.seat_ zero_).bind fun t2 => (some ([0, 0, 0])).bind fun way_ => (ixO (TK.tl line_).l 0).bind fun x => (some (t2.b)).bind fun j => (setO way_ j x).bind fun way_ => (ixO (TK.tl line_).l 1).bind fun x => (some (t2.c)).bind fun j => (setO way_ j x).bind fun way_ => (((rangeC 0 3).bind fun xs => mapO (fun k_ => ((ixO row_ k_).bind fun x => (ixO way_ k_).bind fun y => mulO x y).bind fun x => (ixO way_ k_).bind fun y => mulO x y) xs).bind fun x => some (x.sum)).bind fun made_ => (((rangeC 0 3).bind fun xs => mapO (fun k_ => ((ixO row_ k_).bind fun x => (ixO zero_ k_).bind fun y => mulO x y).bind fun x => (ixO way_ k_).bind fun y => mulO x y) xs).bind fun x => some (x.sum)).bind fun both_ => ((rangeC 0 3).bind fun xs => mapO (fun k_ => ((some (made_)).bind fun x => (ixO zero_ k_).bind fun y => mulO x y).bind fun x => ((mulO 2 both_).bind fun x => (ixO way_ k_).bind fun y => mulO x y).bind fun y => some (x - y)) xs).bind fun x0 => Mir.signed_ x0
def law_lies__2 (law_row_ : (List Int)) (law_zero_ : (List Int)) (law_line_here_ : TK) (law_point_ : (List Int)) : Option Bool :=
  (Mir.law_first_ law_zero_).bind fun law_h_ => ((rangeC 0 3).bind fun xs => filO (fun law_k_ => some (!decide (law_k_ = law_h_))) (fun law_k_ => some (law_k_)) xs).bind fun xs => unl2 xs fun law_i_ law_j_ => (((ixO law_point_ law_i_).bind fun x => (ixO law_zero_ law_h_).bind fun y => mulO x y).bind fun x => ((ixO law_zero_ law_i_).bind fun x => (ixO law_point_ law_h_).bind fun y => mulO x y).bind fun y => some (x - y)).bind fun law_s_ => (((ixO law_point_ law_j_).bind fun x => (ixO law_zero_ law_h_).bind fun y => mulO x y).bind fun x => ((ixO law_zero_ law_j_).bind fun x => (ixO law_point_ law_h_).bind fun y => mulO x y).bind fun y => some (x - y)).bind fun law_t_ => (some ((decide (law_s_ = 0)) && (decide (law_t_ = 0)))).bind fun b => cond b ((((ixO law_row_ law_i_).bind fun x => (ixO law_zero_ law_i_).bind fun y => mulO x y).bind fun x => (ixO (TK.tl law_line_here_).l 0).bind fun y => mulO x y).bind fun law_both_ => ((some (law_both_)).bind fun x => (((ixO law_row_ law_j_).bind fun x => (ixO law_zero_ law_j_).bind fun y => mulO x y).bind fun x => (ixO (TK.tl law_line_here_).l 1).bind fun y => mulO x y).bind fun y => some (x + y)).bind fun x => (some (0)).bind fun y => some (decide (x = y))) (((some (law_s_)).bind fun x => (ixO (TK.tl law_line_here_).l 1).bind fun y => mulO x y).bind fun x => ((some (law_t_)).bind fun x => (ixO (TK.tl law_line_here_).l 0).bind fun y => mulO x y).bind fun y => some (decide (x = y)))
noncomputable def law_one__2 (law_row_ : (List Int)) (law_zero_ : (List Int)) (law_line_here_ : TK) : Option (Option (List Int)) :=
  (some ([law_row_, law_zero_])).bind fun law_handed_ => ((ixO law_handed_ 0).bind fun x0 => (ixO law_handed_ 1).bind fun x1 => (some (law_line_here_)).bind fun x2 => Mir.point_of__2 x0 x1 x2).bind fun law_point_ => (((Mir.law_is_zero_ law_row_ law_point_).bind fun b => some (!b)).bind fun b => cond b (some true) ((((some (law_point_)).bind fun xs => (Mir.law_first_ law_point_).bind fun k => ixO xs k).bind fun x => (some (0)).bind fun y => some (decide (x < y))).bind fun b => cond b (some true) (some (!decide (law_handed_ = ([law_row_, law_zero_])))))).bind fun b => cond b (some (none)) (((Mir.law_lies__2 law_row_ law_zero_ law_line_here_ law_point_).bind fun b => some (!b)).bind fun b => cond b (some (none)) (((ixO law_handed_ 0).bind fun x0 => (ixO law_handed_ 1).bind fun x1 => (some (law_point_)).bind fun x2 => Mir.line_of_ x0 x1 x2).bind fun law_said_ => (some ((!true) || ((!decide ((TK.tl law_said_) = (TK.tl law_line_here_))) || (!decide (law_handed_ = ([law_row_, law_zero_])))))).bind fun b => cond b (some (none)) ((((ixO (TK.tl law_said_).l 0).bind fun _ => some false).bind fun b => cond b (some true) ((ixO (TK.tl law_said_).l 1).bind fun _ => some false)).bind fun b => cond b (some (none)) (some (some law_point_)))))
noncomputable def law_ (law_script_ : (KL Int)) : Option Bool :=
  (rangeS 0 ((min 18 (law_script_.l.length : Int)) + 1) 3).bind fun xs => (forR (fun (s1 : Unit) (i1 : Int) => ((rangeC 0 3).bind fun xs => mapO (fun law_j_ => (Mir.law_cell_at_ law_script_ (i1 + law_j_)).bind fun x0 => (some (i1 + law_j_)).bind fun x1 => Mir.law_big_ x0 x1) xs).bind fun law_cells_ => ((ixO law_cells_ 0).bind fun x0 => (ixO law_cells_ 1).bind fun x1 => Mir.law_drawn_ x0 x1).bind fun t3 => (some ((⟨[]⟩ : (DT (Int × Int))))).bind fun law_points_ => ((ixO law_cells_ 1).bind fun x0 => (ixO law_cells_ 2).bind fun x1 => Mir.law_lines_ x0 x1).bind fun xs => (forR (fun (s4 : (DT (Int × Int))) (i4 : (Int × Int)) => (Mir.law_one_ t3.1 t3.2 i4).bind fun law_point_ => ((some (law_point_.isNone)).bind fun b => cond b (some true) (((some (s4)).bind fun d => ((law_point_).bind fun xs => some (TK.mk xs)).bind fun k => (some (i4)).bind fun z => some (tgetD d k z)).bind fun x => (some (i4)).bind fun y => some (!decide (x = y)))).bind fun b => cond b ((some (false)).bind fun x => some (.rt x)) ((some (i4)).bind fun x => ((law_point_).bind fun xs => some (TK.mk xs)).bind fun j => (tputO s4 j x).bind fun law_points_ => some (.nx law_points_))) xs law_points_).bind fun o4 => Sum.elim (fun z4 => (some (t3.2)).bind fun law_here_ => ((((some (law_here_)).bind fun xs => (Mir.law_first_ law_here_).bind fun k => ixO xs k).bind fun x => (some (0)).bind fun y => some (decide (x < y))).bind fun b => cond b (((some (t3.2)).bind fun xs => mapO (fun law_number_ => some (0 - law_number_)) xs).bind fun law_here_ => some law_here_) (some law_here_)).bind fun s6 => (((some (t3.1)).bind fun x0 => (some (t3.2)).bind fun x1 => (Mir.line_of_ t3.1 t3.2 s6).bind fun x2 => Mir.law_one__2 x0 x1 x2).bind fun x => (some (some s6)).bind fun y => some (!decide (x = y))).bind fun b => cond b ((some (false)).bind fun x => some (.rt x)) (some (.nx ()))) (fun x => some (.rt x)) o4) xs ()).bind fun o1 => Sum.elim (fun z1 => some (true)) (fun x => some x) o1
end Mir
end Mi
/-! primes: what the two searches tell -/
namespace Mi
/-- a prime, by its divisors -/
def Pr (k : Int) : Prop := 2 ≤ k ∧ ∀ e, 2 ≤ e → e < k → ¬ e ∣ k
/-- .. it is enough to look up to the root -/
theorem pr_of {k d : Int} (h2 : 2 ≤ k) (hd : 0 ≤ d) (h : k < d * d) (hn : ∀ e, 2 ≤ e → e < d → ¬ e ∣ k) : Pr k := by
  refine ⟨h2, fun e h3 h4 hdv => ?_⟩
  by_cases he : e < d
  · exact hn e h3 he hdv
  · obtain ⟨f, rfl⟩ := hdv
    have hf : 0 < f := by
      refine Int.lt_of_mul_lt_mul_left (a := e) ?_ (by omega)
      rw [Int.mul_zero]
      omega
    have hf2 : f ≠ 1 := by
      intro h
      subst h
      omega
    refine hn f (by omega) ?_ ⟨e, Int.mul_comm _ _⟩
    refine Int.not_le.mp fun h5 => ?_
    have : d * d ≤ e * f := Int.mul_le_mul (by omega) h5 hd (by omega)
    omega
theorem sq_mono {a b : Int} (h : 0 ≤ a) (l : a ≤ b) : a * a ≤ b * b := Int.mul_le_mul l l h (by omega)
theorem sq_big {d k n : Int} (hn : 0 ≤ n) (h : d * d ≤ k) (hk : k < n * n) : d < n := by
  refine Int.not_le.mp fun h2 => ?_
  have := sq_mono hn h2
  omega
theorem fmod_zero {k d : Int} (h : 0 < d) : (k % d = 0) ↔ d ∣ k := ⟨Int.dvd_of_emod_eq_zero, Int.emod_eq_zero_of_dvd⟩
end Mi

/-! whole roots by halving -/
namespace Mi
theorem bits_lt (k : Int) : k.natAbs < 2 ^ PySem.Builtin.Int.intBits k := by
  unfold PySem.Builtin.Int.intBits
  by_cases h : k = 0
  · subst h
    decide
  · rw [if_neg (by simpa using h)]
    exact (Nat.log2_lt (by omega)).mp (Nat.lt_succ_self _)
theorem bits_le {k : Int} {n : Nat} (h : Sz n k) : PySem.Builtin.Int.intBits k ≤ n := by
  unfold PySem.Builtin.Int.intBits
  by_cases h0 : k = 0
  · subst h0
    exact Nat.zero_le _
  · rw [if_neg (by simpa using h0)]
    exact (Nat.log2_lt (by omega)).mpr h
theorem pow_two_le (n : Nat) : 2 ^ n ≤ 2 ^ (n / 2 + 1) * 2 ^ (n / 2 + 1) := by
  rw [← Nat.pow_add]
  exact Nat.pow_le_pow_right (by decide) (by omega)
def IsRoot (k r : Int) : Prop := 0 ≤ r ∧ r * r ≤ k ∧ k < (r + 1) * (r + 1)
theorem IsRoot.uniq {k r s : Int} (h : IsRoot k r) (g : IsRoot k s) : r = s := by
  obtain ⟨h1, h2, h3⟩ := h
  obtain ⟨g1, g2, g3⟩ := g
  have a : r < s + 1 := Int.not_le.mp fun l => by
    have := sq_mono (by omega) l
    omega
  have b : s < r + 1 := Int.not_le.mp fun l => by
    have := sq_mono (by omega) l
    omega
  omega
theorem IsRoot.sq {k r : Int} (h : IsRoot k r) : r * r = k ↔ ∃ x : Int, x * x = k := by
  refine ⟨fun e => ⟨r, e⟩, fun ⟨x, hx⟩ => ?_⟩
  have h0 : IsRoot k (x.natAbs : Int) := by
    have e : (x.natAbs : Int) * (x.natAbs : Int) = k := by rw [← hx]; exact Int.natAbs_mul_self
    refine ⟨Int.natCast_nonneg _, by omega, ?_⟩
    rw [← e]
    have := Int.natCast_nonneg x.natAbs
    exact Int.mul_self_lt_mul_self this (by omega)
  rw [h.uniq h0, ← hx]
  exact Int.natAbs_mul_self
theorem IsRoot.of_sq {r : Int} (h : 0 ≤ r) : IsRoot (r * r) r := ⟨h, Int.le_refl _, Int.mul_self_lt_mul_self h (by omega)⟩
theorem IsRoot.size {k r : Int} {n : Nat} (h : IsRoot k r) (hk : Sz n k) : Sz n r := by
  refine hk.le ?_
  obtain ⟨h1, h2, h3⟩ := h
  by_cases h0 : r = 0
  · subst h0
    exact Nat.zero_le _
  · have : r * 1 ≤ r * r := Int.mul_le_mul_of_nonneg_left (by omega) h1
    omega
end Mi
namespace Mi
theorem ex_root {k : Int} (hk : 0 ≤ k) : ∃ r, IsRoot k r := by
  obtain ⟨n, rfl⟩ := Int.eq_ofNat_of_zero_le hk
  induction n with
  | zero => exact ⟨0, by decide, by decide, by decide⟩
  | succ n ih =>
    obtain ⟨r, h1, h2, h3⟩ := ih (Int.natCast_nonneg _)
    by_cases h : ((n + 1 : Nat) : Int) < (r + 1) * (r + 1)
    · exact ⟨r, h1, by omega, h⟩
    · refine ⟨r + 1, by omega, by omega, ?_⟩
      have h4 : (r + 1 + 1) * (r + 1 + 1) = (r + 1) * (r + 1) + 2 * r + 3 := by grind
      omega
end Mi

/-! the great drawn number of laws k37 on -/
namespace Mi
theorem cell_at_tot (l : List Int) (k : Int) (h : 0 ≤ k) (hb : ∀ z ∈ l, Sz 1048576 z) : Tot (Mir.law_cell_at_ ⟨l⟩ k) fun c => Sz 1048576 c := by
  unfold Mir.law_cell_at_
  simp only [bS, bA, bI]
  refine tot_if (fun h1 => ?_) fun _ => tot_some (Sz.mono (m := 1) (by decide) (by decide))
  obtain ⟨x, e, hx⟩ := ixO_in h h1
  exact tot_eq e (hb x hx)
theorem big_tot {c k : Int} (h : 0 ≤ k) (hk : k ≤ 1000) (sc : Sz 1048576 c) : Tot (Mir.law_big_ c k) fun n => Sz 1048576 n := by
  unfold Mir.law_big_
  simp only [bS, bA, bI]
  refine tot_if (fun _ => tot_some sc) fun h1 => ?_
  rw [rangeO_s (by decide) (by decide) (by decide) (by decide)]
  simp only [bS]
  refine tot_forI2 (fun i s => Sz (33 * i.toNat + 33) s) (by decide) (by show Sz 33 0; decide) (fun i s h3 h4 hs => ?_) fun s h => h.mono (by decide)
  have hm : 0 ≤ (c.natAbs : Int) % 2147483647 ∧ (c.natAbs : Int) % 2147483647 < 2147483647 := ⟨Int.emod_nonneg _ (by decide), Int.emod_lt_of_pos _ (by decide)⟩
  generalize (c.natAbs : Int) % 2147483647 = m at hm
  rw [mulO_s (by omega) (by omega) (by omega) (by omega), mulO_s (by omega) (by omega) (by omega) (by omega)]
  simp only [bS]
  rw [mulO_s (by omega) (by omega) (by omega) (by omega)]
  simp only [bS]
  have hii : 0 ≤ i * i ∧ i * i ≤ 9 * 9 := ⟨Int.mul_nonneg h3 h3, Int.mul_le_mul (by omega) (by omega) h3 (by decide)⟩
  rw [mulO_s (by omega) (by omega) (by omega) (by omega)]
  simp only [bS]
  generalize (m + 97 * k + 131 * i + 13) * (16807 + i * i + k) = z
  have hz : 0 ≤ z % 2147483647 ∧ z % 2147483647 < 2147483647 := ⟨Int.emod_nonneg _ (by decide), Int.emod_lt_of_pos _ (by decide)⟩
  rw [mulO_sz hs (n := 32) (by decide) (by omega), mulO_s (by omega) (by omega) (by omega) (by omega)]
  simp only [bS]
  refine tot_some ?_
  have e : 33 * (i + 1).toNat + 33 = 33 * i.toNat + 33 + 32 + 1 := by omega
  rw [e]
  have hA : Sz (33 * i.toNat + 33 + 32) (s * 2147483659) := hs.mul (n := 32) (by decide)
  refine Sz.add hA (Sz.mono (m := 32) ?_ (by omega))
  have := Int.emod_nonneg (z % 2147483647 * 48271) (show (2147483647 : Int) ≠ 0 by decide)
  have := Int.emod_lt_of_pos (z % 2147483647 * 48271) (show (0 : Int) < 2147483647 by decide)
  unfold Sz
  omega
end Mi

/-! rows, and whether they have a zero at a place -/
namespace Mi
def Row (r : List Int) : Prop := 1 ≤ r.length ∧ r.length ≤ 8 ∧ ∀ k ∈ r, k ≠ 0 ∧ k.natAbs < 1073741824
def Szs (n : Nat) (r : List Int) : Prop := ∀ k ∈ r, k ≠ 0 ∧ Sz n k
theorem is_row_eq {r : List Int} (h : Row r) : Mir.is_row_ r = some true := by
  refine Tot.is ?_
  unfold Mir.is_row_
  simp only [bS, bA, bI]
  rw [decide_eq_false (show ¬ (r.length : Int) < 1 by have := h.1; omega), decide_eq_false (show ¬ 8 < (r.length : Int) by have := h.2.1; omega)]
  simp only [bS, Bool.or_false, cond_false]
  refine tot_bind (Q := fun o => o = .inl ()) (tot_forRI (fun _ => True) trivial (fun i s hi _ => ?_) fun _ _ => rfl) fun o ho => by subst ho; exact tot_some rfl
  obtain ⟨h1, h2⟩ := h.2.2 i hi
  rw [decide_eq_false h1, decide_eq_false (show ¬ 1073741824 ≤ (i.natAbs : Int) by omega)]
  exact tot_some trivial
theorem must_be_row_eq {r : List Int} (h : Row r) : Mir.must_be_row_ r = some () := by
  unfold Mir.must_be_row_
  rw [is_row_eq h]
  rfl
end Mi

/-! fractions: the pair of a rational number -/
namespace Mi
theorem fmod_small {a b : Int} (hb : b ≠ 0) : (a.fmod b).natAbs < b.natAbs := by
  rw [Int.fmod_eq_emod]
  have h1 := Int.emod_nonneg a hb
  have h2 := Int.emod_lt a hb
  split
  · omega
  · rename_i h
    have : a % b ≠ 0 := fun e => h (Or.inr (Int.dvd_of_emod_eq_zero e))
    omega
theorem gcd_fmod (a b : Int) : Int.gcd b (a.fmod b) = Int.gcd a b := by
  rw [Int.fmod_def, Int.gcd_sub_mul_left_right, Int.gcd_comm]
/-- the pair of a rational -/
def fr (q : Rat) : Int × Int := (q.num, (q.den : Int))
theorem fr_inj {p q : Rat} (h : fr p = fr q) : p = q := by
  injection h with h1 h2
  exact Rat.ext h1 (by exact_mod_cast h2)
theorem fr_eq {p q : Rat} : fr p = fr q ↔ p = q := ⟨fr_inj, fun h => h ▸ rfl⟩
theorem fr_den_pos (q : Rat) : 0 < (fr q).2 := by
  have := q.den_nz
  show (0 : Int) < (q.den : Int)
  omega
/-- what is in lowest terms is the pair of its quotient -/
theorem fr_of {a b : Int} (hb : 1 ≤ b) (h : Int.gcd a b = 1) : (a, b) = fr (Rat.divInt a b) := by
  have hs : b.sign = 1 := Int.sign_eq_one_of_pos (by omega)
  have hg : Int.gcd b a = 1 := by rw [Int.gcd_comm]; exact h
  unfold fr
  rw [Rat.num_divInt, Rat.den_divInt, if_neg (by omega), hs, hg, Int.one_mul]
  simp
  omega
theorem fr_gcd (q : Rat) : Int.gcd (fr q).1 (fr q).2 = 1 := by
  have := q.reduced
  show Int.gcd q.num (q.den : Int) = 1
  unfold Int.gcd
  exact this
theorem fr_divInt (q : Rat) : Rat.divInt (fr q).1 (fr q).2 = q := Rat.num_divInt_den q
/-- both sides multiplied out -/
theorem divInt_iff {a b c d : Int} (hb : b ≠ 0) (hd : d ≠ 0) : Rat.divInt a b = Rat.divInt c d ↔ a * d = c * b := Rat.divInt_eq_divInt_iff hb hd
theorem fr_cross {q : Rat} {a b : Int} (hb : b ≠ 0) : q = Rat.divInt a b ↔ (fr q).1 * b = a * (fr q).2 := by
  have h2 := fr_den_pos q
  conv => lhs; lhs; rw [← fr_divInt q]
  exact divInt_iff (by omega) hb
/-- the sizes of top and bottom -/
def Sq (n : Nat) (q : Rat) : Prop := Sz n (fr q).1 ∧ Sz n (fr q).2
theorem Sq.mono {m n : Nat} {q : Rat} (h : Sq m q) (l : m ≤ n) : Sq n q := ⟨h.1.mono l, h.2.mono l⟩
theorem sq_divInt {n : Nat} {a b : Int} (ha : Sz n a) (hb : Sz n b) (h1 : 1 ≤ n) : Sq n (Rat.divInt a b) := by
  refine ⟨?_, ?_⟩
  · show Sz n (Rat.divInt a b).num
    rw [Rat.num_divInt]
    refine ha.le (Nat.le_trans (Int.natAbs_ediv_le_natAbs _ _) ?_)
    rw [Int.natAbs_mul]
    have : b.sign.natAbs ≤ 1 := by
      rw [Int.natAbs_sign]
      split <;> omega
    calc b.sign.natAbs * a.natAbs ≤ 1 * a.natAbs := Nat.mul_le_mul_right _ this
      _ = a.natAbs := Nat.one_mul _
  · show Sz n ((Rat.divInt a b).den : Int)
    rw [Rat.den_divInt]
    split
    · exact Sz.mono (m := 1) (by decide) h1
    · refine hb.le ?_
      show b.natAbs / _ ≤ _
      exact Nat.div_le_self _ _
theorem frac_divs {a b : Int} {n : Nat} (hb : b ≠ 0) (sb : Sz n b) (hn : n ≤ 9000) : divO a (if b < 0 then -(Int.gcd a b : Int) else (Int.gcd a b : Int)) = some (fr (Rat.divInt a b)).1 ∧ divO b (if b < 0 then -(Int.gcd a b : Int) else (Int.gcd a b : Int)) = some (fr (Rat.divInt a b)).2 := by
  have hg : Int.gcd a b ≠ 0 := fun e => hb (Int.gcd_eq_zero_iff.mp e).2
  have hg1 : ((Int.gcd a b : Nat) : Int) ∣ a := Int.gcd_dvd_left a b
  have hg2 : ((Int.gcd a b : Nat) : Int) ∣ b := Int.gcd_dvd_right a b
  have e1 : Int.gcd b a = Int.gcd a b := Int.gcd_comm b a
  unfold fr
  rw [Rat.num_divInt, Rat.den_divInt, if_neg hb, e1]
  generalize hgg : Int.gcd a b = g at hg hg1 hg2 ⊢
  have sg : Sz n (g : Int) := sb.le (dvd_le hg2 hb)
  by_cases h : b < 0
  · rw [if_pos h, divO_sz (by omega) sg.neg hn, divO_sz (by omega) sg.neg hn, Int.sign_eq_neg_one_of_neg h]
    rw [Int.fdiv_eq_ediv_of_dvd (Int.neg_dvd.mpr hg1), Int.fdiv_eq_ediv_of_dvd (Int.neg_dvd.mpr hg2), Int.ediv_neg, Int.ediv_neg, Int.neg_one_mul, Int.neg_ediv_of_dvd hg1]
    have : -(b / (g : Int)) = ((b.natAbs / g : Nat) : Int) := by
      rw [← Int.neg_ediv_of_dvd hg2, Int.natCast_ediv]
      congr 1
      omega
    rw [this]
    exact ⟨rfl, rfl⟩
  · rw [if_neg h, divO_sz (by omega) sg hn, divO_sz (by omega) sg hn, Int.sign_eq_one_of_pos (by omega)]
    rw [Int.fdiv_eq_ediv_of_dvd hg1, Int.fdiv_eq_ediv_of_dvd hg2, Int.one_mul]
    have : b / (g : Int) = ((b.natAbs / g : Nat) : Int) := by
      rw [Int.natCast_ediv]
      congr 1
      omega
    rw [this]
    exact ⟨rfl, rfl⟩
theorem fr1_ne {q : Rat} : (fr q).1 ≠ 0 ↔ q ≠ 0 := by
  show q.num ≠ 0 ↔ _
  rw [Ne, Rat.num_eq_zero]
theorem add_divInt (p q : Rat) : p + q = Rat.divInt ((fr p).1 * (fr q).2 + (fr q).1 * (fr p).2) ((fr p).2 * (fr q).2) := by
  have h1 := fr_den_pos p
  have h2 := fr_den_pos q
  conv => lhs; rw [← fr_divInt p, ← fr_divInt q, Rat.divInt_add_divInt _ _ (by omega) (by omega)]
theorem sub_divInt (p q : Rat) : p - q = Rat.divInt ((fr p).1 * (fr q).2 - (fr q).1 * (fr p).2) ((fr p).2 * (fr q).2) := by
  have h1 := fr_den_pos p
  have h2 := fr_den_pos q
  conv => lhs; rw [← fr_divInt p, ← fr_divInt q, Rat.divInt_sub_divInt _ _ (by omega) (by omega)]
theorem mul_divInt (p q : Rat) : p * q = Rat.divInt ((fr p).1 * (fr q).1) ((fr p).2 * (fr q).2) := by
  conv => lhs; rw [← fr_divInt p, ← fr_divInt q, Rat.divInt_mul_divInt]
theorem div_divInt (p q : Rat) : p / q = Rat.divInt ((fr p).1 * (fr q).2) ((fr p).2 * (fr q).1) := by
  conv => lhs; rw [Rat.div_def, ← fr_divInt p, ← fr_divInt q, Rat.inv_divInt, Rat.divInt_mul_divInt]
theorem den_mul_ne (p q : Rat) : (fr p).2 * (fr q).2 ≠ 0 := Int.mul_ne_zero (by have := fr_den_pos p; omega) (by have := fr_den_pos q; omega)
theorem den_mul_ne1 (p : Rat) {q : Rat} (h : q ≠ 0) : (fr p).2 * (fr q).1 ≠ 0 := Int.mul_ne_zero (by have := fr_den_pos p; omega) (fr1_ne.mpr h)
section
variable {p q : Rat} {m n : Nat}
theorem Sq.add (hp : Sq m p) (hq : Sq n q) : Sq (m + n + 1) (p + q) := by
  rw [add_divInt]
  refine sq_divInt ((hp.1.mul hq.2).add ?_) ((hp.2.mul hq.2).mono (by omega)) (by omega)
  exact (hq.1.mul hp.2).mono (by omega)
theorem Sq.sub (hp : Sq m p) (hq : Sq n q) : Sq (m + n + 1) (p - q) := by
  rw [sub_divInt]
  refine sq_divInt ((hp.1.mul hq.2).sub ?_) ((hp.2.mul hq.2).mono (by omega)) (by omega)
  exact (hq.1.mul hp.2).mono (by omega)
theorem Sq.pos (h : Sq n q) : 1 ≤ n := by
  refine Nat.pos_of_ne_zero fun e => ?_
  subst e
  have := h.2
  have := fr_den_pos q
  unfold Sz at *
  omega
theorem Sq.mul (hp : Sq m p) (hq : Sq n q) : Sq (m + n) (p * q) := by
  rw [mul_divInt]
  have := hp.pos
  exact sq_divInt (hp.1.mul hq.1) (hp.2.mul hq.2) (by omega)
theorem Sq.div (hp : Sq m p) (hq : Sq n q) : Sq (m + n) (p / q) := by
  rw [div_divInt]
  have := hp.pos
  exact sq_divInt (hp.1.mul hq.2) (hp.2.mul hq.1) (by omega)
theorem Sq.neg (hp : Sq m p) : Sq m (-p) := ⟨hp.1.neg, hp.2⟩
end
theorem common_eq (a b : Int) : Mir.common_ a b = some (Int.gcd a b : Int) := by
  refine Tot.is ?_
  unfold Mir.common_
  refine tot_bind (Q := fun s => s.1.natAbs = Int.gcd a b) (tot_while (fun s => Int.gcd s.1 s.2 = Int.gcd a b) (fun s => s.2.natAbs) rfl fun s hs => tot_some ⟨fun ht => ?_, fun hf => ?_⟩) fun s hs => tot_some (by rw [hs])
  · have h0 : s.2 ≠ 0 := by simpa using ht
    simp only [bS]
    rw [modO_ne h0]
    exact tot_some ⟨by rw [gcd_fmod]; exact hs, fmod_small h0⟩
  · have h0 : s.2 = 0 := by simpa using hf
    rw [h0, Int.gcd_zero] at hs
    exact hs
end Mi

/-! conditions that are settled, not by rfl: the kernel is not to unfold what stands in their branches -/
namespace Mi
theorem cF {α : Type} {a b : α} : cond false a b = b := by
  have h : ∀ c : Bool, c = false → cond c a b = b := fun c e => by subst e; rfl
  exact h false rfl
theorem cT {α : Type} {a b : α} : cond true a b = a := by
  have h : ∀ c : Bool, c = true → cond c a b = a := fun c e => by subst e; rfl
  exact h true rfl
theorem cnT {α : Type} {a b : α} : cond (!true) a b = b := cF
theorem cnF {α : Type} {a b : α} : cond (!false) a b = a := cT
theorem eL {α β γ : Type} {f : α → γ} {g : β → γ} {a : α} : Sum.elim f g (.inl a) = f a := by
  have h : ∀ o : Sum α β, o = .inl a → Sum.elim f g o = f a := fun o e => by subst e; rfl
  exact h _ rfl
theorem eR {α β γ : Type} {f : α → γ} {g : β → γ} {b : β} : Sum.elim f g (.inr b) = g b := by
  have h : ∀ o : Sum α β, o = .inr b → Sum.elim f g o = g b := fun o e => by subst e; rfl
  exact h _ rfl
end Mi

/-! the begin and the rest of a list -/
namespace Mi
theorem cut_take {α : Type} {x : List α} {m : Nat} (h : m ≤ x.length) : cutL x none (some (m : Int)) = x.take m := by
  show (x.drop 0).take ((if (m : Int) < 0 then max ((m : Int) + x.length) 0 else min (m : Int) x.length).toNat - 0) = _
  rw [if_neg (by omega), List.drop_zero, show (min (m : Int) (x.length : Int)).toNat - 0 = m by omega]
theorem cut_take' {α : Type} {x : List α} {m : Nat} : cutL x none (some (m : Int)) = x.take (min m x.length) := by
  show (x.drop 0).take ((if (m : Int) < 0 then max ((m : Int) + x.length) 0 else min (m : Int) x.length).toNat - 0) = _
  rw [if_neg (by omega), List.drop_zero, show (min (m : Int) (x.length : Int)).toNat - 0 = min m x.length by omega]
theorem cut_drop {α : Type} {x : List α} {m : Nat} (h : m ≤ x.length) : cutL x (some (m : Int)) none = x.drop m := by
  show (x.drop (if (m : Int) < 0 then max ((m : Int) + x.length) 0 else min (m : Int) x.length).toNat).take (x.length - (if (m : Int) < 0 then max ((m : Int) + x.length) 0 else min (m : Int) x.length).toNat) = _
  rw [if_neg (by omega), show (min (m : Int) (x.length : Int)).toNat = m by omega, List.take_of_length_le (by rw [List.length_drop]; omega)]
end Mi
namespace Mi
theorem mapO_all {α β : Type} {f : α → Option β} {g : α → β} : ∀ {xs : List α}, (∀ x ∈ xs, f x = some (g x)) → mapO f xs = some (xs.map g)
  | [], _ => rfl
  | x :: xs, h => by
    unfold mapO
    rw [h x List.mem_cons_self, mapO_all fun y hy => h y (List.mem_cons_of_mem _ hy)]
    rfl
end Mi

/-! lists of whole numbers without a common divisor, the first that isn't nought above nought -/
namespace Mi
def gg : List Int → Nat
  | [] => 0
  | x :: l => Int.gcd x (gg l : Int)
def sg1 : List Int → Int
  | [] => 1
  | x :: l => if x < 0 then -1 else if 0 < x then 1 else sg1 l
def nrm (l : List Int) : List Int := (l.map fun x => x / (gg l : Int)).map fun x => sg1 (l.map fun x => x / (gg l : Int)) * x
theorem sg1_vals : ∀ l : List Int, sg1 l = 1 ∨ sg1 l = -1
  | [] => .inl rfl
  | x :: l => by
    unfold sg1
    split
    · exact .inr rfl
    · split
      · exact .inl rfl
      · exact sg1_vals l
theorem gg_dvd : ∀ {l : List Int} {x : Int}, x ∈ l → (gg l : Int) ∣ x
  | y :: l, x, h => by
    rcases List.mem_cons.mp h with e | h
    · rw [e]; exact Int.gcd_dvd_left ..
    · exact Int.dvd_trans (Int.gcd_dvd_right ..) (gg_dvd h)
theorem gg_mul (c : Int) : ∀ l : List Int, gg (l.map fun x => c * x) = c.natAbs * gg l
  | [] => rfl
  | x :: l => by
    show Int.gcd (c * x) (gg (l.map fun x => c * x) : Int) = c.natAbs * Int.gcd x (gg l : Int)
    rw [gg_mul c l, ← Int.gcd_mul_left]
    unfold Int.gcd
    simp only [Int.natAbs_natCast, Int.natAbs_mul]
theorem sg1_neg : ∀ {l : List Int}, gg l ≠ 0 → sg1 (l.map fun x => -1 * x) = -sg1 l
  | [], h => absurd rfl h
  | x :: l, h => by
    show (if -1 * x < 0 then (-1 : Int) else if 0 < -1 * x then 1 else sg1 (l.map fun x => -1 * x)) = -(if x < 0 then (-1 : Int) else if 0 < x then 1 else sg1 l)
    by_cases h1 : x < 0
    · rw [if_neg (by omega), if_pos (by omega), if_pos h1]; rfl
    · by_cases h2 : 0 < x
      · rw [if_pos (by omega), if_neg h1, if_pos h2]
      · have hx : x = 0 := by omega
        rw [if_neg (by omega), if_neg (by omega), if_neg h1, if_neg h2]
        refine sg1_neg fun e => h ?_
        show Int.gcd x (gg l : Int) = 0
        rw [e, hx]; rfl
theorem gg_div {l : List Int} (h : gg l ≠ 0) : gg (l.map fun x => x / (gg l : Int)) = 1 := by
  have e : l = (l.map fun x => x / (gg l : Int)).map fun x => (gg l : Int) * x := by
    rw [List.map_map]
    refine (List.map_id l).symm.trans (List.map_congr_left fun x hx => ?_)
    exact (Int.mul_ediv_cancel' (gg_dvd hx)).symm
  have := gg_mul (gg l : Int) (l.map fun x => x / (gg l : Int))
  rw [← e, Int.natAbs_natCast] at this
  have h1 : gg l * gg (l.map fun x => x / (gg l : Int)) = gg l * 1 := by rw [Nat.mul_one]; exact this.symm
  exact Nat.eq_of_mul_eq_mul_left (Nat.pos_of_ne_zero h) h1
theorem nrm_gg {l : List Int} (h : gg l ≠ 0) : gg (nrm l) = 1 := by
  unfold nrm
  rw [gg_mul, gg_div h]
  rcases sg1_vals (l.map fun x => x / (gg l : Int)) with e | e <;> rw [e] <;> rfl
theorem nrm_sg {l : List Int} (h : gg l ≠ 0) : sg1 (nrm l) = 1 := by
  unfold nrm
  rcases sg1_vals (l.map fun x => x / (gg l : Int)) with e | e <;> rw [e]
  · rw [show (fun x : Int => 1 * x) = id from funext fun x => Int.one_mul x, List.map_id]; exact e
  · rw [sg1_neg (by rw [gg_div h]; decide), e]; rfl
/-- the factor that is left out -/
theorem nrm_of {l : List Int} (h : gg l ≠ 0) : ∃ c : Int, c ≠ 0 ∧ l = (nrm l).map fun x => c * x := by
  refine ⟨sg1 (l.map fun x => x / (gg l : Int)) * (gg l : Int), Int.mul_ne_zero (by rcases sg1_vals (l.map fun x => x / (gg l : Int)) with e | e <;> rw [e] <;> decide) (by omega), ?_⟩
  unfold nrm
  rw [List.map_map, List.map_map]
  refine (List.map_id l).symm.trans (List.map_congr_left fun x hx => ?_)
  have hd := Int.mul_ediv_cancel' (gg_dvd hx)
  show x = sg1 (l.map fun x => x / (gg l : Int)) * (gg l : Int) * (sg1 (l.map fun x => x / (gg l : Int)) * (x / (gg l : Int)))
  rcases sg1_vals (l.map fun x => x / (gg l : Int)) with e | e <;> rw [e]
  · rw [Int.one_mul, Int.one_mul]; exact hd.symm
  · generalize x / (gg l : Int) = y at hd
    rw [← hd]
    grind
theorem norm_one {u v : List Int} {a b : Int} (hu : gg u = 1) (hv : gg v = 1) (su : sg1 u = 1) (sv : sg1 v = 1) (ha : a ≠ 0) (e : (u.map fun x => a * x) = v.map fun x => b * x) : u = v := by
  have h1 : a.natAbs = b.natAbs := by
    have := congrArg gg e
    rwa [gg_mul, gg_mul, hu, hv, Nat.mul_one, Nat.mul_one] at this
  have inj : ∀ {x y : List Int}, ((x.map fun z => a * z) = y.map fun z => a * z) → x = y := fun {x y} h => List.map_inj_right (fun _ _ h => Int.eq_of_mul_eq_mul_left ha h) |>.mp h
  rcases Int.natAbs_eq_natAbs_iff.mp h1 with h | h
  · rw [← h] at e
    exact inj e
  · have hb : b = -a := by omega
    rw [hb] at e
    have e2 : u = v.map fun x => -1 * x := by
      refine inj ?_
      rw [e, List.map_map]
      exact List.map_congr_left fun x _ => by show -a * x = a * (-1 * x); grind
    rw [e2, sg1_neg (by rw [hv]; decide), sv] at su
    cases su
theorem nrm_eq2 {l v : List Int} {a b : Int} (hv : gg v = 1) (sv : sg1 v = 1) (ha : a ≠ 0) (hb : b ≠ 0) (e : (l.map fun x => a * x) = v.map fun x => b * x) : gg l ≠ 0 ∧ nrm l = v := by
  have h0 : gg l ≠ 0 := fun h => by
    have := congrArg gg e
    rw [gg_mul, gg_mul, h, hv] at this
    omega
  obtain ⟨c, hc, el⟩ := nrm_of h0
  refine ⟨h0, norm_one (a := a * c) (b := b) (nrm_gg h0) hv (nrm_sg h0) sv (Int.mul_ne_zero ha hc) ?_⟩
  rw [← e]
  conv => rhs; rw [el]
  rw [List.map_map]
  exact List.map_congr_left fun x _ => by show a * c * x = a * (c * x); rw [Int.mul_assoc]
theorem nrm_eq {l v : List Int} {a b : Int} (hv : gg v = 1) (sv : sg1 v = 1) (ha : a ≠ 0) (hb : b ≠ 0) (e : (l.map fun x => a * x) = v.map fun x => b * x) : nrm l = v := (nrm_eq2 hv sv ha hb e).2
theorem gcd_loop : ∀ (l : List Int) (s : Int), forN (fun (s1 : Int) (i1 : Int) => Mir.common_ s1 i1) l s = some (if l = [] then s else (Int.gcd s (gg l : Int) : Int))
  | [], s => rfl
  | x :: l, s => by
    show (Mir.common_ s x).bind (fun s => forN _ l s) = _
    rw [common_eq, bS, gcd_loop l, if_neg (List.cons_ne_nil x l)]
    refine congrArg some ?_
    by_cases h : l = []
    · subst h
      rw [if_pos rfl]
      show (Int.gcd s x : Int) = (Int.gcd s (Int.gcd x ((0 : Nat) : Int) : Int) : Int)
      unfold Int.gcd
      simp
    · rw [if_neg h]
      show (Int.gcd (Int.gcd s x : Int) (gg l : Int) : Int) = (Int.gcd s (Int.gcd x (gg l : Int) : Int) : Int)
      rw [Int.gcd_assoc]
theorem primitive_eqL {l : List Int} {n : Nat} (h : gg l ≠ 0) (sg : Sz n (gg l : Int)) (hn : n ≤ 9000) : Mir.primitive_ l = some (l.map fun x => x / (gg l : Int)) := by
  unfold Mir.primitive_
  simp only [bS, bA, bI]
  rw [gcd_loop]
  have hl : l ≠ [] := fun e => by rw [e] at h; exact h rfl
  have e : (Int.gcd 0 (gg l : Int) : Int) = (gg l : Int) := by rw [Int.zero_gcd, Int.natAbs_natCast]
  rw [if_neg hl, e]
  simp only [bS]
  exact mapO_all fun x _ => divO_pos (by omega) sg hn
theorem signed_loop (row : List Int) : ∀ l : List Int, Tot (forR (fun (_ : Unit) (i1 : Int) => cond (decide (i1 < 0)) (some (Fl.rt (row.map fun x => 0 - x))) (cond (decide (0 < i1)) (some (Fl.rt row)) (some (Fl.nx ())))) l ()) fun o => Sum.elim (fun _ => row) (fun x => x) o = row.map fun x => sg1 l * x
  | [] => tot_some (by
    show row = row.map fun x => 1 * x
    rw [show (fun x : Int => 1 * x) = id from funext fun x => Int.one_mul x, List.map_id])
  | x :: l => by
    unfold forR
    by_cases h1 : x < 0
    · rw [decide_eq_true h1]
      refine tot_some ?_
      show (row.map fun x => 0 - x) = row.map fun y => sg1 (x :: l) * y
      refine List.map_congr_left fun y _ => ?_
      rw [show sg1 (x :: l) = -1 from if_pos h1]
      omega
    · by_cases h2 : 0 < x
      · rw [decide_eq_false h1, decide_eq_true h2]
        refine tot_some ?_
        show row = row.map fun y => sg1 (x :: l) * y
        rw [show sg1 (x :: l) = 1 from (if_neg h1).trans (if_pos h2), show (fun x : Int => 1 * x) = id from funext fun x => Int.one_mul x, List.map_id]
      · rw [decide_eq_false h1, decide_eq_false h2, show sg1 (x :: l) = sg1 l from (if_neg h1).trans (if_neg h2)]
        exact signed_loop row l
theorem signed_eq {l : List Int} {n : Nat} (h : gg l ≠ 0) (sg : Sz n (gg l : Int)) (hn : n ≤ 9000) : Mir.signed_ l = some (nrm l) := by
  refine Tot.is ?_
  unfold Mir.signed_
  rw [primitive_eqL h sg hn]
  simp only [bS, bA, bI]
  have hm : ∀ row : List Int, mapO (fun x => some (0 - x)) row = some (row.map fun x => 0 - x) := fun row => mapO_all fun _ _ => rfl
  rw [hm]
  simp only [bS]
  obtain ⟨o, e, ho⟩ := signed_loop (l.map fun x => x / (gg l : Int)) (l.map fun x => x / (gg l : Int))
  rw [e, bS]
  refine tot_eq (a := nrm l) ?_ rfl
  unfold nrm
  rw [← ho]
  cases o <;> rfl
end Mi

/-! lines through a zero of a row of three, and the points on them -/
namespace Mi
section
variable {ah ai aj zh zi zj ph pi pj : Int}
/-- where the line is drawn from the zero to another point, or along the touching one: put in, it tells that point again -/
theorem core (hh : ah ≠ 0) (hi : ai ≠ 0) (hj : aj ≠ 0) (z0 : zh ≠ 0) (hz : ah * zh * zh + ai * zi * zi + aj * zj * zj = 0) (hp : ah * ph * ph + ai * pi * pi + aj * pj * pj = 0) (hn : ¬ (ph = 0 ∧ pi = 0 ∧ pj = 0))
    {s t : Int} (hs : s = pi * zh - zi * ph) (ht : t = pj * zh - zj * ph) {s' t' : Int} (h1 : s = 0 ∧ t = 0 → s' = aj * zj ∧ t' = 0 - ai * zi) (h2 : ¬ (s = 0 ∧ t = 0) → s' = s ∧ t' = t) :
    ¬ (s' = 0 ∧ t' = 0) ∧ ∀ c S T : Int, c ≠ 0 → s' = c * S → t' = c * T → ∃ m n : Int, m ≠ 0 ∧ n ≠ 0 ∧
      m * ((ai * S * S + aj * T * T) * zh) = n * ph ∧ m * ((ai * S * S + aj * T * T) * zi - 2 * (ai * zi * S + aj * zj * T) * S) = n * pi ∧ m * ((ai * S * S + aj * T * T) * zj - 2 * (ai * zi * S + aj * zj * T) * T) = n * pj := by
  by_cases h0 : s = 0 ∧ t = 0
  · obtain ⟨e1, e2⟩ := h1 h0
    have f1 : zh * pi = zi * ph := by have := h0.1; rw [hs] at this; grind
    have f2 : zh * pj = zj * ph := by have := h0.2; rw [ht] at this; grind
    have p0 : ph ≠ 0 := fun e => by
      rw [e, Int.mul_zero] at f1 f2
      exact hn ⟨e, (Int.mul_eq_zero.mp f1).resolve_left z0, (Int.mul_eq_zero.mp f2).resolve_left z0⟩
    refine ⟨fun g => ?_, fun c S T hc gs gt' => ?_⟩
    · have zj0 : zj = 0 := (Int.mul_eq_zero.mp (e1.symm.trans g.1)).resolve_left hj
      have zi0 : zi = 0 := by
        have : ai * zi = 0 := by have := e2.symm.trans g.2; omega
        exact (Int.mul_eq_zero.mp this).resolve_left hi
      rw [zj0, zi0] at hz
      have : ah * zh * zh = 0 := by grind
      exact Int.mul_ne_zero (Int.mul_ne_zero hh z0) z0 this
    · have g1 : c * S = aj * zj := gs.symm.trans e1
      have g2 : c * T = 0 - ai * zi := gt'.symm.trans e2
      have hb : ai * zi * S + aj * zj * T = 0 := by
        have : c * (ai * zi * S + aj * zj * T) = 0 := by
          have : c * (ai * zi * S + aj * zj * T) = ai * zi * (c * S) + aj * zj * (c * T) := by grind
          rw [this, g1, g2]
          grind
        exact (Int.mul_eq_zero.mp this).resolve_left hc
      have hm : c * c * (ai * S * S + aj * T * T) = -(ai * aj * ah * zh * zh) := by
        have : c * c * (ai * S * S + aj * T * T) = ai * (c * S) * (c * S) + aj * (c * T) * (c * T) := by grind
        rw [this, g1, g2]
        grind
      rw [hb]
      generalize ai * S * S + aj * T * T = M at hm
      refine ⟨c * c * ph, -(ai * aj * ah * zh * zh) * zh, Int.mul_ne_zero (Int.mul_ne_zero hc hc) p0, Int.mul_ne_zero (by
        have := Int.mul_ne_zero (Int.mul_ne_zero (Int.mul_ne_zero (Int.mul_ne_zero hi hj) hh) z0) z0
        omega) z0, ?_, ?_, ?_⟩
      · rw [← hm]; grind
      · rw [← hm]
        have : c * c * M * zh * pi = c * c * M * (zi * ph) := by rw [← f1]; grind
        rw [this]; grind
      · rw [← hm]
        have : c * c * M * zh * pj = c * c * M * (zj * ph) := by rw [← f2]; grind
        rw [this]; grind
  · obtain ⟨e1, e2⟩ := h2 h0
    refine ⟨fun g => h0 ⟨e1 ▸ g.1, e2 ▸ g.2⟩, fun c S T hc gs gt' => ?_⟩
    have k1 : ai * s * s + aj * t * t = -2 * zh * ph * (ah * zh * ph + ai * zi * pi + aj * zj * pj) := by
      have : ai * s * s + aj * t * t + 2 * zh * ph * (ah * zh * ph + ai * zi * pi + aj * zj * pj) = zh * zh * (ah * ph * ph + ai * pi * pi + aj * pj * pj) + ph * ph * (ah * zh * zh + ai * zi * zi + aj * zj * zj) := by
        rw [hs, ht]; grind
      rw [hz, hp] at this
      grind
    have k2 : ai * zi * s + aj * zj * t = zh * (ah * zh * ph + ai * zi * pi + aj * zj * pj) := by
      have : ai * zi * s + aj * zj * t = zh * (ah * zh * ph + ai * zi * pi + aj * zj * pj) - ph * (ah * zh * zh + ai * zi * zi + aj * zj * zj) := by
        rw [hs, ht]; grind
      rw [hz] at this
      grind
    have hB : ah * zh * ph + ai * zi * pi + aj * zj * pj ≠ 0 := fun e => by
      rw [e] at k1 k2
      have m0 : ai * s * s + aj * t * t = 0 := by rw [k1]; grind
      have b0 : ai * zi * s + aj * zj * t = 0 := by rw [k2]; grind
      have hA : ah * zh * zh ≠ 0 := Int.mul_ne_zero (Int.mul_ne_zero hh z0) z0
      have q0 : ai * aj * (zi * t - zj * s) * (zi * t - zj * s) = 0 := by
        have : ai * aj * (zi * t - zj * s) * (zi * t - zj * s) = (ai * zi * zi + aj * zj * zj) * (ai * s * s + aj * t * t) - (ai * zi * s + aj * zj * t) * (ai * zi * s + aj * zj * t) := by grind
        rw [this, m0, b0]; grind
      have q1 : zi * t - zj * s = 0 := by
        rcases Int.mul_eq_zero.mp q0 with h | h
        · exact (Int.mul_eq_zero.mp h).resolve_left (Int.mul_ne_zero hi hj)
        · exact h
      have r1 : ah * zh * zh * (s * s) = 0 := by
        have e1 : (ai * zi * zi + aj * zj * zj) * (s * s) = zi * zi * (ai * s * s + aj * t * t) := by
          have : zj * s = zi * t := by omega
          have : aj * (zj * s) * (zj * s) = aj * (zi * t) * (zi * t) := by rw [this]
          grind
        rw [m0, Int.mul_zero] at e1
        have : ah * zh * zh = -(ai * zi * zi + aj * zj * zj) := by omega
        rw [this, Int.neg_mul, e1]; rfl
      have r2 : ah * zh * zh * (t * t) = 0 := by
        have e1 : (ai * zi * zi + aj * zj * zj) * (t * t) = zj * zj * (ai * s * s + aj * t * t) := by
          have : zi * t = zj * s := by omega
          have : ai * (zi * t) * (zi * t) = ai * (zj * s) * (zj * s) := by rw [this]
          grind
        rw [m0, Int.mul_zero] at e1
        have : ah * zh * zh = -(ai * zi * zi + aj * zj * zj) := by omega
        rw [this, Int.neg_mul, e1]; rfl
      refine h0 ⟨?_, ?_⟩
      · rcases Int.mul_eq_zero.mp ((Int.mul_eq_zero.mp r1).resolve_left hA) with h | h <;> exact h
      · rcases Int.mul_eq_zero.mp ((Int.mul_eq_zero.mp r2).resolve_left hA) with h | h <;> exact h
    rw [e1] at gs
    rw [e2] at gt'
    refine ⟨c * c, -2 * zh * zh * (ah * zh * ph + ai * zi * pi + aj * zj * pj), Int.mul_ne_zero hc hc, Int.mul_ne_zero (Int.mul_ne_zero (Int.mul_ne_zero (by decide) z0) z0) hB, ?_, ?_, ?_⟩
    · have : c * c * ((ai * S * S + aj * T * T) * zh) = (ai * (c * S) * (c * S) + aj * (c * T) * (c * T)) * zh := by grind
      rw [this, ← gs, ← gt', k1]; grind
    · have : c * c * ((ai * S * S + aj * T * T) * zi - 2 * (ai * zi * S + aj * zj * T) * S) = (ai * (c * S) * (c * S) + aj * (c * T) * (c * T)) * zi - 2 * (ai * zi * (c * S) + aj * zj * (c * T)) * (c * S) := by grind
      rw [this, ← gs, ← gt', k1, k2, hs]; grind
    · have : c * c * ((ai * S * S + aj * T * T) * zj - 2 * (ai * zi * S + aj * zj * T) * T) = (ai * (c * S) * (c * S) + aj * (c * T) * (c * T)) * zj - 2 * (ai * zi * (c * S) + aj * zj * (c * T)) * (c * T) := by grind
      rw [this, ← gs, ← gt', k1, k2, ht]; grind
end
theorem gg_sz {n : Nat} : ∀ {l : List Int}, (∀ x ∈ l, Sz n x) → gg l ≠ 0 → Sz n (gg l : Int)
  | [], _, h => absurd rfl h
  | x :: l, hl, h => by
    by_cases h0 : x = 0
    · have e : gg (x :: l) = gg l := by
        show Int.gcd x (gg l : Int) = gg l
        rw [h0, Int.zero_gcd, Int.natAbs_natCast]
      rw [e] at h ⊢
      exact gg_sz (fun y hy => hl y (List.mem_cons_of_mem _ hy)) h
    · exact (hl x List.mem_cons_self).le (dvd_le (gg_dvd List.mem_cons_self) h0)
theorem gg_ne {l : List Int} {x : Int} (h : x ∈ l) (hx : x ≠ 0) : gg l ≠ 0 := fun e => by
  have := gg_dvd h
  rw [e] at this
  exact hx (Int.zero_dvd.mp this)
theorem ix3_0 {x y z : Int} : ixO [x, y, z] (0 : Int) = some x := by unfold ixO; simp
theorem ix3_1 {x y z : Int} : ixO [x, y, z] (1 : Int) = some y := by unfold ixO; simp
theorem ix3_2 {x y z : Int} : ixO [x, y, z] (2 : Int) = some z := by unfold ixO; simp
theorem ix2_0 {x y : Int} : ixO [x, y] (0 : Int) = some x := by unfold ixO; simp
theorem ix2_1 {x y : Int} : ixO [x, y] (1 : Int) = some y := by unfold ixO; simp
theorem r3 : rangeC 0 3 = some [0, 1, 2] := rangeC_s (by decide) (by decide) (by decide) (by decide) (by decide)
theorem map3 {f : Int → Option Int} {A B C : Int} (h0 : f 0 = some A) (h1 : f 1 = some B) (h2 : f 2 = some C) : mapO f [0, 1, 2] = some [A, B, C] := by
  unfold mapO mapO mapO mapO
  rw [h0, h1, h2]
  rfl
theorem mS {a b : Int} (ha : Sz 1000 a) (hb : Sz 1000 b) : mulO a b = some (a * b) := mulO_sz ha hb (by decide)
theorem mS2 {a b c : Int} (ha : Sz 1000 a) (hb : Sz 1000 b) (hc : Sz 1000 c) : mulO (a * b) c = some (a * b * c) := mulO_sz (ha.mul hb) hc (by decide)
theorem seat_0 {z0 z1 z2 : Int} (h : z0 ≠ 0) : Mir.seat_ [z0, z1, z2] = some ⟨0, 1, 2⟩ := by
  unfold Mir.seat_
  rw [r3]
  simp only [bS]
  have e : ∃ r, filO (fun k => (ixO [z0, z1, z2] k).bind fun x => some (!decide (x = 0))) (fun k => some k) [(0 : Int), 1, 2] = some (0 :: r) := by
    unfold filO filO filO filO
    rw [ix3_0, ix3_1, ix3_2, bS, decide_eq_false h]
    simp only [bS]
    cases decide (z1 = 0) <;> cases decide (z2 = 0) <;> exact ⟨_, rfl⟩
  obtain ⟨r, e⟩ := e
  rw [e, bS, show ixO ((0 : Int) :: r) (0 : Int) = some 0 by unfold ixO; simp, bS]
  rfl
theorem seat_1 {z0 z1 z2 : Int} (h0 : z0 = 0) (h : z1 ≠ 0) : Mir.seat_ [z0, z1, z2] = some ⟨1, 0, 2⟩ := by
  unfold Mir.seat_
  rw [r3]
  simp only [bS]
  have e : ∃ r, filO (fun k => (ixO [z0, z1, z2] k).bind fun x => some (!decide (x = 0))) (fun k => some k) [(0 : Int), 1, 2] = some (1 :: r) := by
    unfold filO filO filO filO
    rw [ix3_0, ix3_1, ix3_2, bS, decide_eq_true h0]
    simp only [bS]
    rw [decide_eq_false h]
    cases decide (z2 = 0) <;> exact ⟨_, rfl⟩
  obtain ⟨r, e⟩ := e
  rw [e, bS, show ixO ((1 : Int) :: r) (0 : Int) = some 1 by unfold ixO; simp, bS]
  rfl
theorem seat_2 {z0 z1 z2 : Int} (h0 : z0 = 0) (h1 : z1 = 0) (h : z2 ≠ 0) : Mir.seat_ [z0, z1, z2] = some ⟨2, 0, 1⟩ := by
  unfold Mir.seat_
  rw [r3]
  simp only [bS]
  have e : filO (fun k => (ixO [z0, z1, z2] k).bind fun x => some (!decide (x = 0))) (fun k => some k) [(0 : Int), 1, 2] = some [2] := by
    unfold filO filO filO filO
    rw [ix3_0, ix3_1, ix3_2, bS, decide_eq_true h0]
    simp only [bS]
    rw [decide_eq_true h1, decide_eq_false h]
    rfl
  rw [e, bS, show ixO [(2 : Int)] (0 : Int) = some 2 by unfold ixO; simp, bS]
  rfl
theorem point_eq {a0 a1 a2 z0 z1 z2 S T w0 w1 w2 h i j : Int} {W : List Int} (hr : Row [a0, a1, a2]) (hs : Mir.seat_ [z0, z1, z2] = some ⟨h, i, j⟩) (e1 : setO [0, 0, 0] i S = some W) (e2 : setO W j T = some [w0, w1, w2])
    (sa : ∀ x ∈ [a0, a1, a2], Sz 1000 x) (sz : ∀ x ∈ [z0, z1, z2], Sz 1000 x) (sw : ∀ x ∈ [w0, w1, w2], Sz 1000 x)
    (hn : gg [(a0 * w0 * w0 + (a1 * w1 * w1 + (a2 * w2 * w2 + 0))) * z0 - 2 * (a0 * z0 * w0 + (a1 * z1 * w1 + (a2 * z2 * w2 + 0))) * w0, (a0 * w0 * w0 + (a1 * w1 * w1 + (a2 * w2 * w2 + 0))) * z1 - 2 * (a0 * z0 * w0 + (a1 * z1 * w1 + (a2 * z2 * w2 + 0))) * w1, (a0 * w0 * w0 + (a1 * w1 * w1 + (a2 * w2 * w2 + 0))) * z2 - 2 * (a0 * z0 * w0 + (a1 * z1 * w1 + (a2 * z2 * w2 + 0))) * w2] ≠ 0) :
    Mir.point_of__2 [a0, a1, a2] [z0, z1, z2] ⟨[S, T]⟩ = some (nrm [(a0 * w0 * w0 + (a1 * w1 * w1 + (a2 * w2 * w2 + 0))) * z0 - 2 * (a0 * z0 * w0 + (a1 * z1 * w1 + (a2 * z2 * w2 + 0))) * w0, (a0 * w0 * w0 + (a1 * w1 * w1 + (a2 * w2 * w2 + 0))) * z1 - 2 * (a0 * z0 * w0 + (a1 * z1 * w1 + (a2 * z2 * w2 + 0))) * w1, (a0 * w0 * w0 + (a1 * w1 * w1 + (a2 * w2 * w2 + 0))) * z2 - 2 * (a0 * z0 * w0 + (a1 * z1 * w1 + (a2 * z2 * w2 + 0))) * w2]) := by
  have A0 := sa a0 (by simp); have A1 := sa a1 (by simp); have A2 := sa a2 (by simp)
  have Z0 := sz z0 (by simp); have Z1 := sz z1 (by simp); have Z2 := sz z2 (by simp)
  have W0 := sw w0 (by simp); have W1 := sw w1 (by simp); have W2 := sw w2 (by simp)
  have zero4 : Sz 4000 (0 : Int) := Sz.mono (m := 1) (by show Sz 1 0; decide) (by decide)
  have sM : Sz 4100 (a0 * w0 * w0 + (a1 * w1 * w1 + (a2 * w2 * w2 + 0))) := by
    have q0 := ((A0.mul W0).mul W0).mono (show 1000 + 1000 + 1000 ≤ 4002 by decide)
    have q1 := ((A1.mul W1).mul W1).mono (show 1000 + 1000 + 1000 ≤ 4001 by decide)
    have q2 := ((A2.mul W2).mul W2).mono (show 1000 + 1000 + 1000 ≤ 4000 by decide)
    exact (q0.add (q1.add (q2.add zero4))).mono (by decide)
  have sB : Sz 4100 (a0 * z0 * w0 + (a1 * z1 * w1 + (a2 * z2 * w2 + 0))) := by
    have q0 := ((A0.mul Z0).mul W0).mono (show 1000 + 1000 + 1000 ≤ 4002 by decide)
    have q1 := ((A1.mul Z1).mul W1).mono (show 1000 + 1000 + 1000 ≤ 4001 by decide)
    have q2 := ((A2.mul Z2).mul W2).mono (show 1000 + 1000 + 1000 ≤ 4000 by decide)
    exact (q0.add (q1.add (q2.add zero4))).mono (by decide)
  unfold Mir.point_of__2
  rw [must_be_row_eq hr, hs]
  simp only [bS, TK.tl]
  rw [ix2_0, ix2_1]
  simp only [bS]
  rw [e1]
  simp only [bS]
  rw [e2, r3]
  simp only [bS]
  rw [map3 (A := a0 * w0 * w0) (B := a1 * w1 * w1) (C := a2 * w2 * w2) (by rw [ix3_0, ix3_0, bS, bS, mS A0 W0, bS, bS, mS2 A0 W0 W0]) (by rw [ix3_1, ix3_1, bS, bS, mS A1 W1, bS, bS, mS2 A1 W1 W1]) (by rw [ix3_2, ix3_2, bS, bS, mS A2 W2, bS, bS, mS2 A2 W2 W2])]
  simp only [bS]
  rw [map3 (A := a0 * z0 * w0) (B := a1 * z1 * w1) (C := a2 * z2 * w2) (by rw [ix3_0, ix3_0, ix3_0, bS, bS, mS A0 Z0, bS, bS, mS2 A0 Z0 W0]) (by rw [ix3_1, ix3_1, ix3_1, bS, bS, mS A1 Z1, bS, bS, mS2 A1 Z1 W1]) (by rw [ix3_2, ix3_2, ix3_2, bS, bS, mS A2 Z2, bS, bS, mS2 A2 Z2 W2])]
  simp only [bS, List.sum_cons, List.sum_nil]
  generalize a0 * w0 * w0 + (a1 * w1 * w1 + (a2 * w2 * w2 + 0)) = M at *
  generalize a0 * z0 * w0 + (a1 * z1 * w1 + (a2 * z2 * w2 + 0)) = B at *
  have two : Sz 2 (2 : Int) := by decide
  have m1 : ∀ {z : Int}, Sz 1000 z → mulO M z = some (M * z) := fun h => mulO_sz sM h (by decide)
  have m2 : mulO 2 B = some (2 * B) := mulO_sz two sB (by decide)
  have m3 : ∀ {w : Int}, Sz 1000 w → mulO (2 * B) w = some (2 * B * w) := fun h => mulO_sz (two.mul sB) h (by decide)
  have sL : ∀ {z w : Int}, Sz 1000 z → Sz 1000 w → Sz 6000 (M * z - 2 * B * w) := fun h g => (((sM.mul h).mono (show 4100 + 1000 ≤ 5999 by decide)).sub (((two.mul sB).mul g).mono (show 2 + 4100 + 1000 ≤ 5999 by decide)))
  rw [map3 (A := M * z0 - 2 * B * w0) (B := M * z1 - 2 * B * w1) (C := M * z2 - 2 * B * w2) (by simp only [ix3_0, bS, m1 Z0, m2, m3 W0]) (by simp only [ix3_1, bS, m1 Z1, m2, m3 W1]) (by simp only [ix3_2, bS, m1 Z2, m2, m3 W2])]
  simp only [bS]
  refine signed_eq hn (gg_sz (n := 6000) (fun x hx => ?_) hn) (by decide)
  simp only [List.mem_cons, List.not_mem_nil, or_false] at hx
  rcases hx with e | e | e <;> rw [e]
  · exact sL Z0 W0
  · exact sL Z1 W1
  · exact sL Z2 W2
theorem line_eq {n : Nat} (n300 : n ≤ 300) {row zero point : List Int} {h i j ai aj zh zi zj ph pi pj s' t' : Int} (hr : Row row) (hs : Mir.seat_ zero = some ⟨h, i, j⟩)
    (b1 : ixO row i = some ai) (b2 : ixO row j = some aj) (c0 : ixO zero h = some zh) (c1 : ixO zero i = some zi) (c2 : ixO zero j = some zj) (d0 : ixO point h = some ph) (d1 : ixO point i = some pi) (d2 : ixO point j = some pj)
    (sx : ∀ x ∈ [ai, aj, zh, zi, zj, ph, pi, pj], Sz n x)
    (h1 : pi * zh - zi * ph = 0 ∧ pj * zh - zj * ph = 0 → s' = aj * zj ∧ t' = 0 - ai * zi) (h2 : ¬ (pi * zh - zi * ph = 0 ∧ pj * zh - zj * ph = 0) → s' = pi * zh - zi * ph ∧ t' = pj * zh - zj * ph) (hn : gg [s', t'] ≠ 0) :
    Mir.line_of_ row zero point = some ⟨nrm [s', t']⟩ ∧ Sz (2 * n + 2) s' ∧ Sz (2 * n + 2) t' := by
  have AI := sx ai (by simp); have AJ := sx aj (by simp); have ZH := sx zh (by simp); have ZI := sx zi (by simp); have ZJ := sx zj (by simp); have PH := sx ph (by simp); have PI := sx pi (by simp); have PJ := sx pj (by simp)
  have up : ∀ {x : Int}, Sz n x → Sz 1000 x := fun h => h.mono (by omega)
  have zero : Sz (n + n) (0 : Int) := Sz.mono (m := 0) (by show Sz 0 0; decide) (by omega)
  have ss : Sz (2 * n + 2) s' ∧ Sz (2 * n + 2) t' := by
    by_cases c : pi * zh - zi * ph = 0 ∧ pj * zh - zj * ph = 0
    · obtain ⟨e1, e2⟩ := h1 c
      rw [e1, e2]
      exact ⟨(AJ.mul ZJ).mono (by omega), (zero.sub (AI.mul ZI)).mono (by omega)⟩
    · obtain ⟨e1, e2⟩ := h2 c
      rw [e1, e2]
      exact ⟨((PI.mul ZH).sub (ZI.mul PH)).mono (by omega), ((PJ.mul ZH).sub (ZJ.mul PH)).mono (by omega)⟩
  refine ⟨?_, ss⟩
  refine Tot.is ?_
  unfold Mir.line_of_
  rw [must_be_row_eq hr, hs]
  simp only [bS]
  rw [d1, c0, d0, c1, d2, c2, b1, b2]
  simp only [bS]
  rw [mS (up PI) (up ZH), mS (up ZI) (up PH), mS (up PJ) (up ZH), mS (up ZJ) (up PH), mS (up AJ) (up ZJ), mS (up AI) (up ZI)]
  simp only [bS]
  refine tot_bind (Q := fun u => u = (s', t')) (tot_and (fun g1 g2 => ?_) fun g => ?_) fun u eu => ?_
  · obtain ⟨e1, e2⟩ := h1 ⟨of_decide_eq_true g1, of_decide_eq_true g2⟩
    exact tot_some (by rw [e1, e2])
  · obtain ⟨e1, e2⟩ := h2 fun c => by
      rcases g with g | g
      · exact of_decide_eq_false g c.1
      · exact of_decide_eq_false g c.2
    exact tot_some (by rw [e1, e2])
  · subst eu
    rw [signed_eq hn (gg_sz (n := 2 * n + 2) (fun x hx => by
      simp only [List.mem_cons, List.not_mem_nil, or_false] at hx
      rcases hx with e | e <;> rw [e]
      · exact ss.1
      · exact ss.2) hn) (by omega)]
    exact tot_some rfl
end Mi

/-! there and back: a point, its line, that line's point -/
namespace Mi
theorem line_core {q : Nat} (q300 : q ≤ 300) {row zero point : List Int} {h i j ah ai aj zh zi zj ph pi pj : Int} (hr : Row row) (hs : Mir.seat_ zero = some ⟨h, i, j⟩)
    (b1 : ixO row i = some ai) (b2 : ixO row j = some aj) (c0 : ixO zero h = some zh) (c1 : ixO zero i = some zi) (c2 : ixO zero j = some zj) (d0 : ixO point h = some ph) (d1 : ixO point i = some pi) (d2 : ixO point j = some pj)
    (sx : ∀ x ∈ [ai, aj, zh, zi, zj, ph, pi, pj], Sz q x) (hh : ah ≠ 0) (hi : ai ≠ 0) (hj : aj ≠ 0) (z0 : zh ≠ 0) (hz : ah * zh * zh + ai * zi * zi + aj * zj * zj = 0) (hp : ah * ph * ph + ai * pi * pi + aj * pj * pj = 0) (hn : ¬ (ph = 0 ∧ pi = 0 ∧ pj = 0)) :
    ∃ S T m n : Int, gg [S, T] = 1 ∧ sg1 [S, T] = 1 ∧ Sz (2 * q + 2) S ∧ Sz (2 * q + 2) T ∧ Mir.line_of_ row zero point = some ⟨[S, T]⟩ ∧ m ≠ 0 ∧ n ≠ 0 ∧
      m * ((ai * S * S + aj * T * T) * zh) = n * ph ∧ m * ((ai * S * S + aj * T * T) * zi - 2 * (ai * zi * S + aj * zj * T) * S) = n * pi ∧ m * ((ai * S * S + aj * T * T) * zj - 2 * (ai * zi * S + aj * zj * T) * T) = n * pj := by
  obtain ⟨s', t', h1, h2⟩ : ∃ s' t' : Int, (pi * zh - zi * ph = 0 ∧ pj * zh - zj * ph = 0 → s' = aj * zj ∧ t' = 0 - ai * zi) ∧ (¬ (pi * zh - zi * ph = 0 ∧ pj * zh - zj * ph = 0) → s' = pi * zh - zi * ph ∧ t' = pj * zh - zj * ph) := by
    by_cases c : pi * zh - zi * ph = 0 ∧ pj * zh - zj * ph = 0
    · exact ⟨aj * zj, 0 - ai * zi, fun _ => ⟨rfl, rfl⟩, fun g => absurd c g⟩
    · exact ⟨_, _, fun g => absurd g c, fun _ => ⟨rfl, rfl⟩⟩
  obtain ⟨hne, hcore⟩ := core hh hi hj z0 hz hp hn rfl rfl h1 h2
  have hg : gg [s', t'] ≠ 0 := by
    by_cases e : s' = 0
    · exact gg_ne (x := t') (by simp) fun e2 => hne ⟨e, e2⟩
    · exact gg_ne (x := s') (by simp) e
  obtain ⟨hl, ss, st⟩ := line_eq q300 hr hs b1 b2 c0 c1 c2 d0 d1 d2 sx h1 h2 hg
  obtain ⟨S, T, hST⟩ : ∃ S T, nrm [s', t'] = [S, T] := ⟨_, _, rfl⟩
  obtain ⟨c, hc, el⟩ := nrm_of hg
  have g1 := nrm_gg hg
  have g2 := nrm_sg hg
  rw [hST] at hl el g1 g2
  have e1 : s' = c * S := (List.cons.inj el).1
  have e2 : t' = c * T := (List.cons.inj (List.cons.inj el).2).1
  obtain ⟨m, n, hm, hn', qq⟩ := hcore c S T hc e1 e2
  have le : ∀ x : Int, x.natAbs ≤ (c * x).natAbs := fun x => by
    rw [Int.natAbs_mul]
    have : 1 * x.natAbs ≤ c.natAbs * x.natAbs := Nat.mul_le_mul_right _ (by omega)
    omega
  exact ⟨S, T, m, n, g1, g2, ss.le (by rw [e1]; exact le S), st.le (by rw [e2]; exact le T), hl, hm, hn', qq⟩
theorem there_and_back2 {q : Nat} (q300 : q ≤ 300) {a0 a1 a2 z0 z1 z2 p0 p1 p2 : Int} (hr : Row [a0, a1, a2]) (sa : ∀ x ∈ [a0, a1, a2], Sz q x) (sz : ∀ x ∈ [z0, z1, z2], Sz q x) (sp : ∀ x ∈ [p0, p1, p2], Sz q x)
    (hz : a0 * z0 * z0 + a1 * z1 * z1 + a2 * z2 * z2 = 0) (hz0 : ¬ (z0 = 0 ∧ z1 = 0 ∧ z2 = 0)) (hp : a0 * p0 * p0 + a1 * p1 * p1 + a2 * p2 * p2 = 0) (gp : gg [p0, p1, p2] = 1) (gs : sg1 [p0, p1, p2] = 1) :
    ∃ S T : Int, Sz (2 * q + 2) S ∧ Sz (2 * q + 2) T ∧ gg [S, T] = 1 ∧ sg1 [S, T] = 1 ∧ Mir.line_of_ [a0, a1, a2] [z0, z1, z2] [p0, p1, p2] = some ⟨[S, T]⟩ ∧ Mir.point_of__2 [a0, a1, a2] [z0, z1, z2] ⟨[S, T]⟩ = some [p0, p1, p2] := by
  have n0 := (hr.2.2 a0 (by simp)).1; have n1 := (hr.2.2 a1 (by simp)).1; have n2 := (hr.2.2 a2 (by simp)).1
  have up : ∀ l : List Int, (∀ x ∈ l, Sz q x) → ∀ x ∈ l, Sz 1000 x := fun l h x hx => (h x hx).mono (by omega)
  have zero : Sz 1000 (0 : Int) := Sz.mono (m := 1) (by show Sz 1 0; decide) (by decide)
  have A0 := sa a0 (by simp); have A1 := sa a1 (by simp); have A2 := sa a2 (by simp)
  have Z0 := sz z0 (by simp); have Z1 := sz z1 (by simp); have Z2 := sz z2 (by simp)
  have P0 := sp p0 (by simp); have P1 := sp p1 (by simp); have P2 := sp p2 (by simp)
  have hn : ¬ (p0 = 0 ∧ p1 = 0 ∧ p2 = 0) := fun h => by
    obtain ⟨h0, h1, h2⟩ := h
    rw [h0, h1, h2] at gp
    exact absurd gp (by decide)
  by_cases c0 : z0 = 0
  · by_cases c1 : z1 = 0
    · have c2 : z2 ≠ 0 := fun c2 => hz0 ⟨c0, c1, c2⟩
      have hs := seat_2 c0 c1 c2
      obtain ⟨S, T, m, n, g1, g2, sS, sT, hl, hm, hn', q0, q1, q2⟩ := line_core q300 (ah := a2) hr hs ix3_0 ix3_1 ix3_2 ix3_0 ix3_1 (point := [p0, p1, p2]) ix3_2 ix3_0 ix3_1 (fun x hx => by
        simp only [List.mem_cons, List.not_mem_nil, or_false] at hx
        rcases hx with e | e | e | e | e | e | e | e <;> rw [e] <;> assumption) n2 n0 n1 c2 (by omega) (by omega) (fun h => hn ⟨h.2.1, h.2.2, h.1⟩)
      refine ⟨S, T, sS, sT, g1, g2, hl, ?_⟩
      have key := nrm_eq2 (l := [(a0 * S * S + (a1 * T * T + (a2 * 0 * 0 + 0))) * z0 - 2 * (a0 * z0 * S + (a1 * z1 * T + (a2 * z2 * 0 + 0))) * S, (a0 * S * S + (a1 * T * T + (a2 * 0 * 0 + 0))) * z1 - 2 * (a0 * z0 * S + (a1 * z1 * T + (a2 * z2 * 0 + 0))) * T, (a0 * S * S + (a1 * T * T + (a2 * 0 * 0 + 0))) * z2 - 2 * (a0 * z0 * S + (a1 * z1 * T + (a2 * z2 * 0 + 0))) * 0]) gp gs hm hn' (by
        simp only [List.map_cons, List.map_nil, Int.mul_zero, Int.add_zero, Int.sub_zero]
        rw [q0, q1, q2])
      rw [point_eq hr hs (W := [S, 0, 0]) (by rfl) (by rfl) (up _ sa) (up _ sz) (fun x hx => by
        simp only [List.mem_cons, List.not_mem_nil, or_false] at hx
        rcases hx with e | e | e <;> rw [e]
        · exact sS.mono (by omega)
        · exact sT.mono (by omega)
        · exact zero) key.1, key.2]
    · have hs := seat_1 (z2 := z2) c0 c1
      obtain ⟨S, T, m, n, g1, g2, sS, sT, hl, hm, hn', q0, q1, q2⟩ := line_core q300 (ah := a1) hr hs ix3_0 ix3_2 ix3_1 ix3_0 ix3_2 (point := [p0, p1, p2]) ix3_1 ix3_0 ix3_2 (fun x hx => by
        simp only [List.mem_cons, List.not_mem_nil, or_false] at hx
        rcases hx with e | e | e | e | e | e | e | e <;> rw [e] <;> assumption) n1 n0 n2 c1 (by omega) (by omega) (fun h => hn ⟨h.2.1, h.1, h.2.2⟩)
      refine ⟨S, T, sS, sT, g1, g2, hl, ?_⟩
      have key := nrm_eq2 (l := [(a0 * S * S + (a1 * 0 * 0 + (a2 * T * T + 0))) * z0 - 2 * (a0 * z0 * S + (a1 * z1 * 0 + (a2 * z2 * T + 0))) * S, (a0 * S * S + (a1 * 0 * 0 + (a2 * T * T + 0))) * z1 - 2 * (a0 * z0 * S + (a1 * z1 * 0 + (a2 * z2 * T + 0))) * 0, (a0 * S * S + (a1 * 0 * 0 + (a2 * T * T + 0))) * z2 - 2 * (a0 * z0 * S + (a1 * z1 * 0 + (a2 * z2 * T + 0))) * T]) gp gs hm hn' (by
        simp only [List.map_cons, List.map_nil, Int.mul_zero, Int.add_zero, Int.zero_add, Int.sub_zero]
        rw [q0, q1, q2])
      rw [point_eq hr hs (W := [S, 0, 0]) (by rfl) (by rfl) (up _ sa) (up _ sz) (fun x hx => by
        simp only [List.mem_cons, List.not_mem_nil, or_false] at hx
        rcases hx with e | e | e <;> rw [e]
        · exact sS.mono (by omega)
        · exact zero
        · exact sT.mono (by omega)) key.1, key.2]
  · have hs := seat_0 (z1 := z1) (z2 := z2) c0
    obtain ⟨S, T, m, n, g1, g2, sS, sT, hl, hm, hn', q0, q1, q2⟩ := line_core q300 (ah := a0) hr hs ix3_1 ix3_2 ix3_0 ix3_1 ix3_2 (point := [p0, p1, p2]) ix3_0 ix3_1 ix3_2 (fun x hx => by
      simp only [List.mem_cons, List.not_mem_nil, or_false] at hx
      rcases hx with e | e | e | e | e | e | e | e <;> rw [e] <;> assumption) n0 n1 n2 c0 (by omega) (by omega) hn
    refine ⟨S, T, sS, sT, g1, g2, hl, ?_⟩
    have key := nrm_eq2 (l := [(a0 * 0 * 0 + (a1 * S * S + (a2 * T * T + 0))) * z0 - 2 * (a0 * z0 * 0 + (a1 * z1 * S + (a2 * z2 * T + 0))) * 0, (a0 * 0 * 0 + (a1 * S * S + (a2 * T * T + 0))) * z1 - 2 * (a0 * z0 * 0 + (a1 * z1 * S + (a2 * z2 * T + 0))) * S, (a0 * 0 * 0 + (a1 * S * S + (a2 * T * T + 0))) * z2 - 2 * (a0 * z0 * 0 + (a1 * z1 * S + (a2 * z2 * T + 0))) * T]) gp gs hm hn' (by
      simp only [List.map_cons, List.map_nil, Int.mul_zero, Int.add_zero, Int.zero_add, Int.sub_zero]
      rw [q0, q1, q2])
    rw [point_eq hr hs (W := [0, S, 0]) (by rfl) (by rfl) (up _ sa) (up _ sz) (fun x hx => by
      simp only [List.mem_cons, List.not_mem_nil, or_false] at hx
      rcases hx with e | e | e <;> rw [e]
      · exact zero
      · exact sS.mono (by omega)
      · exact sT.mono (by omega)) key.1, key.2]
theorem there_and_back {a0 a1 a2 z0 z1 z2 p0 p1 p2 : Int} (hr : Row [a0, a1, a2]) (sa : ∀ x ∈ [a0, a1, a2], Sz 300 x) (sz : ∀ x ∈ [z0, z1, z2], Sz 300 x) (sp : ∀ x ∈ [p0, p1, p2], Sz 300 x)
    (hz : a0 * z0 * z0 + a1 * z1 * z1 + a2 * z2 * z2 = 0) (hz0 : ¬ (z0 = 0 ∧ z1 = 0 ∧ z2 = 0)) (hp : a0 * p0 * p0 + a1 * p1 * p1 + a2 * p2 * p2 = 0) (gp : gg [p0, p1, p2] = 1) (gs : sg1 [p0, p1, p2] = 1) :
    ∃ S T : Int, gg [S, T] = 1 ∧ sg1 [S, T] = 1 ∧ Mir.line_of_ [a0, a1, a2] [z0, z1, z2] [p0, p1, p2] = some ⟨[S, T]⟩ ∧ Mir.point_of__2 [a0, a1, a2] [z0, z1, z2] ⟨[S, T]⟩ = some [p0, p1, p2] := by
  obtain ⟨S, T, _, _, h⟩ := there_and_back2 (q := 300) (Nat.le_refl _) hr sa sz sp hz hz0 hp gp gs
  exact ⟨S, T, h⟩
end Mi

/-! the law's own divisor -/
namespace Mi
theorem law_common_eq (a b : Int) : Mir.law_common_ a b = some (Int.gcd a b : Int) := by
  refine Tot.is ?_
  unfold Mir.law_common_
  refine tot_bind (Q := fun s => s.1.natAbs = Int.gcd a b) (tot_while (fun s => Int.gcd s.1 s.2 = Int.gcd a b) (fun s => s.2.natAbs) rfl fun s hs => tot_some ⟨fun ht => ?_, fun hf => ?_⟩) fun s hs => tot_some (by rw [hs])
  · have h0 : s.2 ≠ 0 := by simpa using ht
    rw [modO_ne h0]
    simp only [bS]
    exact tot_some ⟨by rw [gcd_fmod]; exact hs, fmod_small h0⟩
  · have h0 : s.2 = 0 := by simpa using hf
    rw [h0, Int.gcd_zero] at hs
    exact hs
end Mi

/-! law k40 -/
namespace Mi
theorem pair_point (row zero : List Int) (v : Int × Int) : Mir.point_of_ row zero v = Mir.point_of__2 row zero ⟨[v.1, v.2]⟩ := by
  unfold Mir.point_of_ Mir.point_of__2
  simp only [bS, TK.tl, ix2_0, ix2_1]
theorem pair_lies (row zero : List Int) (v : Int × Int) (p : List Int) : Mir.law_lies_ row zero v p = Mir.law_lies__2 row zero ⟨[v.1, v.2]⟩ p := by
  unfold Mir.law_lies_ Mir.law_lies__2
  simp only [bS, TK.tl, ix2_0, ix2_1]
theorem pair_one (row zero : List Int) (v : Int × Int) : Mir.law_one_ row zero v = Mir.law_one__2 row zero ⟨[v.1, v.2]⟩ := by
  unfold Mir.law_one_ Mir.law_one__2
  simp only [pair_point, pair_lies]
  rfl
theorem gg2 (S T : Int) : gg [S, T] = Int.gcd S T := by
  show Int.gcd S (Int.gcd T ((0 : Nat) : Int) : Int) = _
  unfold Int.gcd
  simp
theorem gg3 (x y z : Int) : (gg [x, y, z] : Int) = (Int.gcd (Int.gcd x y : Int) z : Int) := by
  show (Int.gcd x (Int.gcd y (Int.gcd z ((0 : Nat) : Int) : Int) : Int) : Int) = _
  rw [Int.gcd_assoc]
  have : (Int.gcd z ((0 : Nat) : Int) : Int) = (z.natAbs : Int) := by unfold Int.gcd; simp
  rw [this]
  unfold Int.gcd
  simp
section
variable {ah ai aj zh zi zj S T : Int}
/-- the point that a line tells -/
theorem forth (hh : ah ≠ 0) (hi : ai ≠ 0) (hj : aj ≠ 0) (z0 : zh ≠ 0) (hz : ah * zh * zh + ai * zi * zi + aj * zj * zj = 0) (hST : ¬ (S = 0 ∧ T = 0)) {M b : Int} (hM : M = ai * S * S + aj * T * T) (hb : b = ai * zi * S + aj * zj * T) :
    ¬ (M * zh = 0 ∧ M * zi - 2 * b * S = 0 ∧ M * zj - 2 * b * T = 0) ∧ ah * (M * zh) * (M * zh) + ai * (M * zi - 2 * b * S) * (M * zi - 2 * b * S) + aj * (M * zj - 2 * b * T) * (M * zj - 2 * b * T) = 0 := by
  constructor
  · rintro ⟨h0, h1, h2⟩
    have m0 : M = 0 := (Int.mul_eq_zero.mp h0).resolve_right z0
    rw [m0, Int.zero_mul] at h1 h2
    have b0 : b = 0 := by
      by_cases e : S = 0
      · have e2 : T ≠ 0 := fun e2 => hST ⟨e, e2⟩
        have : 2 * b * T = 0 := by omega
        have := (Int.mul_eq_zero.mp this).resolve_right e2
        omega
      · have : 2 * b * S = 0 := by omega
        have := (Int.mul_eq_zero.mp this).resolve_right e
        omega
    have hA : ah * zh * zh ≠ 0 := Int.mul_ne_zero (Int.mul_ne_zero hh z0) z0
    have q0 : ai * aj * (zi * T - zj * S) * (zi * T - zj * S) = 0 := by
      have : ai * aj * (zi * T - zj * S) * (zi * T - zj * S) = (ai * zi * zi + aj * zj * zj) * M - b * b := by rw [hM, hb]; grind
      rw [this, m0, b0]; grind
    have q1 : zi * T - zj * S = 0 := by
      rcases Int.mul_eq_zero.mp q0 with h | h
      · exact (Int.mul_eq_zero.mp h).resolve_left (Int.mul_ne_zero hi hj)
      · exact h
    have r1 : ah * zh * zh * (S * S) = 0 := by
      have e1 : (ai * zi * zi + aj * zj * zj) * (S * S) = zi * zi * M := by
        have : zj * S = zi * T := by omega
        have : aj * (zj * S) * (zj * S) = aj * (zi * T) * (zi * T) := by rw [this]
        rw [hM]; grind
      rw [m0, Int.mul_zero] at e1
      have : ah * zh * zh = -(ai * zi * zi + aj * zj * zj) := by omega
      rw [this, Int.neg_mul, e1]; rfl
    have r2 : ah * zh * zh * (T * T) = 0 := by
      have e1 : (ai * zi * zi + aj * zj * zj) * (T * T) = zj * zj * M := by
        have : zi * T = zj * S := by omega
        have : ai * (zi * T) * (zi * T) = ai * (zj * S) * (zj * S) := by rw [this]
        rw [hM]; grind
      rw [m0, Int.mul_zero] at e1
      have : ah * zh * zh = -(ai * zi * zi + aj * zj * zj) := by omega
      rw [this, Int.neg_mul, e1]; rfl
    refine hST ⟨?_, ?_⟩
    · rcases Int.mul_eq_zero.mp ((Int.mul_eq_zero.mp r1).resolve_left hA) with h | h <;> exact h
    · rcases Int.mul_eq_zero.mp ((Int.mul_eq_zero.mp r2).resolve_left hA) with h | h <;> exact h
  · have : ah * (M * zh) * (M * zh) + ai * (M * zi - 2 * b * S) * (M * zi - 2 * b * S) + aj * (M * zj - 2 * b * T) * (M * zj - 2 * b * T) = M * M * (ah * zh * zh + ai * zi * zi + aj * zj * zj) - 4 * M * b * (ai * zi * S + aj * zj * T) + 4 * b * b * (ai * S * S + aj * T * T) := by grind
    rw [this, hz, ← hM, ← hb]; grind
/-- .. lies on it, and its line is that line -/
theorem forth_line (hh : ah ≠ 0) (hi : ai ≠ 0) (hj : aj ≠ 0) (z0 : zh ≠ 0) (hz : ah * zh * zh + ai * zi * zi + aj * zj * zj = 0) (hST : ¬ (S = 0 ∧ T = 0)) {M b c ph pi pj : Int} (hM : M = ai * S * S + aj * T * T) (hb : b = ai * zi * S + aj * zj * T) (hc : c ≠ 0)
    (e0 : M * zh = c * ph) (e1 : M * zi - 2 * b * S = c * pi) (e2 : M * zj - 2 * b * T = c * pj) :
    (pi * zh - zi * ph) * T = (pj * zh - zj * ph) * S ∧ ((pi * zh - zi * ph = 0 ∧ pj * zh - zj * ph = 0) → b = 0) ∧
    ∀ s' t' : Int, (pi * zh - zi * ph = 0 ∧ pj * zh - zj * ph = 0 → s' = aj * zj ∧ t' = 0 - ai * zi) → (¬ (pi * zh - zi * ph = 0 ∧ pj * zh - zj * ph = 0) → s' = pi * zh - zi * ph ∧ t' = pj * zh - zj * ph) →
      ∃ m n : Int, m ≠ 0 ∧ n ≠ 0 ∧ m * s' = n * S ∧ m * t' = n * T := by
  have k1 : c * (pi * zh - zi * ph) = -2 * b * zh * S := by
    have : c * (pi * zh - zi * ph) = (c * pi) * zh - zi * (c * ph) := by grind
    rw [this, ← e1, ← e0]; grind
  have k2 : c * (pj * zh - zj * ph) = -2 * b * zh * T := by
    have : c * (pj * zh - zj * ph) = (c * pj) * zh - zj * (c * ph) := by grind
    rw [this, ← e2, ← e0]; grind
  generalize pi * zh - zi * ph = s at *
  generalize pj * zh - zj * ph = t at *
  have hb0 : s = 0 ∧ t = 0 → b = 0 := fun ⟨h1, h2⟩ => by
    rw [h1, Int.mul_zero] at k1
    rw [h2, Int.mul_zero] at k2
    by_cases e : S = 0
    · have e2 : T ≠ 0 := fun e2 => hST ⟨e, e2⟩
      have h3 := (Int.mul_eq_zero.mp k2.symm).resolve_right e2
      have h4 := (Int.mul_eq_zero.mp h3).resolve_right z0
      omega
    · have h3 := (Int.mul_eq_zero.mp k1.symm).resolve_right e
      have h4 := (Int.mul_eq_zero.mp h3).resolve_right z0
      omega
  refine ⟨?_, hb0, fun s' t' g1 g2 => ?_⟩
  · have : c * (s * T) = c * (t * S) := by
      have a1 : c * (s * T) = (c * s) * T := by grind
      have a2 : c * (t * S) = (c * t) * S := by grind
      rw [a1, a2, k1, k2]; grind
    exact Int.eq_of_mul_eq_mul_left hc this
  · by_cases h : s = 0 ∧ t = 0
    · obtain ⟨f1, f2⟩ := g1 h
      have b0 := hb0 h
      rw [hb] at b0
      have x : s' * T = t' * S := by rw [f1, f2]; grind
      have hne : ¬ (s' = 0 ∧ t' = 0) := fun ⟨h1, h2⟩ => by
        have zj0 : zj = 0 := (Int.mul_eq_zero.mp (f1.symm.trans h1)).resolve_left hj
        have zi0 : zi = 0 := by
          have : ai * zi = 0 := by omega
          exact (Int.mul_eq_zero.mp this).resolve_left hi
        rw [zj0, zi0] at hz
        have : ah * zh * zh = 0 := by grind
        exact Int.mul_ne_zero (Int.mul_ne_zero hh z0) z0 this
      by_cases e : S = 0
      · have e2 : T ≠ 0 := fun e2 => hST ⟨e, e2⟩
        rw [e, Int.mul_zero] at x
        have s0 : s' = 0 := (Int.mul_eq_zero.mp x).resolve_right e2
        exact ⟨T, t', e2, fun h => hne ⟨s0, h⟩, by rw [s0, e]; grind, Int.mul_comm _ _⟩
      · refine ⟨S, s', e, fun h => ?_, Int.mul_comm _ _, by grind⟩
        rw [h, Int.zero_mul] at x
        exact hne ⟨h, (Int.mul_eq_zero.mp x.symm).resolve_right e⟩
    · obtain ⟨f1, f2⟩ := g2 h
      rw [f1, f2]
      refine ⟨c, -2 * b * zh, hc, Int.mul_ne_zero (Int.mul_ne_zero (by decide) fun e => h ?_) z0, k1, k2⟩
      rw [e] at k1 k2
      have a1 : c * s = 0 := by rw [k1]; grind
      have a2 : c * t = 0 := by rw [k2]; grind
      exact ⟨(Int.mul_eq_zero.mp a1).resolve_left hc, (Int.mul_eq_zero.mp a2).resolve_left hc⟩
end
theorem st_ne {S T : Int} (h : gg [S, T] = 1) : ¬ (S = 0 ∧ T = 0) := fun ⟨h1, h2⟩ => by
  rw [h1, h2] at h
  exact absurd h (by decide)
/-- in the places h, i, j: what the point of a line is, once it is known to be so many times the made one -/
theorem forth_core {row zero point : List Int} {h i j ah ai aj zh zi zj ph pi pj S T c M b : Int} (hr : Row row) (hs : Mir.seat_ zero = some ⟨h, i, j⟩)
    (b1 : ixO row i = some ai) (b2 : ixO row j = some aj) (c0 : ixO zero h = some zh) (c1 : ixO zero i = some zi) (c2 : ixO zero j = some zj) (d0 : ixO point h = some ph) (d1 : ixO point i = some pi) (d2 : ixO point j = some pj)
    (sx : ∀ x ∈ [ai, aj, zh, zi, zj, ph, pi, pj], Sz 300 x) (hh : ah ≠ 0) (hi : ai ≠ 0) (hj : aj ≠ 0) (z0 : zh ≠ 0) (hz : ah * zh * zh + ai * zi * zi + aj * zj * zj = 0)
    (g1 : gg [S, T] = 1) (g2 : sg1 [S, T] = 1) (hM : M = ai * S * S + aj * T * T) (hb : b = ai * zi * S + aj * zj * T) (hc : c ≠ 0) (e0 : M * zh = c * ph) (e1 : M * zi - 2 * b * S = c * pi) (e2 : M * zj - 2 * b * T = c * pj) :
    Mir.line_of_ row zero point = some ⟨[S, T]⟩ := by
  obtain ⟨_, _, hl⟩ := forth_line hh hi hj z0 hz (st_ne g1) hM hb hc e0 e1 e2
  obtain ⟨s', t', h1, h2⟩ : ∃ s' t' : Int, (pi * zh - zi * ph = 0 ∧ pj * zh - zj * ph = 0 → s' = aj * zj ∧ t' = 0 - ai * zi) ∧ (¬ (pi * zh - zi * ph = 0 ∧ pj * zh - zj * ph = 0) → s' = pi * zh - zi * ph ∧ t' = pj * zh - zj * ph) := by
    by_cases c : pi * zh - zi * ph = 0 ∧ pj * zh - zj * ph = 0
    · exact ⟨aj * zj, 0 - ai * zi, fun _ => ⟨rfl, rfl⟩, fun g => absurd c g⟩
    · exact ⟨_, _, fun g => absurd g c, fun _ => ⟨rfl, rfl⟩⟩
  obtain ⟨m, n, hm, hn, q1, q2⟩ := hl s' t' h1 h2
  have key := nrm_eq2 (l := [s', t']) (v := [S, T]) g1 g2 hm hn (by
    simp only [List.map_cons, List.map_nil]
    rw [q1, q2])
  rw [(line_eq (Nat.le_refl 300) hr hs b1 b2 c0 c1 c2 d0 d1 d2 sx h1 h2 key.1).1, key.2]
end Mi

/-! law k40: what is asked -/
namespace Mi
theorem rg3 : rangeO 0 3 = some [0, 1, 2] := rangeO_s (by decide) (by decide) (by decide) (by decide)
theorem first_0 {z0 z1 z2 : Int} (h : z0 ≠ 0) : Mir.law_first_ [z0, z1, z2] = some 0 := by
  refine Tot.is ?_
  unfold Mir.law_first_
  rw [rg3]
  simp only [bS, bA]
  unfold forR
  rw [ix3_0, bS, decide_eq_false h]
  exact tot_some rfl
theorem first_1 {z0 z1 z2 : Int} (h0 : z0 = 0) (h : z1 ≠ 0) : Mir.law_first_ [z0, z1, z2] = some 1 := by
  refine Tot.is ?_
  unfold Mir.law_first_
  rw [rg3]
  simp only [bS, bA]
  unfold forR
  rw [ix3_0, bS, decide_eq_true h0]
  simp only [cnT, bS]
  unfold forR
  rw [ix3_1, bS, decide_eq_false h]
  exact tot_some rfl
theorem first_2 {z0 z1 z2 : Int} (h0 : z0 = 0) (h1 : z1 = 0) (h : z2 ≠ 0) : Mir.law_first_ [z0, z1, z2] = some 2 := by
  refine Tot.is ?_
  unfold Mir.law_first_
  rw [rg3]
  simp only [bS, bA]
  unfold forR
  rw [ix3_0, bS, decide_eq_true h0]
  simp only [cnT, bS]
  unfold forR
  rw [ix3_1, bS, decide_eq_true h1]
  simp only [cnT, bS]
  unfold forR
  rw [ix3_2, bS, decide_eq_false h]
  exact tot_some rfl
/-- the first that isn't nought is above nought -/
theorem first_up {p0 p1 p2 : Int} (hg : gg [p0, p1, p2] ≠ 0) (hs : sg1 [p0, p1, p2] = 1) : Tot ((Mir.law_first_ [p0, p1, p2]).bind fun k => ixO [p0, p1, p2] k) fun v => ¬ v < 0 := by
  by_cases h0 : p0 = 0
  · by_cases h1 : p1 = 0
    · have h2 : p2 ≠ 0 := fun h2 => hg (by rw [h0, h1, h2]; rfl)
      rw [first_2 h0 h1 h2, bS, ix3_2]
      refine tot_some fun c => ?_
      rw [h0, h1] at hs
      have : sg1 [0, 0, p2] = -1 := by show (if p2 < 0 then (-1 : Int) else _) = -1; rw [if_pos c]
      rw [this] at hs
      cases hs
    · rw [first_1 h0 h1, bS, ix3_1]
      refine tot_some fun c => ?_
      rw [h0] at hs
      have : sg1 [0, p1, p2] = -1 := by show (if p1 < 0 then (-1 : Int) else _) = -1; rw [if_pos c]
      rw [this] at hs
      cases hs
  · rw [first_0 h0, bS, ix3_0]
    refine tot_some fun c => ?_
    have : sg1 [p0, p1, p2] = -1 := by show (if p0 < 0 then (-1 : Int) else _) = -1; rw [if_pos c]
    rw [this] at hs
    cases hs
theorem is_zero_eq {a0 a1 a2 p0 p1 p2 : Int} (sa : ∀ x ∈ [a0, a1, a2], Sz 1000 x) (sp : ∀ x ∈ [p0, p1, p2], Sz 1000 x) (hg : gg [p0, p1, p2] = 1) (hQ : a0 * p0 * p0 + a1 * p1 * p1 + a2 * p2 * p2 = 0) : Mir.law_is_zero_ [a0, a1, a2] [p0, p1, p2] = some true := by
  have A0 := sa a0 (by simp); have A1 := sa a1 (by simp); have A2 := sa a2 (by simp)
  have P0 := sp p0 (by simp); have P1 := sp p1 (by simp); have P2 := sp p2 (by simp)
  have hG : (Int.gcd (Int.gcd (Int.gcd 0 p0 : Int) p1 : Int) p2 : Int) = 1 := by
    have e := gg3 p0 p1 p2
    rw [hg] at e
    rw [show (Int.gcd (Int.gcd 0 p0 : Int) p1 : Int) = (Int.gcd p0 p1 : Int) by rw [Int.zero_gcd]; unfold Int.gcd; simp]
    exact e.symm
  refine Tot.is ?_
  unfold Mir.law_is_zero_
  simp only [bS, bA, bI]
  refine tot_cond (fun h => by simp at h) fun _ => ?_
  rw [show rangeO 0 (([a0, a1, a2].length : Nat) : Int) = some [0, 1, 2] from rg3]
  simp only [bS]
  refine tot_bind (Q := fun o => o = .inl ((Int.gcd (Int.gcd (Int.gcd 0 p0 : Int) p1 : Int) p2 : Int), 0 + a0 * p0 * p0 + a1 * p1 * p1 + a2 * p2 * p2)) ?_ fun o ho => ?_
  · unfold forR
    rw [ix3_0, ix3_0]
    simp only [bS, bA]
    refine tot_bind (Q := fun b => b = false) (tot_cond (fun h => by cases h) fun _ => tot_some rfl) fun b eb => ?_
    subst eb
    rw [cF, law_common_eq, mS A0 P0]
    simp only [bS]
    rw [mS2 A0 P0 P0]
    simp only [bS]
    unfold forR
    rw [ix3_1, ix3_1]
    simp only [bS, bA]
    refine tot_bind (Q := fun b => b = false) (tot_cond (fun h => by cases h) fun _ => tot_some rfl) fun b eb => ?_
    subst eb
    rw [cF, law_common_eq, mS A1 P1]
    simp only [bS]
    rw [mS2 A1 P1 P1]
    simp only [bS]
    unfold forR
    rw [ix3_2, ix3_2]
    simp only [bS, bA]
    refine tot_bind (Q := fun b => b = false) (tot_cond (fun h => by cases h) fun _ => tot_some rfl) fun b eb => ?_
    subst eb
    rw [cF, law_common_eq, mS A2 P2]
    simp only [bS]
    rw [mS2 A2 P2 P2]
    simp only [bS]
    unfold forR
    exact tot_some rfl
  · subst ho
    rw [eL, hG]
    refine tot_some ?_
    rw [decide_eq_true (show 0 + a0 * p0 * p0 + a1 * p1 * p1 + a2 * p2 * p2 = 0 by omega)]
    rfl
theorem lies_eq {row zero point : List Int} {h i j ai aj zh zi zj ph pi pj S T : Int} (hf : Mir.law_first_ zero = some h) (hij : filO (fun k => some (!decide (k = h))) (fun k => some k) [(0 : Int), 1, 2] = some [i, j])
    (b1 : ixO row i = some ai) (b2 : ixO row j = some aj) (c0 : ixO zero h = some zh) (c1 : ixO zero i = some zi) (c2 : ixO zero j = some zj) (d0 : ixO point h = some ph) (d1 : ixO point i = some pi) (d2 : ixO point j = some pj)
    (sx : ∀ x ∈ [ai, aj, zh, zi, zj, ph, pi, pj, S, T], Sz 300 x) (h1 : (pi * zh - zi * ph) * T = (pj * zh - zj * ph) * S) (h2 : (pi * zh - zi * ph = 0 ∧ pj * zh - zj * ph = 0) → ai * zi * S + aj * zj * T = 0) : Mir.law_lies__2 row zero ⟨[S, T]⟩ point = some true := by
  have AI := sx ai (by simp); have AJ := sx aj (by simp); have ZH := sx zh (by simp); have ZI := sx zi (by simp); have ZJ := sx zj (by simp); have PH := sx ph (by simp); have PI := sx pi (by simp); have PJ := sx pj (by simp); have SS := sx S (by simp); have TT := sx T (by simp)
  have up : ∀ {x : Int}, Sz 300 x → Sz 1000 x := fun h => h.mono (by decide)
  have s1 : Sz 1000 (pi * zh - zi * ph) := ((PI.mul ZH).sub (ZI.mul PH)).mono (by decide)
  have s2 : Sz 1000 (pj * zh - zj * ph) := ((PJ.mul ZH).sub (ZJ.mul PH)).mono (by decide)
  refine Tot.is ?_
  unfold Mir.law_lies__2
  rw [hf, r3]
  simp only [bS, TK.tl, ix2_0, ix2_1]
  rw [hij]
  simp only [bS]
  rw [show ∀ k : Int → Int → Option Bool, unl2 [i, j] k = k i j from fun k => rfl, d1, c0, c1, d0, d2, c2, b1, b2]
  simp only [bS]
  rw [mS (up PI) (up ZH), mS (up ZI) (up PH), mS (up PJ) (up ZH), mS (up ZJ) (up PH), mS (up AI) (up ZI), mS (up AJ) (up ZJ)]
  simp only [bS]
  rw [mS2 (up AI) (up ZI) (up SS), mS2 (up AJ) (up ZJ) (up TT), mS s1 (up TT), mS s2 (up SS)]
  simp only [bS]
  refine tot_and (fun g1 g2 => tot_some ?_) fun _ => tot_some ?_
  · exact decide_eq_true (h2 ⟨of_decide_eq_true g1, of_decide_eq_true g2⟩)
  · exact decide_eq_true h1
theorem fil_0 : filO (fun k => some (!decide (k = (0 : Int)))) (fun k => some k) [(0 : Int), 1, 2] = some [1, 2] := rfl
theorem fil_1 : filO (fun k => some (!decide (k = (1 : Int)))) (fun k => some k) [(0 : Int), 1, 2] = some [0, 2] := rfl
theorem fil_2 : filO (fun k => some (!decide (k = (2 : Int)))) (fun k => some k) [(0 : Int), 1, 2] = some [0, 1] := rfl
/-- what a line's point is -/
structure Fo (a0 a1 a2 z0 z1 z2 S T p0 p1 p2 : Int) : Prop where
  pt : Mir.point_of__2 [a0, a1, a2] [z0, z1, z2] ⟨[S, T]⟩ = some [p0, p1, p2]
  gg : gg [p0, p1, p2] = 1
  sg : sg1 [p0, p1, p2] = 1
  q : a0 * p0 * p0 + a1 * p1 * p1 + a2 * p2 * p2 = 0
  sz : ∀ x ∈ [p0, p1, p2], Sz 300 x
  line : Mir.line_of_ [a0, a1, a2] [z0, z1, z2] [p0, p1, p2] = some ⟨[S, T]⟩
  lies : Mir.law_lies__2 [a0, a1, a2] [z0, z1, z2] ⟨[S, T]⟩ [p0, p1, p2] = some true
theorem nrm3 {l0 l1 l2 : Int} (h : gg [l0, l1, l2] ≠ 0) : ∃ p0 p1 p2 c : Int, nrm [l0, l1, l2] = [p0, p1, p2] ∧ c ≠ 0 ∧ l0 = c * p0 ∧ l1 = c * p1 ∧ l2 = c * p2 := by
  obtain ⟨c, hc, el⟩ := nrm_of h
  obtain ⟨p0, p1, p2, e⟩ : ∃ p0 p1 p2, nrm [l0, l1, l2] = [p0, p1, p2] := ⟨_, _, _, rfl⟩
  rw [e] at el
  exact ⟨p0, p1, p2, c, e, hc, (List.cons.inj el).1, (List.cons.inj (List.cons.inj el).2).1, (List.cons.inj (List.cons.inj (List.cons.inj el).2).2).1⟩
theorem sz_fac {n : Nat} {l c p : Int} (hc : c ≠ 0) (e : l = c * p) (h : Sz n l) : Sz n p := h.le (by
  rw [e, Int.natAbs_mul]
  have : 1 * p.natAbs ≤ c.natAbs * p.natAbs := Nat.mul_le_mul_right _ (by omega)
  omega)
theorem cancel_sq {c x : Int} (hc : c ≠ 0) (h : c * c * x = 0) : x = 0 := (Int.mul_eq_zero.mp h).resolve_left (Int.mul_ne_zero hc hc)
theorem line_forth {a0 a1 a2 z0 z1 z2 S T : Int} (hr : Row [a0, a1, a2]) (sa : ∀ x ∈ [a0, a1, a2], Sz 20 x) (sz : ∀ x ∈ [z0, z1, z2], Sz 20 x) (sS : Sz 50 S) (sT : Sz 50 T)
    (hz : a0 * z0 * z0 + a1 * z1 * z1 + a2 * z2 * z2 = 0) (hz0 : ¬ (z0 = 0 ∧ z1 = 0 ∧ z2 = 0)) (g1 : gg [S, T] = 1) (g2 : sg1 [S, T] = 1) : ∃ p0 p1 p2 : Int, Fo a0 a1 a2 z0 z1 z2 S T p0 p1 p2 := by
  have n0 := (hr.2.2 a0 (by simp)).1; have n1 := (hr.2.2 a1 (by simp)).1; have n2 := (hr.2.2 a2 (by simp)).1
  have A0 := sa a0 (by simp); have A1 := sa a1 (by simp); have A2 := sa a2 (by simp)
  have Z0 := sz z0 (by simp); have Z1 := sz z1 (by simp); have Z2 := sz z2 (by simp)
  have hST := st_ne g1
  have zero : Sz 1000 (0 : Int) := Sz.mono (m := 1) (by show Sz 1 0; decide) (by decide)
  have up : ∀ l : List Int, (∀ x ∈ l, Sz 20 x) → ∀ x ∈ l, Sz 1000 x := fun l h x hx => (h x hx).mono (by decide)
  have sM : ∀ {x y : Int}, Sz 20 x → Sz 20 y → Sz 130 (x * S * S + y * T * T) := fun hx hy => (((hx.mul sS).mul sS).add ((hy.mul sT).mul sT)).mono (by decide)
  have sB : ∀ {x y u v : Int}, Sz 20 x → Sz 20 y → Sz 20 u → Sz 20 v → Sz 100 (x * u * S + y * v * T) := fun hx hy hu hv => (((hx.mul hu).mul sS).add ((hy.mul hv).mul sT)).mono (by decide)
  have two : Sz 2 (2 : Int) := by decide
  have sL : ∀ {M b z w : Int}, Sz 130 M → Sz 100 b → Sz 20 z → Sz 50 w → Sz 300 (M * z - 2 * b * w) := fun hM hb hz hw => (((hM.mul hz).mono (show 130 + 20 ≤ 200 by decide)).sub (((two.mul hb).mul hw).mono (show 2 + 100 + 50 ≤ 200 by decide))).mono (by decide)
  have sL0 : ∀ {M z : Int}, Sz 130 M → Sz 20 z → Sz 300 (M * z) := fun hM hz => (hM.mul hz).mono (by decide)
  have w300 : ∀ {x : Int}, Sz 20 x → Sz 300 x := fun h => h.mono (by decide)
  by_cases c0 : z0 = 0
  · by_cases c1 : z1 = 0
    · have c2 : z2 ≠ 0 := fun c2 => hz0 ⟨c0, c1, c2⟩
      have hs := seat_2 c0 c1 c2
      have hM := sM A0 A1
      have hB := sB A0 A1 Z0 Z1
      obtain ⟨f1, f2⟩ := forth (ah := a2) (ai := a0) (aj := a1) (zh := z2) (zi := z0) (zj := z1) n2 n0 n1 c2 (by omega) hST rfl rfl
      have eM : a0 * S * S + (a1 * T * T + (a2 * 0 * 0 + 0)) = a0 * S * S + a1 * T * T := by omega
      have eb : a0 * z0 * S + (a1 * z1 * T + (a2 * z2 * 0 + 0)) = a0 * z0 * S + a1 * z1 * T := by omega
      have hp := fun h => point_eq (S := S) (T := T) hr hs (W := [S, 0, 0]) (w0 := S) (w1 := T) (w2 := 0) (by rfl) (by rfl) (up _ sa) (up _ sz) (fun x hx => by
        simp only [List.mem_cons, List.not_mem_nil, or_false] at hx
        rcases hx with e | e | e <;> rw [e]
        · exact sS.mono (by decide)
        · exact sT.mono (by decide)
        · exact zero) h
      rw [eM, eb, Int.mul_zero, Int.sub_zero] at hp
      generalize hMM : a0 * S * S + a1 * T * T = M at *
      generalize hbb : a0 * z0 * S + a1 * z1 * T = b at *
      have hgg : gg [M * z0 - 2 * b * S, M * z1 - 2 * b * T, M * z2] ≠ 0 := by
        by_cases e0 : M * z0 - 2 * b * S = 0
        · by_cases e1 : M * z1 - 2 * b * T = 0
          · exact gg_ne (x := M * z2) (by simp) fun e2 => f1 ⟨e2, e0, e1⟩
          · exact gg_ne (x := M * z1 - 2 * b * T) (by simp) e1
        · exact gg_ne (x := M * z0 - 2 * b * S) (by simp) e0
      obtain ⟨p0, p1, p2, c, ep, hc, l0, l1, l2⟩ := nrm3 hgg
      have G1 := nrm_gg hgg
      have G2 := nrm_sg hgg
      rw [ep] at G1 G2
      have P0 := sz_fac hc l0 (sL hM hB Z0 sS); have P1 := sz_fac hc l1 (sL hM hB Z1 sT); have P2 := sz_fac hc l2 (sL0 hM Z2)
      obtain ⟨k1, k2, _⟩ := forth_line (ah := a2) (ai := a0) (aj := a1) (zh := z2) (zi := z0) (zj := z1) n2 n0 n1 c2 (by omega) hST hMM.symm hbb.symm hc l2 l0 l1
      refine ⟨p0, p1, p2, (hp hgg).trans (congrArg some ep), G1, G2, cancel_sq hc ?_, fun x hx => ?_, ?_, ?_⟩
      · rw [l0, l1, l2] at f2
        rw [← f2]; grind
      · simp only [List.mem_cons, List.not_mem_nil, or_false] at hx
        rcases hx with e | e | e <;> rw [e] <;> assumption
      · refine forth_core (ah := a2) hr hs ix3_0 ix3_1 ix3_2 ix3_0 ix3_1 ix3_2 ix3_0 ix3_1 (fun x hx => ?_) n2 n0 n1 c2 (by omega) g1 g2 hMM.symm hbb.symm hc l2 l0 l1
        simp only [List.mem_cons, List.not_mem_nil, or_false] at hx
        rcases hx with e | e | e | e | e | e | e | e <;> rw [e] <;> first | assumption | (exact w300 (by assumption))
      · refine lies_eq (first_2 c0 c1 c2) fil_2 ix3_0 ix3_1 ix3_2 ix3_0 ix3_1 ix3_2 ix3_0 ix3_1 (fun x hx => ?_) k1 fun h => hbb.trans (k2 h)
        simp only [List.mem_cons, List.not_mem_nil, or_false] at hx
        rcases hx with e | e | e | e | e | e | e | e | e | e <;> rw [e] <;> first | assumption | (exact w300 (by assumption)) | (exact sS.mono (by decide)) | (exact sT.mono (by decide))
    · have hs := seat_1 (z2 := z2) c0 c1
      have hM := sM A0 A2
      have hB := sB A0 A2 Z0 Z2
      obtain ⟨f1, f2⟩ := forth (ah := a1) (ai := a0) (aj := a2) (zh := z1) (zi := z0) (zj := z2) n1 n0 n2 c1 (by omega) hST rfl rfl
      have eM : a0 * S * S + (a1 * 0 * 0 + (a2 * T * T + 0)) = a0 * S * S + a2 * T * T := by omega
      have eb : a0 * z0 * S + (a1 * z1 * 0 + (a2 * z2 * T + 0)) = a0 * z0 * S + a2 * z2 * T := by omega
      have hp := fun h => point_eq (S := S) (T := T) hr hs (W := [S, 0, 0]) (w0 := S) (w1 := 0) (w2 := T) (by rfl) (by rfl) (up _ sa) (up _ sz) (fun x hx => by
        simp only [List.mem_cons, List.not_mem_nil, or_false] at hx
        rcases hx with e | e | e <;> rw [e]
        · exact sS.mono (by decide)
        · exact zero
        · exact sT.mono (by decide)) h
      rw [eM, eb, Int.mul_zero, Int.sub_zero] at hp
      generalize hMM : a0 * S * S + a2 * T * T = M at *
      generalize hbb : a0 * z0 * S + a2 * z2 * T = b at *
      have hgg : gg [M * z0 - 2 * b * S, M * z1, M * z2 - 2 * b * T] ≠ 0 := by
        by_cases e0 : M * z0 - 2 * b * S = 0
        · by_cases e1 : M * z2 - 2 * b * T = 0
          · exact gg_ne (x := M * z1) (by simp) fun e2 => f1 ⟨e2, e0, e1⟩
          · exact gg_ne (x := M * z2 - 2 * b * T) (by simp) e1
        · exact gg_ne (x := M * z0 - 2 * b * S) (by simp) e0
      obtain ⟨p0, p1, p2, c, ep, hc, l0, l1, l2⟩ := nrm3 hgg
      have G1 := nrm_gg hgg
      have G2 := nrm_sg hgg
      rw [ep] at G1 G2
      have P0 := sz_fac hc l0 (sL hM hB Z0 sS); have P1 := sz_fac hc l1 (sL0 hM Z1); have P2 := sz_fac hc l2 (sL hM hB Z2 sT)
      obtain ⟨k1, k2, _⟩ := forth_line (ah := a1) (ai := a0) (aj := a2) (zh := z1) (zi := z0) (zj := z2) n1 n0 n2 c1 (by omega) hST hMM.symm hbb.symm hc l1 l0 l2
      refine ⟨p0, p1, p2, (hp hgg).trans (congrArg some ep), G1, G2, cancel_sq hc ?_, fun x hx => ?_, ?_, ?_⟩
      · rw [l0, l1, l2] at f2
        rw [← f2]; grind
      · simp only [List.mem_cons, List.not_mem_nil, or_false] at hx
        rcases hx with e | e | e <;> rw [e] <;> assumption
      · refine forth_core (ah := a1) hr hs ix3_0 ix3_2 ix3_1 ix3_0 ix3_2 ix3_1 ix3_0 ix3_2 (fun x hx => ?_) n1 n0 n2 c1 (by omega) g1 g2 hMM.symm hbb.symm hc l1 l0 l2
        simp only [List.mem_cons, List.not_mem_nil, or_false] at hx
        rcases hx with e | e | e | e | e | e | e | e <;> rw [e] <;> first | assumption | (exact w300 (by assumption))
      · refine lies_eq (first_1 c0 c1) fil_1 ix3_0 ix3_2 ix3_1 ix3_0 ix3_2 ix3_1 ix3_0 ix3_2 (fun x hx => ?_) k1 fun h => hbb.trans (k2 h)
        simp only [List.mem_cons, List.not_mem_nil, or_false] at hx
        rcases hx with e | e | e | e | e | e | e | e | e | e <;> rw [e] <;> first | assumption | (exact w300 (by assumption)) | (exact sS.mono (by decide)) | (exact sT.mono (by decide))
  · have hs := seat_0 (z1 := z1) (z2 := z2) c0
    have hM := sM A1 A2
    have hB := sB A1 A2 Z1 Z2
    obtain ⟨f1, f2⟩ := forth (ah := a0) (ai := a1) (aj := a2) (zh := z0) (zi := z1) (zj := z2) n0 n1 n2 c0 (by omega) hST rfl rfl
    have eM : a0 * 0 * 0 + (a1 * S * S + (a2 * T * T + 0)) = a1 * S * S + a2 * T * T := by omega
    have eb : a0 * z0 * 0 + (a1 * z1 * S + (a2 * z2 * T + 0)) = a1 * z1 * S + a2 * z2 * T := by omega
    have hp := fun h => point_eq (S := S) (T := T) hr hs (W := [0, S, 0]) (w0 := 0) (w1 := S) (w2 := T) (by rfl) (by rfl) (up _ sa) (up _ sz) (fun x hx => by
      simp only [List.mem_cons, List.not_mem_nil, or_false] at hx
      rcases hx with e | e | e <;> rw [e]
      · exact zero
      · exact sS.mono (by decide)
      · exact sT.mono (by decide)) h
    rw [eM, eb, Int.mul_zero, Int.sub_zero] at hp
    generalize hMM : a1 * S * S + a2 * T * T = M at *
    generalize hbb : a1 * z1 * S + a2 * z2 * T = b at *
    have hgg : gg [M * z0, M * z1 - 2 * b * S, M * z2 - 2 * b * T] ≠ 0 := by
      by_cases e0 : M * z1 - 2 * b * S = 0
      · by_cases e1 : M * z2 - 2 * b * T = 0
        · exact gg_ne (x := M * z0) (by simp) fun e2 => f1 ⟨e2, e0, e1⟩
        · exact gg_ne (x := M * z2 - 2 * b * T) (by simp) e1
      · exact gg_ne (x := M * z1 - 2 * b * S) (by simp) e0
    obtain ⟨p0, p1, p2, c, ep, hc, l0, l1, l2⟩ := nrm3 hgg
    have G1 := nrm_gg hgg
    have G2 := nrm_sg hgg
    rw [ep] at G1 G2
    have P0 := sz_fac hc l0 (sL0 hM Z0); have P1 := sz_fac hc l1 (sL hM hB Z1 sS); have P2 := sz_fac hc l2 (sL hM hB Z2 sT)
    obtain ⟨k1, k2, _⟩ := forth_line (ah := a0) (ai := a1) (aj := a2) (zh := z0) (zi := z1) (zj := z2) n0 n1 n2 c0 (by omega) hST hMM.symm hbb.symm hc l0 l1 l2
    refine ⟨p0, p1, p2, (hp hgg).trans (congrArg some ep), G1, G2, cancel_sq hc ?_, fun x hx => ?_, ?_, ?_⟩
    · rw [l0, l1, l2] at f2
      rw [← f2]; grind
    · simp only [List.mem_cons, List.not_mem_nil, or_false] at hx
      rcases hx with e | e | e <;> rw [e] <;> assumption
    · refine forth_core (ah := a0) hr hs ix3_1 ix3_2 ix3_0 ix3_1 ix3_2 ix3_0 ix3_1 ix3_2 (fun x hx => ?_) n0 n1 n2 c0 (by omega) g1 g2 hMM.symm hbb.symm hc l0 l1 l2
      simp only [List.mem_cons, List.not_mem_nil, or_false] at hx
      rcases hx with e | e | e | e | e | e | e | e <;> rw [e] <;> first | assumption | (exact w300 (by assumption))
    · refine lies_eq (first_0 c0) fil_0 ix3_1 ix3_2 ix3_0 ix3_1 ix3_2 ix3_0 ix3_1 ix3_2 (fun x hx => ?_) k1 fun h => hbb.trans (k2 h)
      simp only [List.mem_cons, List.not_mem_nil, or_false] at hx
      rcases hx with e | e | e | e | e | e | e | e | e | e <;> rw [e] <;> first | assumption | (exact w300 (by assumption)) | (exact sS.mono (by decide)) | (exact sT.mono (by decide))
theorem one_eq {a0 a1 a2 z0 z1 z2 S T p0 p1 p2 : Int} (sa : ∀ x ∈ [a0, a1, a2], Sz 20 x) (F : Fo a0 a1 a2 z0 z1 z2 S T p0 p1 p2) : Mir.law_one__2 [a0, a1, a2] [z0, z1, z2] ⟨[S, T]⟩ = some (some [p0, p1, p2]) := by
  refine Tot.is ?_
  unfold Mir.law_one__2
  refine tot_bind (Q := fun h => h = [[a0, a1, a2], [z0, z1, z2]]) (tot_some rfl) fun H eH => ?_
  have i0 : ixO H (0 : Int) = some [a0, a1, a2] := by rw [eH]; unfold ixO; simp
  have i1 : ixO H (1 : Int) = some [z0, z1, z2] := by rw [eH]; unfold ixO; simp
  simp only [bS, bA, bI]
  rw [i0, i1]
  simp only [bS]
  rw [F.pt]
  simp only [bS]
  rw [is_zero_eq (fun x hx => (sa x hx).mono (by decide)) (fun x hx => (F.sz x hx).mono (by decide)) F.gg F.q]
  simp only [bS]
  refine tot_bind (Q := fun b => b = false) ?_ fun b eb => ?_
  · refine tot_cond (fun h => by cases h) fun _ => ?_
    obtain ⟨v, ev, hv⟩ := first_up (by rw [F.gg]; decide) F.sg
    obtain ⟨k, ek, ev⟩ := bind_some ev
    rw [ek]
    simp only [bS]
    rw [ev]
    simp only [bS]
    refine tot_if (fun h => absurd h hv) fun _ => tot_some ?_
    rw [decide_eq_true eH]; rfl
  · subst eb
    rw [cF, F.lies]
    simp only [bS]
    rw [cnT, F.line]
    simp only [bS, TK.tl]
    rw [decide_eq_true eH, ix2_0, ix2_1]
    simp only [bS]
    refine tot_cond (fun h => by simp at h) fun _ => ?_
    exact tot_some rfl
end Mi

/-! law k40: rows, lines, the law -/
namespace Mi
theorem abs_sq {w v : Int} (e : w * w = v * v) : w.natAbs = v.natAbs := by
  have : (w - v) * (w + v) = 0 := by grind
  rcases Int.mul_eq_zero.mp this with h | h <;> omega
structure Dn (t : List Int × List Int) : Prop where
  ex : ∃ a0 a1 a2 z0 z1 z2 : Int, t = ([a0, a1, a2], [z0, z1, z2]) ∧ (a0 ≠ 0 ∧ a1 ≠ 0 ∧ a2 ≠ 0) ∧ (a0.natAbs ≤ 720000 ∧ a1.natAbs ≤ 720000 ∧ a2.natAbs ≤ 720000) ∧ (z0.natAbs ≤ 60 ∧ z1.natAbs ≤ 60 ∧ z2.natAbs ≤ 60) ∧ a0 * z0 * z0 + a1 * z1 * z1 + a2 * z2 * z2 = 0 ∧ (z0.natAbs = 1 ∨ z1.natAbs = 1 ∨ z2.natAbs = 1)
theorem drawn_tot (c o : Int) : Tot (Mir.law_drawn_ c o) Dn := by
  unfold Mir.law_drawn_
  simp only [bS, bA, bI]
  rw [mulO_s (by omega) (by omega) (by omega) (by omega), mulO_s (by omega) (by omega) (by omega) (by omega)]
  simp only [bS]
  have sg : 1 - 2 * (c / 600 % 2) = 1 ∨ 1 - 2 * (c / 600 % 2) = -1 := by omega
  have sh : 1 - 2 * (o / 100 % 2) = 1 ∨ 1 - 2 * (o / 100 % 2) = -1 := by omega
  generalize 1 - 2 * (c / 600 % 2) = g at sg
  generalize 1 - 2 * (o / 100 % 2) = h at sh
  rw [mulO_s (by omega) (by omega) (by omega) (by omega), mulO_s (by omega) (by omega) (by omega) (by omega)]
  simp only [bS]
  have ha : (1 + c / 6 % 100) * g ≠ 0 ∧ ((1 + c / 6 % 100) * g).natAbs ≤ 100 := by rcases sg with e | e <;> rw [e] <;> omega
  have hb : (1 + o % 100) * h ≠ 0 ∧ ((1 + o % 100) * h).natAbs ≤ 100 := by rcases sh with e | e <;> rw [e] <;> omega
  generalize (1 + c / 6 % 100) * g = a at ha
  generalize (1 + o % 100) * h = b at hb
  have hx : 0 ≤ o / 200 % 61 ∧ o / 200 % 61 ≤ 60 := by omega
  have hy : 1 ≤ 1 + o / 12200 % 60 ∧ 1 + o / 12200 % 60 ≤ 60 := by omega
  generalize o / 200 % 61 = x at hx
  generalize 1 + o / 12200 % 60 = y at hy
  have sz3 : ∀ {v : Int}, v.natAbs ≤ 100 → Sz 1000 v := fun h => Sz.mono (m := 7) (by unfold Sz; omega) (by decide)
  rw [mS (sz3 ha.2) (sz3 (v := x) (by omega)), mS (sz3 hb.2) (sz3 (v := y) (by omega))]
  simp only [bS]
  rw [mS2 (sz3 ha.2) (sz3 (v := x) (by omega)) (sz3 (v := x) (by omega)), mS2 (sz3 hb.2) (sz3 (v := y) (by omega)) (sz3 (v := y) (by omega))]
  simp only [bS]
  have hm : (a * x * x + b * y * y).natAbs ≤ 720000 := by
    have e1 : (a * x * x).natAbs ≤ 100 * 60 * 60 := by
      rw [Int.natAbs_mul, Int.natAbs_mul]
      exact Nat.mul_le_mul (Nat.mul_le_mul ha.2 (by omega)) (by omega)
    have e2 : (b * y * y).natAbs ≤ 100 * 60 * 60 := by
      rw [Int.natAbs_mul, Int.natAbs_mul]
      exact Nat.mul_le_mul (Nat.mul_le_mul hb.2 (by omega)) (by omega)
    omega
  refine tot_bind (Q := Dn) (tot_cond (fun _ => tot_some ⟨a, 0 - a, b, 1, 1, 0, rfl, ⟨ha.1, by omega, hb.1⟩, by omega, by omega, by omega, .inl rfl⟩) fun hf => tot_some ⟨a, b, 0 - (a * x * x + b * y * y), x, y, 1, rfl, ⟨ha.1, hb.1, ?_⟩, by omega, by omega, by omega, .inr (.inr rfl)⟩) fun s ⟨a0, a1, a2, z0, z1, z2, es, hne, hle, hz, hQ, hz0⟩ => ?_
  · rw [Bool.or_eq_false_iff] at hf
    have := of_decide_eq_false hf.1
    omega
  · subst es
    rw [rangeO_s (by decide) (by decide) (by decide) (by decide)]
    simp only [bS]
    refine tot_bind (Q := fun z => ∃ w0 w1 w2 : Int, z.1 = [w0, w1, w2] ∧ w0 * w0 = z0 * z0 ∧ w1 * w1 = z1 * z1 ∧ w2 * w2 = z2 * z2) (tot_forI2 (fun _ z => ∃ w0 w1 w2 : Int, z.1 = [w0, w1, w2] ∧ w0 * w0 = z0 * z0 ∧ w1 * w1 = z1 * z1 ∧ w2 * w2 = z2 * z2) (by decide) ⟨z0, z1, z2, rfl, rfl, rfl, rfl⟩ (fun i z i0 i1 ⟨w0, w1, w2, ez, e0, e1, e2⟩ => ?_) fun z h => h) fun z ⟨w0, w1, w2, ez, e0, e1, e2⟩ => ?_
    · rw [ez, mulO_s (by omega) (by omega) (by omega) (by omega)]
      simp only [bS]
      have su : 1 - 2 * (z.2 % 2) = 1 ∨ 1 - 2 * (z.2 % 2) = -1 := by omega
      generalize 1 - 2 * (z.2 % 2) = u at su
      have abs : ∀ {v w : Int}, v.natAbs ≤ 60 → w * w = v * v → w.natAbs ≤ 100 := fun h e => by
        have := abs_sq e
        omega
      have sq : ∀ w : Int, w * u * (w * u) = w * w := fun w => by rcases su with e | e <;> rw [e] <;> grind
      have U : Sz 1000 u := sz3 (by omega)
      have hi : i = 0 ∨ i = 1 ∨ i = 2 := by omega
      rcases hi with rfl | rfl | rfl
      · rw [ix3_0]
        simp only [bS]
        rw [mS (sz3 (abs hz.1 e0)) U]
        simp only [bS]
        rw [show setO [w0, w1, w2] (0 : Int) (w0 * u) = some [w0 * u, w1, w2] from rfl]
        exact tot_some ⟨_, _, _, rfl, by rw [sq, e0], e1, e2⟩
      · rw [ix3_1]
        simp only [bS]
        rw [mS (sz3 (abs hz.2.1 e1)) U]
        simp only [bS]
        rw [show setO [w0, w1, w2] (1 : Int) (w1 * u) = some [w0, w1 * u, w2] from rfl]
        exact tot_some ⟨_, _, _, rfl, e0, by rw [sq, e1], e2⟩
      · rw [ix3_2]
        simp only [bS]
        rw [mS (sz3 (abs hz.2.2 e2)) U]
        simp only [bS]
        rw [show setO [w0, w1, w2] (2 : Int) (w2 * u) = some [w0, w1, w2 * u] from rfl]
        exact tot_some ⟨_, _, _, rfl, e0, e1, by rw [sq, e2]⟩
    · rw [ez]
      have f0 := abs_sq e0
      have f1 := abs_sq e1
      have f2 := abs_sq e2
      have hQ2 : a0 * w0 * w0 + a1 * w1 * w1 + a2 * w2 * w2 = 0 := by
        rw [Int.mul_assoc a0, Int.mul_assoc a1, Int.mul_assoc a2, e0, e1, e2, ← Int.mul_assoc, ← Int.mul_assoc, ← Int.mul_assoc]
        exact hQ
      have ct : ∀ u v : List Int, u.length + v.length ≤ 3 → catO u v = some (u ++ v) := fun u v h => if_pos (by omega)
      obtain ⟨n, en⟩ := Int.eq_ofNat_of_zero_le (Int.emod_nonneg c (show (3 : Int) ≠ 0 by decide))
      have hn3 := Int.emod_lt_of_pos c (show (0 : Int) < 3 by decide)
      rw [en] at hn3 ⊢
      have l3 : ∀ p q r : Int, [p, q, r].length = 3 := fun _ _ _ => rfl
      rw [cut_drop (by rw [l3]; omega), cut_take (by rw [l3]; omega), cut_drop (by rw [l3]; omega), cut_take (by rw [l3]; omega)]
      rw [ct _ _ (by rw [List.length_drop, List.length_take, l3]; omega), ct _ _ (by rw [List.length_drop, List.length_take, l3]; omega)]
      have hc : n = 0 ∨ n = 1 ∨ n = 2 := by omega
      rcases hc with rfl | rfl | rfl
      · exact tot_some ⟨a0, a1, a2, w0, w1, w2, rfl, hne, hle, by omega, hQ2, by omega⟩
      · exact tot_some ⟨a1, a2, a0, w1, w2, w0, rfl, ⟨hne.2.1, hne.2.2, hne.1⟩, ⟨hle.2.1, hle.2.2, hle.1⟩, by omega, by omega, by omega⟩
      · exact tot_some ⟨a2, a0, a1, w2, w0, w1, rfl, ⟨hne.2.2, hne.1, hne.2.1⟩, ⟨hle.2.2, hle.1, hle.2.1⟩, by omega, by omega, by omega⟩
/-! the lines drawn -/
def Ln (v : Int × Int) : Prop := gg [v.1, v.2] = 1 ∧ sg1 [v.1, v.2] = 1 ∧ Sz 50 v.1 ∧ Sz 50 v.2
theorem fdiv_mul {g q : Int} (h : g ≠ 0) : (g * q).fdiv g = q := Int.mul_fdiv_cancel_left q h
theorem law_line_tot {s t : Int} (hs : Sz 50 s) (ht : Sz 50 t) : Tot (Mir.law_line_ s t) Ln := by
  unfold Mir.law_line_
  rw [law_common_eq]
  simp only [bS, bA, bI]
  refine tot_if (fun _ => tot_some ⟨by decide, by decide, Sz.mono (m := 1) (by show Sz 1 1; decide) (by decide), Sz.mono (m := 1) (by show Sz 1 0; decide) (by decide)⟩) fun h0 => ?_
  have hg : gg [s, t] ≠ 0 := by rw [gg2]; omega
  obtain ⟨c, hc, el⟩ := nrm_of hg
  obtain ⟨S, T, eN⟩ : ∃ S T, nrm [s, t] = [S, T] := ⟨_, _, rfl⟩
  have G1 := nrm_gg hg
  have G2 := nrm_sg hg
  rw [eN] at el G1 G2
  have e1 : s = c * S := (List.cons.inj el).1
  have e2 : t = c * T := (List.cons.inj (List.cons.inj el).2).1
  have hcg : c.natAbs = Int.gcd s t := by
    have := congrArg gg el
    rw [gg_mul, G1, gg2, Nat.mul_one] at this
    exact this.symm
  have sS : Sz 50 S := hs.le (by rw [e1, Int.natAbs_mul]; have : 1 * S.natAbs ≤ c.natAbs * S.natAbs := Nat.mul_le_mul_right _ (by omega); omega)
  have sT : Sz 50 T := ht.le (by rw [e2, Int.natAbs_mul]; have : 1 * T.natAbs ≤ c.natAbs * T.natAbs := Nat.mul_le_mul_right _ (by omega); omega)
  have pos : ∀ {u : Int}, 0 < c → (c * u < 0 ↔ u < 0) ∧ (c * u = 0 ↔ u = 0) := fun {u} h => by
    refine ⟨⟨fun g => ?_, fun g => Int.mul_neg_of_pos_of_neg h g⟩, ⟨fun g => (Int.mul_eq_zero.mp g).resolve_left hc, fun g => by rw [g, Int.mul_zero]⟩⟩
    by_cases k : u < 0
    · exact k
    · exact absurd (Int.mul_nonneg (Int.le_of_lt h) (Int.not_lt.mp k)) (by omega)
  have neg : ∀ {u : Int}, c < 0 → (c * u < 0 ↔ 0 < u) ∧ (c * u = 0 ↔ u = 0) := fun {u} h => by
    refine ⟨⟨fun g => ?_, fun g => Int.mul_neg_of_neg_of_pos h g⟩, ⟨fun g => (Int.mul_eq_zero.mp g).resolve_left hc, fun g => by rw [g, Int.mul_zero]⟩⟩
    by_cases k : 0 < u
    · exact k
    · exact absurd (Int.mul_nonneg_of_nonpos_of_nonpos (Int.le_of_lt h) (Int.not_lt.mp k)) (by omega)
  have hst : S = 0 ∧ T < 0 ∨ S < 0 → False := fun h => by
    rcases h with ⟨h1, h2⟩ | h
    · have : sg1 [S, T] = -1 := by
        show (if S < 0 then (-1 : Int) else if 0 < S then 1 else sg1 [T]) = -1
        rw [if_neg (by omega), if_neg (by omega)]
        show (if T < 0 then (-1 : Int) else _) = -1
        rw [if_pos h2]
      rw [this] at G2; cases G2
    · have : sg1 [S, T] = -1 := by
        show (if S < 0 then (-1 : Int) else if 0 < S then 1 else sg1 [T]) = -1
        rw [if_pos h]
      rw [this] at G2; cases G2
  have hnz := st_ne G1
  refine tot_bind (Q := fun d => d = c) (tot_cond (fun h => tot_some ?_) fun h => tot_some ?_) fun d ed => ?_
  · rw [Bool.or_eq_true, Bool.and_eq_true, decide_eq_true_eq, decide_eq_true_eq, decide_eq_true_eq, e1, e2] at h
    have hcn : c < 0 := by
      refine Int.not_le.mp fun hle => ?_
      have hcp : 0 < c := by omega
      rw [(pos hcp).1, (pos hcp).2, (pos hcp).1] at h
      exact hst (by omega)
    omega
  · rw [Bool.or_eq_false_iff, Bool.and_eq_false_iff, decide_eq_false_iff_not, decide_eq_false_iff_not, decide_eq_false_iff_not, e1, e2] at h
    have hcp : 0 < c := by
      refine Int.not_le.mp fun hle => ?_
      have hcn : c < 0 := by omega
      rw [(neg hcn).1, (neg hcn).2, (neg hcn).1] at h
      have h1 : ¬ S < 0 := fun g => hst (.inr g)
      have hS : S = 0 := by omega
      have hT : ¬ T < 0 := fun g => hst (.inl ⟨hS, g⟩)
      have : T ≠ 0 := fun g => hnz ⟨hS, g⟩
      rcases h.2 with k | k
      · exact k hS
      · omega
    omega
  · subst ed
    have sc : Sz 50 d := by
      by_cases k : S = 0
      · have : T ≠ 0 := fun g => hnz ⟨k, g⟩
        exact ht.le (by rw [e2, Int.natAbs_mul]; have : d.natAbs * 1 ≤ d.natAbs * T.natAbs := Nat.mul_le_mul_left _ (by omega); omega)
      · exact hs.le (by rw [e1, Int.natAbs_mul]; have : d.natAbs * 1 ≤ d.natAbs * S.natAbs := Nat.mul_le_mul_left _ (by omega); omega)
    rw [divO_sz hc sc (by decide), divO_sz hc sc (by decide), e1, e2, fdiv_mul hc, fdiv_mul hc]
    exact tot_some ⟨G1, G2, sS, sT⟩
theorem lines_tot (c o : Int) : Tot (Mir.law_lines_ c o) fun L => L.length ≤ 6 ∧ ∀ v ∈ L, Ln v := by
  unfold Mir.law_lines_
  simp only [bS, bA, bI]
  rw [rangeO_s (by decide) (by decide) (by decide) (by decide)]
  simp only [bS]
  have s0 : Sz 50 (0 : Int) := Sz.mono (m := 1) (by show Sz 1 0; decide) (by decide)
  have s1 : Sz 50 (1 : Int) := Sz.mono (m := 1) (by show Sz 1 1; decide) (by decide)
  refine tot_bind (Q := fun s => s.2.2.length ≤ 6 ∧ ∀ v ∈ s.2.2, Ln v) (tot_forI2 (fun i s => s.2.2.length = 2 + i.toNat ∧ ∀ v ∈ s.2.2, Ln v) (by decide) ⟨rfl, fun v hv => ?_⟩ (fun i s i0 i1 ⟨h1, h2⟩ => ?_) fun s h => ⟨by rw [h.1]; decide, h.2⟩) fun s h => tot_some h
  · rcases List.mem_cons.mp hv with e | hv
    · rw [e]; exact ⟨by decide, by decide, s1, s0⟩
    · rw [List.mem_singleton.mp hv]; exact ⟨by decide, by decide, s0, s1⟩
  · refine tot_bind (Q := fun b => 1000 ≤ b ∧ b ≤ 1000000000000) (tot_if (fun _ => tot_some ⟨by decide, by decide⟩) fun _ => tot_some ⟨by decide, by decide⟩) fun b ⟨b1, b2⟩ => ?_
    rw [mulO_s (by omega) (by omega) (by omega) (by omega), mulO_s (by omega) (by omega) (by omega) (by omega)]
    simp only [bS]
    rw [modO_pos (by omega), modO_pos (by omega)]
    simp only [bS]
    have m1 := Int.emod_nonneg s.1 (show 2 * b - 1 ≠ 0 by omega)
    have m2 := Int.emod_lt_of_pos s.1 (show 0 < 2 * b - 1 by omega)
    have m3 := Int.emod_nonneg s.2.1 (show 2 * b - 1 ≠ 0 by omega)
    have m4 := Int.emod_lt_of_pos s.2.1 (show 0 < 2 * b - 1 by omega)
    refine tot_bind (law_line_tot (by unfold Sz; omega) (by unfold Sz; omega)) fun v hv => ?_
    have ha : appO s.2.2 v = some (s.2.2 ++ [v]) := if_pos (by rw [h1]; omega)
    rw [ha]
    simp only [bS]
    rw [divO_pos (by omega) (n := 50) (by unfold Sz; omega) (by decide), divO_pos (by omega) (n := 50) (by unfold Sz; omega) (by decide)]
    refine tot_some ⟨?_, fun w hw => ?_⟩
    · show (s.2.2 ++ [v]).length = _
      rw [List.length_append, h1, List.length_singleton]
      omega
    · rcases List.mem_append.mp hw with hw | hw
      · exact h2 w hw
      · rw [List.mem_singleton.mp hw]; exact hv
/-! dicts with tuples as keys -/
theorem tfind_mem {β : Type} {l : List (List Int × β)} {k : List Int} {x : β} (h : tfind l k = some x) : (k, x) ∈ l := by
  unfold tfind at h
  obtain ⟨p, hp, e⟩ := Option.map_eq_some_iff.mp h
  have h1 := List.mem_of_find?_eq_some hp
  have h2 := List.find?_some hp
  have h2 := of_decide_eq_true h2
  rw [← h2, ← e]
  exact h1
theorem tput_in {β : Type} {l : List (List Int × β)} {k : List Int} {v : β} {q : List Int × β} (h : q ∈ tput l k v) : q ∈ l ∨ q = (k, v) := by
  unfold tput at h
  split at h
  · obtain ⟨x, hx, e⟩ := List.mem_map.mp h
    by_cases c : x.1 = k
    · rw [if_pos c] at e
      right
      rw [← e, c]
    · rw [if_neg c] at e
      left
      rw [← e]
      exact hx
  · rcases List.mem_append.mp h with h | h
    · exact .inl h
    · exact .inr (List.mem_singleton.mp h)
theorem tput_len {β : Type} (l : List (List Int × β)) (k : List Int) (v : β) : (tput l k v).length ≤ l.length + 1 := by
  unfold tput
  split
  · rw [List.length_map]; omega
  · rw [List.length_append]; exact Nat.le_refl _
theorem gg_one {z0 z1 z2 : Int} (h : z0.natAbs = 1 ∨ z1.natAbs = 1 ∨ z2.natAbs = 1) : gg [z0, z1, z2] = 1 := by
  have d : ∀ x ∈ [z0, z1, z2], x.natAbs = 1 → gg [z0, z1, z2] = 1 := fun x hx e => by
    have := Int.natAbs_dvd_natAbs.mpr (gg_dvd hx)
    rw [e, Int.natAbs_natCast] at this
    exact Nat.dvd_one.mp this
  rcases h with h | h | h
  · exact d z0 (by simp) h
  · exact d z1 (by simp) h
  · exact d z2 (by simp) h
theorem first_sign {z0 z1 z2 : Int} (h : gg [z0, z1, z2] = 1) : Tot ((Mir.law_first_ [z0, z1, z2]).bind fun k => ixO [z0, z1, z2] k) fun v => (v < 0 ↔ sg1 [z0, z1, z2] = -1) := by
  have hne : gg [z0, z1, z2] ≠ 0 := by rw [h]; decide
  by_cases h0 : z0 = 0
  · by_cases h1 : z1 = 0
    · have h2 : z2 ≠ 0 := fun h2 => hne (by rw [h0, h1, h2]; rfl)
      rw [first_2 h0 h1 h2, bS, ix3_2]
      refine tot_some ?_
      rw [h0, h1]
      show _ ↔ (if z2 < 0 then (-1 : Int) else if 0 < z2 then 1 else 1) = -1
      by_cases c : z2 < 0
      · rw [if_pos c]; simp [c]
      · rw [if_neg c, if_pos (by omega)]; simp [c]
    · rw [first_1 h0 h1, bS, ix3_1]
      refine tot_some ?_
      rw [h0]
      show _ ↔ (if z1 < 0 then (-1 : Int) else if 0 < z1 then 1 else _) = -1
      by_cases c : z1 < 0
      · rw [if_pos c]; simp [c]
      · rw [if_neg c, if_pos (by omega)]; simp [c]
  · rw [first_0 h0, bS, ix3_0]
    refine tot_some ?_
    show _ ↔ (if z0 < 0 then (-1 : Int) else if 0 < z0 then 1 else _) = -1
    by_cases c : z0 < 0
    · rw [if_pos c]; simp [c]
    · rw [if_neg c, if_pos (by omega)]; simp [c]
theorem here_tot {z0 z1 z2 v : Int} (h : gg [z0, z1, z2] = 1) (hv : v < 0 ↔ sg1 [z0, z1, z2] = -1) : Tot (cond (decide (v < 0)) (mapO (fun n => some (0 - n)) [z0, z1, z2]) (some [z0, z1, z2])) fun y => ∃ u : Int, (u = 1 ∨ u = -1) ∧ y = [u * z0, u * z1, u * z2] ∧ sg1 y = 1 := by
  have hne : gg [z0, z1, z2] ≠ 0 := by rw [h]; decide
  have hsgv : sg1 [z0, z1, z2] = 1 ∨ sg1 [z0, z1, z2] = -1 := sg1_vals _
  refine tot_if (fun c => ?_) fun c => tot_some ⟨1, .inl rfl, by rw [Int.one_mul, Int.one_mul, Int.one_mul], ?_⟩
  · have e := hv.mp c
    rw [mapO_all (g := fun n => 0 - n) fun _ _ => rfl]
    refine tot_some ⟨-1, .inr rfl, ?_, ?_⟩
    · show [0 - z0, 0 - z1, 0 - z2] = _
      rw [show 0 - z0 = -1 * z0 by omega, show 0 - z1 = -1 * z1 by omega, show 0 - z2 = -1 * z2 by omega]
    · have : ([z0, z1, z2].map fun n => 0 - n) = [z0, z1, z2].map fun n => -1 * n := List.map_congr_left fun n _ => by omega
      rw [this, sg1_neg hne, e]; rfl
  · rcases hsgv with e | e
    · exact e
    · exact absurd (hv.mpr e) c
theorem law_true (ns : List Int) (hl : ns.length ≤ 63) (hb : ∀ z ∈ ns, Sz 1048576 z) : Mir.law_ ⟨ns⟩ = some true := by
  refine Tot.is ?_
  unfold Mir.law_
  simp only [bS, bA, bI]
  obtain ⟨xs, hxs, hx⟩ := rangeS_in (lo := 0) (hi := min 18 (ns.length : Int) + 1) (c := 3) (by decide) (by omega) (by omega)
  rw [hxs]
  simp only [bS]
  refine tot_bind (Q := fun o => o = .inl ()) (tot_forRI (fun _ => True) trivial (fun i s hi _ => ?_) fun _ _ => rfl) fun o ho => by subst ho; exact tot_some rfl
  have hi := hx i hi
  rw [r3]
  simp only [bS]
  have cell : ∀ j : Int, 0 ≤ j → j ≤ 2 → ∃ v, ((Mir.law_cell_at_ ⟨ns⟩ (i + j)).bind fun x0 => Mir.law_big_ x0 (i + j)) = some v := fun j j0 j1 => by
    obtain ⟨v, e, _⟩ := tot_bind (cell_at_tot ns (i + j) (by omega) hb) fun c sc => big_tot (k := i + j) (by omega) (by omega) sc
    exact ⟨v, e⟩
  obtain ⟨c0, q0⟩ := cell 0 (by decide) (by decide)
  obtain ⟨c1, q1⟩ := cell 1 (by decide) (by decide)
  obtain ⟨c2, q2⟩ := cell 2 (by decide) (by decide)
  rw [map3 q0 q1 q2]
  simp only [bS]
  rw [ix3_0, ix3_1, ix3_2]
  simp only [bS]
  refine tot_bind (drawn_tot _ _) fun t ⟨a0, a1, a2, z0, z1, z2, et, hne, hle, hz, hQ, hone⟩ => ?_
  subst et
  have hgz := gg_one hone
  have hz0 : ¬ (z0 = 0 ∧ z1 = 0 ∧ z2 = 0) := fun h => by omega
  have hr : Row [a0, a1, a2] := ⟨by simp, by simp, fun k hk => by
    simp only [List.mem_cons, List.not_mem_nil, or_false] at hk
    rcases hk with e | e | e <;> rw [e] <;> omega⟩
  have s20 : ∀ {v : Int}, v.natAbs ≤ 720000 → Sz 20 v := fun h => by unfold Sz; omega
  have sa : ∀ x ∈ [a0, a1, a2], Sz 20 x := fun x hx => by
    simp only [List.mem_cons, List.not_mem_nil, or_false] at hx
    rcases hx with e | e | e <;> rw [e] <;> exact s20 (by omega)
  have sz : ∀ x ∈ [z0, z1, z2], Sz 20 x := fun x hx => by
    simp only [List.mem_cons, List.not_mem_nil, or_false] at hx
    rcases hx with e | e | e <;> rw [e] <;> exact s20 (by omega)
  refine tot_bind (lines_tot _ _) fun L ⟨hL6, hL⟩ => ?_
  refine tot_bind (Q := fun o => ∃ d, o = .inl d) (tot_forR (fun rest (d : DT (Int × Int)) => (∀ v ∈ rest, Ln v) ∧ d.l.length + rest.length ≤ 6 ∧ ∀ q ∈ d.l, Mir.line_of_ [a0, a1, a2] [z0, z1, z2] q.1 = some ⟨[q.2.1, q.2.2]⟩) ⟨hL, by simpa using hL6, fun q hq => (nomatch hq)⟩ (fun v rest d ⟨h1, h2, h3⟩ => ?_) fun d _ => ⟨d, rfl⟩) fun o ⟨d, ho⟩ => ?_
  · obtain ⟨g1, g2, sS, sT⟩ := h1 v List.mem_cons_self
    rw [List.length_cons] at h2
    obtain ⟨p0, p1, p2, F⟩ := line_forth hr sa sz sS sT hQ hz0 g1 g2
    rw [pair_one, one_eq sa F]
    simp only [bS]
    have hput : tputO d ⟨[p0, p1, p2]⟩ v = some ⟨tput d.l [p0, p1, p2] v⟩ := by
      unfold tputO
      rw [if_pos (by omega)]
    have hget : tgetD d ⟨[p0, p1, p2]⟩ v = v := by
      unfold tgetD
      cases hf : tfind d.l [p0, p1, p2] with
      | none => rfl
      | some w =>
        have := h3 _ (tfind_mem hf)
        have e := Option.some.inj (this.symm.trans F.line)
        have e2 : [w.1, w.2] = [v.1, v.2] := congrArg TK.l e
        exact Prod.ext (List.cons.inj e2).1 (List.cons.inj (List.cons.inj e2).2).1
    refine tot_bind (Q := fun b => b = false) (tot_cond (fun h => by cases h) fun _ => tot_some (by rw [hget, decide_eq_true rfl]; rfl)) fun b eb => ?_
    subst eb
    rw [cF, hput]
    refine tot_some ⟨fun w hw => h1 w (List.mem_cons_of_mem _ hw), ?_, fun q hq => ?_⟩
    · have := tput_len d.l [p0, p1, p2] v
      show (tput d.l [p0, p1, p2] v).length + _ ≤ 6
      omega
    · rcases tput_in hq with h | h
      · exact h3 q h
      · rw [h]; exact F.line
  · subst ho
    rw [eL]
    dsimp only
    obtain ⟨v, ev, hv⟩ := first_sign hgz
    obtain ⟨k, ek, ev⟩ := bind_some ev
    rw [ek, bS, ev, bS]
    refine tot_bind (here_tot hgz hv) fun y ⟨u, hu, ey, hsg⟩ => ?_
    subst ey
    have hgg : gg [u * z0, u * z1, u * z2] = 1 := by
      have := gg_mul u [z0, z1, z2]
      rw [hgz] at this
      have hun : u.natAbs = 1 := by omega
      rw [hun] at this
      exact this
    have hQu : a0 * (u * z0) * (u * z0) + a1 * (u * z1) * (u * z1) + a2 * (u * z2) * (u * z2) = 0 := by
      have : a0 * (u * z0) * (u * z0) + a1 * (u * z1) * (u * z1) + a2 * (u * z2) * (u * z2) = u * u * (a0 * z0 * z0 + a1 * z1 * z1 + a2 * z2 * z2) := by grind
      rw [this, hQ, Int.mul_zero]
    have su : ∀ x ∈ [u * z0, u * z1, u * z2], Sz 20 x := fun x hx => by
      simp only [List.mem_cons, List.not_mem_nil, or_false] at hx
      have na : ∀ z : Int, (u * z).natAbs = z.natAbs := fun z => by rcases hu with e | e <;> rw [e] <;> omega
      rcases hx with e | e | e <;> rw [e] <;> exact s20 (by rw [na]; omega)
    obtain ⟨S, T, sS, sT, g1, g2, e1, e2⟩ := there_and_back2 (q := 20) (by decide) hr sa sz su hQ hz0 hQu hgg hsg
    obtain ⟨p0, p1, p2, F⟩ := line_forth hr sa sz (sS.mono (by decide)) (sT.mono (by decide)) hQ hz0 g1 g2
    have ep : [p0, p1, p2] = [u * z0, u * z1, u * z2] := Option.some.inj (F.pt.symm.trans e2)
    rw [e1]
    simp only [bS]
    rw [one_eq sa F, ep]
    simp only [bS]
    refine tot_ifn (fun h => absurd trivial h) fun _ => tot_some trivial
end Mi

namespace Mi
open PySem L2
open Rp (rep)
set_option simprocs false
def topS (i : Nat) : Stmt := PySem.Challenge.pw_everyplace_k40_lines_and_points.main.body.getD i (.Pass ⟨0, 0, 0, 0⟩)
abbrev s_law_cell_at_ : Stmt := topS 17
abbrev N_law_cell_at_ : List Str := ["_law_script", "_law_k"]
theorem sc_law_cell_at_ : FnScope N_law_cell_at_ ["_law_script", "_law_k"] (defScope s_law_cell_at_) := ⟨rfl, rfl, rfl, by decide +kernel, rfl, by decide +kernel, by decide +kernel⟩
abbrev s_law_big_ : Stmt := topS 18
abbrev N_law_big_ : List Str := ["_law_cell", "_law_k", "_law_number", "_law_j", "_law_part"]
theorem sc_law_big_ : FnScope N_law_big_ ["_law_cell", "_law_k"] (defScope s_law_big_) := ⟨rfl, rfl, rfl, by decide +kernel, rfl, by decide +kernel, by decide +kernel⟩
abbrev s_law_drawn_ : Stmt := topS 21
abbrev N_law_drawn_ : List Str := ["_law_cell", "_law_other", "_law_a", "_law_b", "_law_x", "_law_y", "_law_made", "_law_row", "_law_zero", "_law_turn", "_law_bits", "_law_k"]
theorem sc_law_drawn_ : FnScope N_law_drawn_ ["_law_cell", "_law_other"] (defScope s_law_drawn_) := ⟨rfl, rfl, rfl, by decide +kernel, rfl, by decide +kernel, by decide +kernel⟩
abbrev s_law_common_ : Stmt := topS 19
abbrev N_law_common_ : List Str := ["_law_a", "_law_b", "_law_rest"]
theorem sc_law_common_ : FnScope N_law_common_ ["_law_a", "_law_b"] (defScope s_law_common_) := ⟨rfl, rfl, rfl, by decide +kernel, rfl, by decide +kernel, by decide +kernel⟩
abbrev s_law_line_ : Stmt := topS 22
abbrev N_law_line_ : List Str := ["_law_s", "_law_t", "_law_part"]
theorem sc_law_line_ : FnScope N_law_line_ ["_law_s", "_law_t"] (defScope s_law_line_) := ⟨rfl, rfl, rfl, by decide +kernel, rfl, by decide +kernel, by decide +kernel⟩
abbrev s_law_lines_ : Stmt := topS 23
abbrev N_law_lines_ : List Str := ["_law_cell", "_law_other", "_law_lines_here", "_law_k", "_law_bound", "_law_s", "_law_t"]
theorem sc_law_lines_ : FnScope N_law_lines_ ["_law_cell", "_law_other"] (defScope s_law_lines_) := ⟨rfl, rfl, rfl, by decide +kernel, rfl, by decide +kernel, by decide +kernel⟩
abbrev s_is_row_ : Stmt := topS 8
abbrev N_is_row_ : List Str := ["row", "k"]
theorem sc_is_row_ : FnScope N_is_row_ ["row"] (defScope s_is_row_) := ⟨rfl, rfl, rfl, by decide +kernel, rfl, by decide +kernel, by decide +kernel⟩
abbrev s_must_be_row_ : Stmt := topS 9
abbrev N_must_be_row_ : List Str := ["row"]
theorem sc_must_be_row_ : FnScope N_must_be_row_ ["row"] (defScope s_must_be_row_) := ⟨rfl, rfl, rfl, by decide +kernel, rfl, by decide +kernel, by decide +kernel⟩
abbrev s_seat_ : Stmt := topS 13
abbrev N_seat_ : List Str := ["zero", "h", "i", "j", "k"]
theorem sc_seat_ : FnScope N_seat_ ["zero"] (defScope s_seat_) := ⟨rfl, rfl, rfl, by decide +kernel, rfl, by decide +kernel, by decide +kernel⟩
abbrev s_common_ : Stmt := topS 4
abbrev N_common_ : List Str := ["one", "other"]
theorem sc_common_ : FnScope N_common_ ["one", "other"] (defScope s_common_) := ⟨rfl, rfl, rfl, by decide +kernel, rfl, by decide +kernel, by decide +kernel⟩
abbrev s_primitive_ : Stmt := topS 11
abbrev N_primitive_ : List Str := ["numbers", "part", "number"]
theorem sc_primitive_ : FnScope N_primitive_ ["numbers"] (defScope s_primitive_) := ⟨rfl, rfl, rfl, by decide +kernel, rfl, by decide +kernel, by decide +kernel⟩
abbrev s_signed_ : Stmt := topS 12
abbrev N_signed_ : List Str := ["numbers", "row", "number", "other"]
theorem sc_signed_ : FnScope N_signed_ ["numbers"] (defScope s_signed_) := ⟨rfl, rfl, rfl, by decide +kernel, rfl, by decide +kernel, by decide +kernel⟩
abbrev s_point_of_ : Stmt := topS 14
abbrev N_point_of_ : List Str := ["row", "zero", "line", "h", "i", "j", "way", "made", "both", "k"]
theorem sc_point_of_ : FnScope N_point_of_ ["row", "zero", "line"] (defScope s_point_of_) := ⟨rfl, rfl, rfl, by decide +kernel, rfl, by decide +kernel, by decide +kernel⟩
abbrev s_law_is_zero_ : Stmt := topS 20
abbrev N_law_is_zero_ : List Str := ["_law_row", "_law_zero", "_law_part", "_law_total", "_law_k"]
theorem sc_law_is_zero_ : FnScope N_law_is_zero_ ["_law_row", "_law_zero"] (defScope s_law_is_zero_) := ⟨rfl, rfl, rfl, by decide +kernel, rfl, by decide +kernel, by decide +kernel⟩
abbrev s_law_first_ : Stmt := topS 24
abbrev N_law_first_ : List Str := ["_law_zero", "_law_k"]
theorem sc_law_first_ : FnScope N_law_first_ ["_law_zero"] (defScope s_law_first_) := ⟨rfl, rfl, rfl, by decide +kernel, rfl, by decide +kernel, by decide +kernel⟩
abbrev s_law_lies_ : Stmt := topS 25
abbrev N_law_lies_ : List Str := ["_law_row", "_law_zero", "_law_line_here", "_law_point", "_law_h", "_law_i", "_law_j", "_law_s", "_law_t", "_law_both", "_law_k"]
theorem sc_law_lies_ : FnScope N_law_lies_ ["_law_row", "_law_zero", "_law_line_here", "_law_point"] (defScope s_law_lies_) := ⟨rfl, rfl, rfl, by decide +kernel, rfl, by decide +kernel, by decide +kernel⟩
abbrev s_line_of_ : Stmt := topS 15
abbrev N_line_of_ : List Str := ["row", "zero", "point", "h", "i", "j", "s", "t"]
theorem sc_line_of_ : FnScope N_line_of_ ["row", "zero", "point"] (defScope s_line_of_) := ⟨rfl, rfl, rfl, by decide +kernel, rfl, by decide +kernel, by decide +kernel⟩
abbrev s_law_one_ : Stmt := topS 26
abbrev N_law_one_ : List Str := ["_law_row", "_law_zero", "_law_line_here", "_law_handed", "_law_point", "_law_said"]
theorem sc_law_one_ : FnScope N_law_one_ ["_law_row", "_law_zero", "_law_line_here"] (defScope s_law_one_) := ⟨rfl, rfl, rfl, by decide +kernel, rfl, by decide +kernel, by decide +kernel⟩
abbrev s_law_ : Stmt := topS 27
abbrev N_law_ : List Str := ["_law_script", "_law_k", "_law_cells", "_law_row", "_law_zero", "_law_points", "_law_line_here", "_law_point", "_law_here", "_law_j", "_law_number"]
theorem sc_law_ : FnScope N_law_ ["_law_script"] (defScope s_law_) := ⟨rfl, rfl, rfl, by decide +kernel, rfl, by decide +kernel, by decide +kernel⟩
/-! ### where all stands -/
structure Txt (K : PySem.W.Frag) (mg : Str → Option Value) where
  a_law_cell_at_ : Addr
  d_law_cell_at_ : FuncData
  F_law_cell_at_ : Fun K "_law_cell_at" "_law_cell_at" s_law_cell_at_ a_law_cell_at_ d_law_cell_at_
  g_law_cell_at_ : mg "_law_cell_at" = some (.ref a_law_cell_at_)
  a_law_big_ : Addr
  d_law_big_ : FuncData
  F_law_big_ : Fun K "_law_big" "_law_big" s_law_big_ a_law_big_ d_law_big_
  g_law_big_ : mg "_law_big" = some (.ref a_law_big_)
  a_law_drawn_ : Addr
  d_law_drawn_ : FuncData
  F_law_drawn_ : Fun K "_law_drawn" "_law_drawn" s_law_drawn_ a_law_drawn_ d_law_drawn_
  g_law_drawn_ : mg "_law_drawn" = some (.ref a_law_drawn_)
  a_law_common_ : Addr
  d_law_common_ : FuncData
  F_law_common_ : Fun K "_law_common" "_law_common" s_law_common_ a_law_common_ d_law_common_
  g_law_common_ : mg "_law_common" = some (.ref a_law_common_)
  a_law_line_ : Addr
  d_law_line_ : FuncData
  F_law_line_ : Fun K "_law_line" "_law_line" s_law_line_ a_law_line_ d_law_line_
  g_law_line_ : mg "_law_line" = some (.ref a_law_line_)
  a_law_lines_ : Addr
  d_law_lines_ : FuncData
  F_law_lines_ : Fun K "_law_lines" "_law_lines" s_law_lines_ a_law_lines_ d_law_lines_
  g_law_lines_ : mg "_law_lines" = some (.ref a_law_lines_)
  a_is_row_ : Addr
  d_is_row_ : FuncData
  F_is_row_ : Fun K "is_row" "is_row" s_is_row_ a_is_row_ d_is_row_
  g_is_row_ : mg "is_row" = some (.ref a_is_row_)
  a_must_be_row_ : Addr
  d_must_be_row_ : FuncData
  F_must_be_row_ : Fun K "must_be_row" "must_be_row" s_must_be_row_ a_must_be_row_ d_must_be_row_
  g_must_be_row_ : mg "must_be_row" = some (.ref a_must_be_row_)
  a_seat_ : Addr
  d_seat_ : FuncData
  F_seat_ : Fun K "seat" "seat" s_seat_ a_seat_ d_seat_
  g_seat_ : mg "seat" = some (.ref a_seat_)
  a_common_ : Addr
  d_common_ : FuncData
  F_common_ : Fun K "common" "common" s_common_ a_common_ d_common_
  g_common_ : mg "common" = some (.ref a_common_)
  a_primitive_ : Addr
  d_primitive_ : FuncData
  F_primitive_ : Fun K "primitive" "primitive" s_primitive_ a_primitive_ d_primitive_
  g_primitive_ : mg "primitive" = some (.ref a_primitive_)
  a_signed_ : Addr
  d_signed_ : FuncData
  F_signed_ : Fun K "signed" "signed" s_signed_ a_signed_ d_signed_
  g_signed_ : mg "signed" = some (.ref a_signed_)
  a_point_of_ : Addr
  d_point_of_ : FuncData
  F_point_of_ : Fun K "point_of" "point_of" s_point_of_ a_point_of_ d_point_of_
  g_point_of_ : mg "point_of" = some (.ref a_point_of_)
  a_law_is_zero_ : Addr
  d_law_is_zero_ : FuncData
  F_law_is_zero_ : Fun K "_law_is_zero" "_law_is_zero" s_law_is_zero_ a_law_is_zero_ d_law_is_zero_
  g_law_is_zero_ : mg "_law_is_zero" = some (.ref a_law_is_zero_)
  a_law_first_ : Addr
  d_law_first_ : FuncData
  F_law_first_ : Fun K "_law_first" "_law_first" s_law_first_ a_law_first_ d_law_first_
  g_law_first_ : mg "_law_first" = some (.ref a_law_first_)
  a_law_lies_ : Addr
  d_law_lies_ : FuncData
  F_law_lies_ : Fun K "_law_lies" "_law_lies" s_law_lies_ a_law_lies_ d_law_lies_
  g_law_lies_ : mg "_law_lies" = some (.ref a_law_lies_)
  a_line_of_ : Addr
  d_line_of_ : FuncData
  F_line_of_ : Fun K "line_of" "line_of" s_line_of_ a_line_of_ d_line_of_
  g_line_of_ : mg "line_of" = some (.ref a_line_of_)
  a_law_one_ : Addr
  d_law_one_ : FuncData
  F_law_one_ : Fun K "_law_one" "_law_one" s_law_one_ a_law_one_ d_law_one_
  g_law_one_ : mg "_law_one" = some (.ref a_law_one_)
  a_law_ : Addr
  d_law_ : FuncData
  F_law_ : Fun K "law" "law" s_law_ a_law_ d_law_
  g_law_ : mg "law" = some (.ref a_law_)
  n_abs : mg "abs" = none
  n_bool : mg "bool" = none
  n_int : mg "int" = none
  n_isinstance : mg "isinstance" = none
  n_len : mg "len" = none
  n_list : mg "list" = none
  n_min : mg "min" = none
  n_range : mg "range" = none
  n_sum : mg "sum" = none
  n_tuple : mg "tuple" = none
  t_LONGEST_ : Tok
  c_LONGEST_ : mg "LONGEST" = some (.int 8 t_LONGEST_)
  t_MOST_ : Tok
  c_MOST_ : mg "MOST" = some (.int 1073741824 t_MOST_)
section
variable {P : Program} {w : World} {K : PySem.W.Frag} {mg : Str → Option Value} {base : Heap}
theorem bind_law_cell_at_ (T : Txt K mg) : Binds K T.d_law_cell_at_ ["_law_script", "_law_k"] [] := T.F_law_cell_at_.binds (ps := ["_law_script", "_law_k"]) fun _ _ _ _ _ _ us hl => match us, hl with | [_, _], _ => rfl
theorem bind_law_big_ (T : Txt K mg) : Binds K T.d_law_big_ ["_law_cell", "_law_k"] [] := T.F_law_big_.binds (ps := ["_law_cell", "_law_k"]) fun _ _ _ _ _ _ us hl => match us, hl with | [_, _], _ => rfl
theorem bind_law_drawn_ (T : Txt K mg) : Binds K T.d_law_drawn_ ["_law_cell", "_law_other"] [] := T.F_law_drawn_.binds (ps := ["_law_cell", "_law_other"]) fun _ _ _ _ _ _ us hl => match us, hl with | [_, _], _ => rfl
theorem bind_law_common_ (T : Txt K mg) : Binds K T.d_law_common_ ["_law_a", "_law_b"] [] := T.F_law_common_.binds (ps := ["_law_a", "_law_b"]) fun _ _ _ _ _ _ us hl => match us, hl with | [_, _], _ => rfl
theorem bind_law_line_ (T : Txt K mg) : Binds K T.d_law_line_ ["_law_s", "_law_t"] [] := T.F_law_line_.binds (ps := ["_law_s", "_law_t"]) fun _ _ _ _ _ _ us hl => match us, hl with | [_, _], _ => rfl
theorem bind_law_lines_ (T : Txt K mg) : Binds K T.d_law_lines_ ["_law_cell", "_law_other"] [] := T.F_law_lines_.binds (ps := ["_law_cell", "_law_other"]) fun _ _ _ _ _ _ us hl => match us, hl with | [_, _], _ => rfl
theorem bind_is_row_ (T : Txt K mg) : Binds K T.d_is_row_ ["row"] [] := T.F_is_row_.binds (ps := ["row"]) fun _ _ _ _ _ _ us hl => match us, hl with | [_], _ => rfl
theorem bind_must_be_row_ (T : Txt K mg) : Binds K T.d_must_be_row_ ["row"] [] := T.F_must_be_row_.binds (ps := ["row"]) fun _ _ _ _ _ _ us hl => match us, hl with | [_], _ => rfl
theorem bind_seat_ (T : Txt K mg) : Binds K T.d_seat_ ["zero"] [] := T.F_seat_.binds (ps := ["zero"]) fun _ _ _ _ _ _ us hl => match us, hl with | [_], _ => rfl
theorem bind_common_ (T : Txt K mg) : Binds K T.d_common_ ["one", "other"] [] := T.F_common_.binds (ps := ["one", "other"]) fun _ _ _ _ _ _ us hl => match us, hl with | [_, _], _ => rfl
theorem bind_primitive_ (T : Txt K mg) : Binds K T.d_primitive_ ["numbers"] [] := T.F_primitive_.binds (ps := ["numbers"]) fun _ _ _ _ _ _ us hl => match us, hl with | [_], _ => rfl
theorem bind_signed_ (T : Txt K mg) : Binds K T.d_signed_ ["numbers"] [] := T.F_signed_.binds (ps := ["numbers"]) fun _ _ _ _ _ _ us hl => match us, hl with | [_], _ => rfl
theorem bind_point_of_ (T : Txt K mg) : Binds K T.d_point_of_ ["row", "zero", "line"] [] := T.F_point_of_.binds (ps := ["row", "zero", "line"]) fun _ _ _ _ _ _ us hl => match us, hl with | [_, _, _], _ => rfl
theorem bind_law_is_zero_ (T : Txt K mg) : Binds K T.d_law_is_zero_ ["_law_row", "_law_zero"] [] := T.F_law_is_zero_.binds (ps := ["_law_row", "_law_zero"]) fun _ _ _ _ _ _ us hl => match us, hl with | [_, _], _ => rfl
theorem bind_law_first_ (T : Txt K mg) : Binds K T.d_law_first_ ["_law_zero"] [] := T.F_law_first_.binds (ps := ["_law_zero"]) fun _ _ _ _ _ _ us hl => match us, hl with | [_], _ => rfl
theorem bind_law_lies_ (T : Txt K mg) : Binds K T.d_law_lies_ ["_law_row", "_law_zero", "_law_line_here", "_law_point"] [] := T.F_law_lies_.binds (ps := ["_law_row", "_law_zero", "_law_line_here", "_law_point"]) fun _ _ _ _ _ _ us hl => match us, hl with | [_, _, _, _], _ => rfl
theorem bind_line_of_ (T : Txt K mg) : Binds K T.d_line_of_ ["row", "zero", "point"] [] := T.F_line_of_.binds (ps := ["row", "zero", "point"]) fun _ _ _ _ _ _ us hl => match us, hl with | [_, _, _], _ => rfl
theorem bind_law_one_ (T : Txt K mg) : Binds K T.d_law_one_ ["_law_row", "_law_zero", "_law_line_here"] [] := T.F_law_one_.binds (ps := ["_law_row", "_law_zero", "_law_line_here"]) fun _ _ _ _ _ _ us hl => match us, hl with | [_, _, _], _ => rfl
theorem bind_law_ (T : Txt K mg) : Binds K T.d_law_ ["_law_script"] [] := T.F_law_.binds (ps := ["_law_script"]) fun _ _ _ _ _ _ us hl => match us, hl with | [_], _ => rfl
theorem ok_law_cell_at_ (T : Txt K mg) : FnOk P w K mg base CX0 1 T.a_law_cell_at_ T.d_law_cell_at_ ["_law_script", "_law_k"] (Sp2 K (RV K) Mir.law_cell_at_) := by
  refine T.F_law_cell_at_.ok sc_law_cell_at_ (Sp2.len rfl) (fun cdv A outer s He vs Q E hr h => ?_)
  obtain ⟨Ge, w_law_script_, w_law_k_, law_script_, law_k_, r, rfl, hs, r_law_script_, r_law_k_, hm, q⟩ := h
  have e : Ext Ge He Ge He := Ext.refl hs
  have r2_law_k_ : w_law_k_ = V.int law_k_ := r_law_k_
  subst r2_law_k_
  clear r_law_k_
  unfold Mir.law_cell_at_ at hm
  refine ⟨_, (pss_cons (ps_if (pt_cmpR op_lt (pv 1) (pe_callB call_len_seq (by rfl) T.n_len (by decide +kernel) (pa_cons (pv 0) pa_nil)) (nomark _)) (pss_one (ps_ret (pe_ix ix_list (pv 0) (pv 1) (fun _ _ => rfl)))) pss_nil) (pss_one (ps_ret pe_int))), ?_⟩
  try dsimp only
  refine st_seq ?_
  refine st_if e.s (st_test (K := K) (se_ltp (se_iv (i := 1) (d := law_k_) rfl) (se_lenKp (se_var (i := 0) (d := law_script_) rfl r_law_script_)))) hm (fun G1 H1 ce hm => ?_) (fun G1 H1 ce hm => ?_)
  · replace e := e.trans ce
    replace r_law_script_ := Rp.mono ce.g r_law_script_
    try dsimp only
    exact st_ret (RR := RV K) e rvm (SE.xe (se_ixKp (se_var (i := 0) (d := law_script_) rfl r_law_script_) (se_iv (i := 1) (d := law_k_) rfl))) hm q
  · replace e := e.trans ce
    replace r_law_script_ := Rp.mono ce.g r_law_script_
    refine st_next ?_
    try dsimp only
    exact st_ret (RR := RV K) e rvm (SE.xe (se_int (n := 0))) hm q
theorem ok_law_big_ (T : Txt K mg) : FnOk P w K mg base CX0 1 T.a_law_big_ T.d_law_big_ ["_law_cell", "_law_k"] (Sp2 K (RV K) Mir.law_big_) := by
  refine T.F_law_big_.ok sc_law_big_ (Sp2.len rfl) (fun cdv A outer s He vs Q E hr h => ?_)
  obtain ⟨Ge, w_law_cell_, w_law_k_, law_cell_, law_k_, r, rfl, hs, r_law_cell_, r_law_k_, hm, q⟩ := h
  have e : Ext Ge He Ge He := Ext.refl hs
  have r2_law_cell_ : w_law_cell_ = V.int law_cell_ := r_law_cell_
  subst r2_law_cell_
  clear r_law_cell_
  have r2_law_k_ : w_law_k_ = V.int law_k_ := r_law_k_
  subst r2_law_k_
  clear r_law_k_
  unfold Mir.law_big_ at hm
  refine ⟨_, (pss_cons (ps_if (pt_cmpR op_ge (pe_callB call_abs (by rfl) T.n_abs (by decide +kernel) (pa_cons (pv 0) pa_nil)) (pe_op op_pow pe_int pe_int) (nomark _)) (pss_one (ps_ret (pv 0))) pss_nil) (pss_cons (ps_set (i := 2) sc_law_big_.nd rfl (Or.inl rfl) pe_int) (pss_cons (ps_for PassesOwn.never rfl (pi_range1 (by rfl) T.n_range (pa_cons pe_int pa_nil)) (pg_name (i := 3) sc_law_big_.nd rfl (Or.inl rfl)) (pss_cons (ps_set (i := 4) sc_law_big_.nd rfl (Or.inl rfl) (pe_op op_add (pe_op op_add (pe_op op_add (pe_op op_mod (pe_callB call_abs (by rfl) T.n_abs (by decide +kernel) (pa_cons (pv 0) pa_nil)) pe_int) (pe_op op_mulZ pe_int (pv 1))) (pe_op op_mulZ pe_int (pv 3))) pe_int)) (pss_cons (ps_set (i := 4) sc_law_big_.nd rfl (Or.inl rfl) (pe_op op_mod (pe_op op_mulZ (pv 4) (pe_op op_add (pe_op op_add pe_int (pe_op op_mulZ (pv 3) (pv 3))) (pv 1))) pe_int)) (pss_one (ps_set (i := 2) sc_law_big_.nd rfl (Or.inl rfl) (pe_op op_add (pe_op op_mulZ (pv 2) pe_int) (pe_op op_mod (pe_op op_mulZ (pv 4) pe_int) pe_int))))))) (pss_one (ps_ret (pv 2)))))), ?_⟩
  try dsimp only
  refine st_seq ?_
  refine st_if e.s (st_test (K := K) (se_gep (se_absp (se_iv (i := 0) (d := law_cell_) rfl)) (se_kpow (n := 1000000000000000000) (se_int (n := 10)) (se_int (n := 18)) (by decide +kernel)))) hm (fun G1 H1 ce hm => ?_) (fun G1 H1 ce hm => ?_)
  · replace e := e.trans ce
    try dsimp only
    exact st_ret (RR := RV K) e rvm (SE.xe (se_iv (i := 0) (d := law_cell_) rfl)) hm q
  · replace e := e.trans ce
    refine st_next ?_
    try dsimp only
    refine st_seq ?_
    refine st_set (K := K) e.s (se_int (n := 0)) hm (fun law_number_ w_law_number_ G1 H1 ce r_law_number_ hm => ?_)
    replace e := e.trans ce
    have r_law_number_ : w_law_number_ = V.int law_number_ := r_law_number_; subst r_law_number_
    try dsimp only
    refine st_seq ?_
    refine st_for (K := K) e.s (ie_range1p (se_int (n := 9))) hm (fun xs J Gs1 Hs1 ce it hm => ?_)
    replace e := e.trans ce
    have sg1 : Same Gs1 Gs1 := Same.refl _
    obtain ⟨z1, hw, hm⟩ := bind_some hm
    refine lg_N (K := K) (fun (s1 : Int) σ G H => ∃ (j3 : Option V) (j4 : Option V), σ = [some (V.int law_cell_), some (V.int law_k_), some (V.int s1), j3, j4] ∧ Ext Ge He G H ∧ Same Gs1 G) it hw ⟨_, _, rfl, e, sg1⟩ (fun s1 σ G H h => ?_) (fun s1 i1 f w1 σ G H G1 H1 N hx h ce hv hm hN => ?_) (fun σ G H h => ?_)
    · obtain ⟨j3, j4, es, e, sg1⟩ := h
      subst es
      exact ⟨sg1, e.s⟩
    · clear hw it
      obtain ⟨j3, j4, es, e, sg1⟩ := h
      subst es
      replace e := e.trans ce
      replace sg1 := sg1.trans ce.g
      refine g_name ?_
      have hv2 : w1 = V.int i1 := hv
      subst hv2
      clear hv
      try dsimp only
      refine st_seq ?_
      refine st_set (K := K) e.s (se_add (se_add (se_add (se_modcp (se_absp (se_iv (i := 0) (d := law_cell_) rfl)) (by decide)) (se_mulp (se_int (n := 97)) (se_iv (i := 1) (d := law_k_) rfl))) (se_mulp (se_int (n := 131)) (se_iv (i := 3) (d := i1) rfl))) (se_int (n := 13))) hm (fun law_part_ w_law_part_ G1 H1 ce r_law_part_ hm => ?_)
      replace e := e.trans ce
      replace sg1 := sg1.trans ce.g
      have r_law_part_ : w_law_part_ = V.int law_part_ := r_law_part_; subst r_law_part_
      try dsimp only
      refine st_seq ?_
      refine st_set (K := K) e.s (se_modc (se_mul (se_iv (i := 4) (d := law_part_) rfl) (se_add (se_add (se_int (n := 16807)) (se_mulp (se_iv (i := 3) (d := i1) rfl) (se_iv (i := 3) (d := i1) rfl))) (se_iv (i := 1) (d := law_k_) rfl))) (by decide)) hm (fun law_part_ w_law_part_ G1 H1 ce r_law_part_ hm => ?_)
      replace e := e.trans ce
      replace sg1 := sg1.trans ce.g
      have r_law_part_ : w_law_part_ = V.int law_part_ := r_law_part_; subst r_law_part_
      try dsimp only
      refine st_set (K := K) e.s (se_add (se_mulp (se_iv (i := 2) (d := s1) rfl) (se_int (n := 2147483659))) (se_modc (se_mulp (se_iv (i := 4) (d := law_part_) rfl) (se_int (n := 48271))) (by decide))) hm (fun law_number_ w_law_number_ G1 H1 ce r_law_number_ hm => ?_)
      replace e := e.trans ce
      replace sg1 := sg1.trans ce.g
      have r_law_number_ : w_law_number_ = V.int law_number_ := r_law_number_; subst r_law_number_
      cases hm
      exact hN _ _ _ ⟨_, _, rfl, e, sg1⟩
    · clear hw it
      obtain ⟨j3, j4, es, e, sg1⟩ := h
      subst es
      clear sg1
      try dsimp only
      exact st_ret (RR := RV K) e rvm (SE.xe (se_iv (i := 2) (d := z1) rfl)) hm q
theorem ok_law_drawn_ (T : Txt K mg) : FnOk P w K mg base CX0 1 T.a_law_drawn_ T.d_law_drawn_ ["_law_cell", "_law_other"] (Sp2 K (RV K) Mir.law_drawn_) := by
  refine T.F_law_drawn_.ok sc_law_drawn_ (Sp2.len rfl) (fun cdv A outer s He vs Q E hr h => ?_)
  obtain ⟨Ge, w_law_cell_, w_law_other_, law_cell_, law_other_, r, rfl, hs, r_law_cell_, r_law_other_, hm, q⟩ := h
  have e : Ext Ge He Ge He := Ext.refl hs
  have r2_law_cell_ : w_law_cell_ = V.int law_cell_ := r_law_cell_
  subst r2_law_cell_
  clear r_law_cell_
  have r2_law_other_ : w_law_other_ = V.int law_other_ := r_law_other_
  subst r2_law_other_
  clear r_law_other_
  unfold Mir.law_drawn_ at hm
  refine ⟨_, (pss_cons (ps_set (i := 2) sc_law_drawn_.nd rfl (Or.inl rfl) (pe_op op_mulZ (pe_op op_add pe_int (pe_op op_mod (pe_op op_fdivW (pv 0) pe_int) pe_int)) (pe_op op_sub pe_int (pe_op op_mulZ pe_int (pe_op op_mod (pe_op op_fdivW (pv 0) pe_int) pe_int))))) (pss_cons (ps_set (i := 3) sc_law_drawn_.nd rfl (Or.inl rfl) (pe_op op_mulZ (pe_op op_add pe_int (pe_op op_mod (pv 1) pe_int)) (pe_op op_sub pe_int (pe_op op_mulZ pe_int (pe_op op_mod (pe_op op_fdivW (pv 1) pe_int) pe_int))))) (pss_cons (ps_set (i := 4) sc_law_drawn_.nd rfl (Or.inl rfl) (pe_op op_mod (pe_op op_fdivW (pv 1) pe_int) pe_int)) (pss_cons (ps_set (i := 5) sc_law_drawn_.nd rfl (Or.inl rfl) (pe_op op_add pe_int (pe_op op_mod (pe_op op_fdivW (pv 1) pe_int) pe_int))) (pss_cons (ps_set (i := 6) sc_law_drawn_.nd rfl (Or.inl rfl) (pe_op op_add (pe_op op_mulZ (pe_op op_mulZ (pv 2) (pv 4)) (pv 4)) (pe_op op_mulZ (pe_op op_mulZ (pv 3) (pv 5)) (pv 5)))) (pss_cons (ps_set (i := 7) sc_law_drawn_.nd rfl (Or.inl rfl) (pe_lst (pa_cons (pv 2) (pa_cons (pv 3) (pa_cons (pe_op op_sub pe_int (pv 6)) pa_nil))))) (pss_cons (ps_set (i := 8) sc_law_drawn_.nd rfl (Or.inl rfl) (pe_lst (pa_cons (pv 4) (pa_cons (pv 5) (pa_cons pe_int pa_nil))))) (pss_cons (ps_if (PW.pt (pw_or (pt_cmpR op_eq (pv 6) pe_int (nomark _)) (pw_or1 (pt_cmpR op_eq (pe_op op_mod (pe_op op_fdivW (pv 0) pe_int) pe_int) pe_int (nomark _))))) (pss_cons (ps_set (i := 7) sc_law_drawn_.nd rfl (Or.inl rfl) (pe_lst (pa_cons (pv 2) (pa_cons (pe_op op_sub pe_int (pv 2)) (pa_cons (pv 3) pa_nil))))) (pss_one (ps_set (i := 8) sc_law_drawn_.nd rfl (Or.inl rfl) (pe_lst (pa_cons pe_int (pa_cons pe_int (pa_cons pe_int pa_nil))))))) pss_nil) (pss_cons (ps_set (i := 9) sc_law_drawn_.nd rfl (Or.inl rfl) (pe_op op_mod (pv 0) pe_int)) (pss_cons (ps_set (i := 10) sc_law_drawn_.nd rfl (Or.inl rfl) (pe_op op_fdivW (pv 0) pe_int)) (pss_cons (ps_for PassesOwn.never rfl (pi_range1 (by rfl) T.n_range (pa_cons pe_int pa_nil)) (pg_name (i := 11) sc_law_drawn_.nd rfl (Or.inl rfl)) (pss_cons (ps_asg (pe_op op_mulZ (pe_ix ix_list (pv 8) (pv 11) (fun _ _ => rfl)) (pe_op op_sub pe_int (pe_op op_mulZ pe_int (pe_op op_mod (pv 10) pe_int)))) (pg_sub (pv 8) (pv 11) set_list)) (pss_one (ps_set (i := 10) sc_law_drawn_.nd rfl (Or.inl rfl) (pe_op op_fdivW (pv 10) pe_int))))) (pss_one (ps_ret (pe_tup (pa_cons (pe_op op_cat (pe_slice sl_list (pv 7) (po_some (pv 9)) po_none) (pe_slice sl_list (pv 7) po_none (po_some (pv 9)))) (pa_cons (pe_op op_cat (pe_slice sl_list (pv 8) (po_some (pv 9)) po_none) (pe_slice sl_list (pv 8) po_none (po_some (pv 9)))) pa_nil)))))))))))))))), ?_⟩
  try dsimp only
  refine st_seq ?_
  refine st_set (K := K) e.s (se_mul (se_addp (se_int (n := 1)) (se_modcp (se_divcp (se_iv (i := 0) (d := law_cell_) rfl) (by decide)) (by decide))) (se_sub (se_int (n := 1)) (se_mulp (se_int (n := 2)) (se_modcp (se_divcp (se_iv (i := 0) (d := law_cell_) rfl) (by decide)) (by decide))))) hm (fun law_a_ w_law_a_ G1 H1 ce r_law_a_ hm => ?_)
  replace e := e.trans ce
  have r_law_a_ : w_law_a_ = V.int law_a_ := r_law_a_; subst r_law_a_
  try dsimp only
  refine st_seq ?_
  refine st_set (K := K) e.s (se_mul (se_addp (se_int (n := 1)) (se_modcp (se_iv (i := 1) (d := law_other_) rfl) (by decide))) (se_sub (se_int (n := 1)) (se_mulp (se_int (n := 2)) (se_modcp (se_divcp (se_iv (i := 1) (d := law_other_) rfl) (by decide)) (by decide))))) hm (fun law_b_ w_law_b_ G1 H1 ce r_law_b_ hm => ?_)
  replace e := e.trans ce
  have r_law_b_ : w_law_b_ = V.int law_b_ := r_law_b_; subst r_law_b_
  try dsimp only
  refine st_seq ?_
  refine st_set (K := K) e.s (se_modcp (se_divcp (se_iv (i := 1) (d := law_other_) rfl) (by decide)) (by decide)) hm (fun law_x_ w_law_x_ G1 H1 ce r_law_x_ hm => ?_)
  replace e := e.trans ce
  have r_law_x_ : w_law_x_ = V.int law_x_ := r_law_x_; subst r_law_x_
  try dsimp only
  refine st_seq ?_
  refine st_set (K := K) e.s (se_addp (se_int (n := 1)) (se_modcp (se_divcp (se_iv (i := 1) (d := law_other_) rfl) (by decide)) (by decide))) hm (fun law_y_ w_law_y_ G1 H1 ce r_law_y_ hm => ?_)
  replace e := e.trans ce
  have r_law_y_ : w_law_y_ = V.int law_y_ := r_law_y_; subst r_law_y_
  try dsimp only
  refine st_seq ?_
  refine st_set (K := K) e.s (se_add (se_mul (se_mulp (se_iv (i := 2) (d := law_a_) rfl) (se_iv (i := 4) (d := law_x_) rfl)) (se_iv (i := 4) (d := law_x_) rfl)) (se_mul (se_mulp (se_iv (i := 3) (d := law_b_) rfl) (se_iv (i := 5) (d := law_y_) rfl)) (se_iv (i := 5) (d := law_y_) rfl))) hm (fun law_made_ w_law_made_ G1 H1 ce r_law_made_ hm => ?_)
  replace e := e.trans ce
  have r_law_made_ : w_law_made_ = V.int law_made_ := r_law_made_; subst r_law_made_
  try dsimp only
  refine st_seq ?_
  refine st_set (K := K) e.s (FE.se (fe_lst (la_consp (se_iv (i := 2) (d := law_a_) rfl) (la_consp (se_iv (i := 3) (d := law_b_) rfl) (la_consp (se_subp (se_int (n := 0)) (se_iv (i := 6) (d := law_made_) rfl)) la_nil))))) hm (fun law_row_ w_law_row_ G1 H1 ce r_law_row_ hm => ?_)
  replace e := e.trans ce
  try dsimp only
  refine st_seq ?_
  refine st_setF (K := K) e.s (fe_lst (la_consp (se_iv (i := 4) (d := law_x_) rfl) (la_consp (se_iv (i := 5) (d := law_y_) rfl) (la_consp (se_int (n := 1)) la_nil)))) hm (fun law_zero_ p_law_zero_ G1 H1 ce r_law_zero_ hm => ?_)
  replace r_law_zero_ := r_law_zero_.up e.h
  replace e := e.trans ce
  replace r_law_row_ := Rp.mono ce.g r_law_row_
  try dsimp only
  refine st_seq ?_
  obtain ⟨s1, hA, hm⟩ := bind_some hm
  refine st_join (fun σ H => ∃ G, ∃ (w_law_row_ : V) (p_law_zero_ : Addr) (j9 : Option V) (j10 : Option V) (j11 : Option V), σ = [some (V.int law_cell_), some (V.int law_other_), some (V.int law_a_), some (V.int law_b_), some (V.int law_x_), some (V.int law_y_), some (V.int law_made_), some w_law_row_, some (V.ref p_law_zero_), j9, j10, j11] ∧ Ext Ge He G H ∧ rep K G w_law_row_ s1.1 ∧ Own K He G H p_law_zero_ s1.2) (fun σ H h => ?_) (fun N hN => ?_)
  · obtain ⟨G, w_law_row_, p_law_zero_, j9, j10, j11, es, e, r_law_row_, r_law_zero_⟩ := h
    subst es
    try dsimp only
    refine st_seq ?_
    refine st_set (K := K) e.s (se_modcp (se_iv (i := 0) (d := law_cell_) rfl) (by decide)) hm (fun law_turn_ w_law_turn_ G1 H1 ce r_law_turn_ hm => ?_)
    replace e := e.trans ce
    replace r_law_row_ := Rp.mono ce.g r_law_row_
    replace r_law_zero_ := r_law_zero_.mono ce
    have r_law_turn_ : w_law_turn_ = V.int law_turn_ := r_law_turn_; subst r_law_turn_
    try dsimp only
    refine st_seq ?_
    refine st_set (K := K) e.s (se_divcp (se_iv (i := 0) (d := law_cell_) rfl) (by decide)) hm (fun law_bits_ w_law_bits_ G1 H1 ce r_law_bits_ hm => ?_)
    replace e := e.trans ce
    replace r_law_row_ := Rp.mono ce.g r_law_row_
    replace r_law_zero_ := r_law_zero_.mono ce
    have r_law_bits_ : w_law_bits_ = V.int law_bits_ := r_law_bits_; subst r_law_bits_
    try dsimp only
    refine st_seq ?_
    refine st_for (K := K) e.s (ie_range1p (se_int (n := 3))) hm (fun xs J Gs2 Hs2 ce it hm => ?_)
    replace e := e.trans ce
    replace r_law_row_ := Rp.mono ce.g r_law_row_
    replace r_law_zero_ := r_law_zero_.mono ce
    have sg2 : Same Gs2 Gs2 := Same.refl _
    obtain ⟨z2, hw, hm⟩ := bind_some hm
    refine lg_N (K := K) (fun (s2 : (List Int) × Int) σ G H => ∃ (w_law_row_ : V) (p_law_zero_ : Addr) (j11 : Option V), σ = [some (V.int law_cell_), some (V.int law_other_), some (V.int law_a_), some (V.int law_b_), some (V.int law_x_), some (V.int law_y_), some (V.int law_made_), some w_law_row_, some (V.ref p_law_zero_), some (V.int law_turn_), some (V.int s2.2), j11] ∧ Ext Ge He G H ∧ Same Gs2 G ∧ rep K G w_law_row_ s1.1 ∧ Own K He G H p_law_zero_ s2.1) it hw ⟨_, _, _, rfl, e, sg2, r_law_row_, r_law_zero_⟩ (fun s2 σ G H h => ?_) (fun s2 i2 f w2 σ G H G1 H1 N hx h ce hv hm hN => ?_) (fun σ G H h => ?_)
    · obtain ⟨w_law_row_, p_law_zero_, j11, es, e, sg2, r_law_row_, r_law_zero_⟩ := h
      subst es
      exact ⟨sg2, e.s⟩
    · clear hw it
      obtain ⟨w_law_row_, p_law_zero_, j11, es, e, sg2, r_law_row_, r_law_zero_⟩ := h
      subst es
      replace e := e.trans ce
      replace sg2 := sg2.trans ce.g
      replace r_law_row_ := Rp.mono ce.g r_law_row_
      replace r_law_zero_ := r_law_zero_.mono ce
      refine g_name ?_
      have hv2 : w2 = V.int i2 := hv
      subst hv2
      clear hv
      try dsimp only
      refine st_seq ?_
      refine st_put (K := K) e.s rfl r_law_zero_ (se_mul (se_own_ixp (i := 8) rfl r_law_zero_ (se_iv (i := 11) (d := i2) rfl)) (se_sub (se_int (n := 1)) (se_mulp (se_int (n := 2)) (se_modcp (se_iv (i := 10) (d := s2.2) rfl) (by decide))))) (se_iv (i := 11) (d := i2) rfl) hm (fun law_zero_ h_law_zero_ G1 H1 ce ro g0 hm => ?_)
      replace e := e.trans ce
      replace sg2 := sg2.trans ce.g
      replace r_law_row_ := Rp.mono ce.g r_law_row_
      replace e := e.put (o := h_law_zero_) ro.z g0
      clear r_law_zero_ g0
      have r_law_zero_ := ro
      clear ro
      try dsimp only
      refine st_set (K := K) e.s (se_divcp (se_iv (i := 10) (d := s2.2) rfl) (by decide)) hm (fun law_bits_ w_law_bits_ G1 H1 ce r_law_bits_ hm => ?_)
      replace e := e.trans ce
      replace sg2 := sg2.trans ce.g
      replace r_law_row_ := Rp.mono ce.g r_law_row_
      replace r_law_zero_ := r_law_zero_.mono ce
      have r_law_bits_ : w_law_bits_ = V.int law_bits_ := r_law_bits_; subst r_law_bits_
      cases hm
      exact hN _ _ _ ⟨_, _, _, rfl, e, sg2, r_law_row_, r_law_zero_⟩
    · clear hw it
      obtain ⟨w_law_row_, p_law_zero_, j11, es, e, sg2, r_law_row_, r_law_zero_⟩ := h
      subst es
      clear sg2
      try dsimp only
      obtain ⟨vs_law_zero_, e, sg_law_zero_, q_law_zero_⟩ := r_law_zero_.show e
      replace r_law_row_ := Rp.mono sg_law_zero_ r_law_row_
      clear r_law_zero_
      have r_law_zero_ := q_law_zero_
      clear q_law_zero_
      exact st_ret (RR := RV K) e rvm (SE.xe (se_tup2 (FE.se (fe_catp (FE.se (fe_slicep (se_var (i := 7) (d := s1.1) rfl r_law_row_) (so_somep (K := K) (se_iv (i := 9) (d := law_turn_) rfl)) so_none)) (FE.se (fe_slicep (se_var (i := 7) (d := s1.1) rfl r_law_row_) so_none (so_somep (K := K) (se_iv (i := 9) (d := law_turn_) rfl)))))) (FE.se (fe_catp (FE.se (fe_slicep (se_var (i := 8) (d := z2.1) rfl r_law_zero_) (so_somep (K := K) (se_iv (i := 9) (d := law_turn_) rfl)) so_none)) (FE.se (fe_slicep (se_var (i := 8) (d := z2.1) rfl r_law_zero_) so_none (so_somep (K := K) (se_iv (i := 9) (d := law_turn_) rfl)))))))) hm q
  · clear hm
    refine st_if e.s (st_orp (st_test (K := K) (se_eqp (se_iv (i := 6) (d := law_made_) rfl) (se_int (n := 0)))) (st_test (K := K) (se_eqp (se_modcp (se_divcp (se_iv (i := 0) (d := law_cell_) rfl) (by decide)) (by decide)) (se_int (n := 0))))) hA (fun G1 H1 ce hm => ?_) (fun G1 H1 ce hm => ?_)
    · replace e := e.trans ce
      replace r_law_row_ := Rp.mono ce.g r_law_row_
      replace r_law_zero_ := r_law_zero_.mono ce
      try dsimp only
      refine st_seq ?_
      refine st_set (K := K) e.s (FE.se (fe_lst (la_consp (se_iv (i := 2) (d := law_a_) rfl) (la_consp (se_subp (se_int (n := 0)) (se_iv (i := 2) (d := law_a_) rfl)) (la_consp (se_iv (i := 3) (d := law_b_) rfl) la_nil))))) hm (fun law_row_ w_law_row_ G1 H1 ce r_law_row_ hm => ?_)
      replace e := e.trans ce
      replace r_law_zero_ := r_law_zero_.mono ce
      try dsimp only
      refine st_setF (K := K) e.s (fe_lst (la_consp (se_int (n := 1)) (la_consp (se_int (n := 1)) (la_consp (se_int (n := 0)) la_nil)))) hm (fun law_zero_ p_law_zero_ G1 H1 ce r_law_zero_ hm => ?_)
      replace r_law_zero_ := r_law_zero_.up e.h
      replace e := e.trans ce
      replace r_law_row_ := Rp.mono ce.g r_law_row_
      cases hm
      exact hN _ _ ⟨_, _, _, _, _, _, rfl, e, r_law_row_, r_law_zero_⟩
    · replace e := e.trans ce
      replace r_law_row_ := Rp.mono ce.g r_law_row_
      replace r_law_zero_ := r_law_zero_.mono ce
      refine st_next ?_
      cases hm
      exact hN _ _ ⟨_, _, _, _, _, _, rfl, e, r_law_row_, r_law_zero_⟩
theorem ok_law_common_ (T : Txt K mg) : FnOk P w K mg base CX0 1 T.a_law_common_ T.d_law_common_ ["_law_a", "_law_b"] (Sp2 K (RV K) Mir.law_common_) := by
  refine T.F_law_common_.ok sc_law_common_ (Sp2.len rfl) (fun cdv A outer s He vs Q E hr h => ?_)
  obtain ⟨Ge, w_law_a_, w_law_b_, law_a_, law_b_, r, rfl, hs, r_law_a_, r_law_b_, hm, q⟩ := h
  have e : Ext Ge He Ge He := Ext.refl hs
  have r2_law_a_ : w_law_a_ = V.int law_a_ := r_law_a_
  subst r2_law_a_
  clear r_law_a_
  have r2_law_b_ : w_law_b_ = V.int law_b_ := r_law_b_
  subst r2_law_b_
  clear r_law_b_
  unfold Mir.law_common_ at hm
  refine ⟨_, (pss_cons (ps_while PassesOwn.never (pt_cmpR op_ne (pv 1) pe_int (nomark _)) (pss_cons (ps_set (i := 2) sc_law_common_.nd rfl (Or.inl rfl) (pe_op op_modN (pv 0) (pv 1))) (pss_cons (ps_set (i := 0) sc_law_common_.nd rfl (Or.inl rfl) (pv 1)) (pss_one (ps_set (i := 1) sc_law_common_.nd rfl (Or.inl rfl) (pv 2)))))) (pss_one (ps_ret (pe_callB call_abs (by rfl) T.n_abs (by decide +kernel) (pa_cons (pv 0) pa_nil))))), ?_⟩
  try dsimp only
  refine st_seq ?_
  obtain ⟨z1, hw, hm⟩ := bind_some hm
  refine st_whileN (fun (s1 : Int × Int) σ G H => ∃ (j2 : Option V), σ = [some (V.int s1.1), some (V.int s1.2), j2] ∧ Ext Ge He G H) hw ⟨_, rfl, e⟩ (fun s1 σ G H h => ?_) (fun s1 σ G H h => ?_) (fun s1 f σ G H G1 H1 N h ce hc hm hN => ?_) (fun σ G H G1 H1 h ce => ?_)
  · obtain ⟨j2, es, e⟩ := h
    subst es
    exact e.s
  · obtain ⟨j2, es, e⟩ := h
    subst es
    exact (st_test (K := K) (se_nep (se_iv (i := 1) (d := s1.2) rfl) (se_int (n := 0))))
  · clear hw
    obtain ⟨j2, es, e⟩ := h
    subst es
    replace e := e.trans ce
    try dsimp only
    refine st_seq ?_
    refine st_set (K := K) e.s (se_modp (se_iv (i := 0) (d := s1.1) rfl) (se_iv (i := 1) (d := s1.2) rfl)) hm (fun law_rest_ w_law_rest_ G1 H1 ce r_law_rest_ hm => ?_)
    replace e := e.trans ce
    have r_law_rest_ : w_law_rest_ = V.int law_rest_ := r_law_rest_; subst r_law_rest_
    try dsimp only
    refine st_seq ?_
    refine st_set (K := K) e.s (se_iv (i := 1) (d := s1.2) rfl) hm (fun law_a_ w_law_a_ G1 H1 ce r_law_a_ hm => ?_)
    replace e := e.trans ce
    have r_law_a_ : w_law_a_ = V.int law_a_ := r_law_a_; subst r_law_a_
    try dsimp only
    refine st_set (K := K) e.s (se_iv (i := 2) (d := law_rest_) rfl) hm (fun law_b_ w_law_b_ G1 H1 ce r_law_b_ hm => ?_)
    replace e := e.trans ce
    have r_law_b_ : w_law_b_ = V.int law_b_ := r_law_b_; subst r_law_b_
    cases hm
    exact hN _ _ _ ⟨_, rfl, e⟩
  · obtain ⟨j2, es, e⟩ := h
    subst es
    replace e := e.trans ce
    try dsimp only
    exact st_ret (RR := RV K) e rvm (SE.xe (se_absp (se_iv (i := 0) (d := z1.1) rfl))) hm q
theorem ok_law_line_ (T : Txt K mg) : FnOk P w K mg base CX0 2 T.a_law_line_ T.d_law_line_ ["_law_s", "_law_t"] (Sp2 K (RV K) Mir.law_line_) := by
  refine T.F_law_line_.ok sc_law_line_ (Sp2.len rfl) (fun cdv A outer s He vs Q E hr h => ?_)
  obtain ⟨Ge, w_law_s_, w_law_t_, law_s_, law_t_, r, rfl, hs, r_law_s_, r_law_t_, hm, q⟩ := h
  have e : Ext Ge He Ge He := Ext.refl hs
  have r2_law_s_ : w_law_s_ = V.int law_s_ := r_law_s_
  subst r2_law_s_
  clear r_law_s_
  have r2_law_t_ : w_law_t_ = V.int law_t_ := r_law_t_
  subst r2_law_t_
  clear r_law_t_
  unfold Mir.law_line_ at hm
  refine ⟨_, (pss_cons (ps_set (i := 2) sc_law_line_.nd rfl (Or.inl rfl) (pe_call (ok_law_common_ T) (hr.mono (by decide)) (by rfl) T.g_law_common_ T.F_law_common_.kp (bind_law_common_ T) .nil pass0 (pa_cons (pv 0) (pa_cons (pv 1) pa_nil)))) (pss_cons (ps_if (pt_cmpR op_eq (pv 2) pe_int (nomark _)) (pss_one (ps_ret (pe_tup (pa_cons pe_int (pa_cons pe_int pa_nil))))) pss_nil) (pss_cons (ps_if (PW.pt (pw_or (pt_cmpR op_lt (pv 0) pe_int (nomark _)) (pw_or1 (PW.pt (pw_and (pt_cmpR op_eq (pv 0) pe_int (nomark _)) (pw_and1 (pt_cmpR op_lt (pv 1) pe_int (nomark _)))))))) (pss_one (ps_set (i := 2) sc_law_line_.nd rfl (Or.inl rfl) (pe_op op_sub pe_int (pv 2)))) pss_nil) (pss_one (ps_ret (pe_tup (pa_cons (pe_op op_divZ (pv 0) (pv 2)) (pa_cons (pe_op op_divZ (pv 1) (pv 2)) pa_nil)))))))), ?_⟩
  try dsimp only
  refine st_seq ?_
  refine st_set (K := K) e.s (XE.se (xe_call2p rvm (se_iv (i := 0) (d := law_s_) rfl) (se_iv (i := 1) (d := law_t_) rfl))) hm (fun law_part_ w_law_part_ G1 H1 ce r_law_part_ hm => ?_)
  replace e := e.trans ce
  have r_law_part_ : w_law_part_ = V.int law_part_ := r_law_part_; subst r_law_part_
  try dsimp only
  refine st_seq ?_
  refine st_if e.s (st_test (K := K) (se_eqp (se_iv (i := 2) (d := law_part_) rfl) (se_int (n := 0)))) hm (fun G1 H1 ce hm => ?_) (fun G1 H1 ce hm => ?_)
  · replace e := e.trans ce
    try dsimp only
    exact st_ret (RR := RV K) e rvm (SE.xe (se_tup2p (se_int (n := 1)) (se_int (n := 0)))) hm q
  · replace e := e.trans ce
    refine st_next ?_
    try dsimp only
    refine st_seq ?_
    obtain ⟨s1, hA, hm⟩ := bind_some hm
    refine st_join (fun σ H => ∃ G, σ = [some (V.int law_s_), some (V.int law_t_), some (V.int s1)] ∧ Ext Ge He G H) (fun σ H h => ?_) (fun N hN => ?_)
    · obtain ⟨G, es, e⟩ := h
      subst es
      try dsimp only
      exact st_ret (RR := RV K) e rvm (SE.xe (se_tup2 (se_divp (se_iv (i := 0) (d := law_s_) rfl) (se_iv (i := 2) (d := s1) rfl)) (se_divp (se_iv (i := 1) (d := law_t_) rfl) (se_iv (i := 2) (d := s1) rfl)))) hm q
    · clear hm
      refine st_if e.s (st_orp (st_test (K := K) (se_ltp (se_iv (i := 0) (d := law_s_) rfl) (se_int (n := 0)))) (st_andp (st_test (K := K) (se_eqp (se_iv (i := 0) (d := law_s_) rfl) (se_int (n := 0)))) (st_test (K := K) (se_ltp (se_iv (i := 1) (d := law_t_) rfl) (se_int (n := 0)))))) hA (fun G1 H1 ce hm => ?_) (fun G1 H1 ce hm => ?_)
      · replace e := e.trans ce
        try dsimp only
        refine st_set (K := K) e.s (se_subp (se_int (n := 0)) (se_iv (i := 2) (d := law_part_) rfl)) hm (fun law_part_ w_law_part_ G1 H1 ce r_law_part_ hm => ?_)
        replace e := e.trans ce
        have r_law_part_ : w_law_part_ = V.int law_part_ := r_law_part_; subst r_law_part_
        cases hm
        exact hN _ _ ⟨_, rfl, e⟩
      · replace e := e.trans ce
        refine st_next ?_
        cases hm
        exact hN _ _ ⟨_, rfl, e⟩
theorem ok_law_lines_ (T : Txt K mg) : FnOk P w K mg base CX0 3 T.a_law_lines_ T.d_law_lines_ ["_law_cell", "_law_other"] (Sp2 K (RF K) Mir.law_lines_) := by
  refine T.F_law_lines_.ok sc_law_lines_ (Sp2.len rfl) (fun cdv A outer s He vs Q E hr h => ?_)
  obtain ⟨Ge, w_law_cell_, w_law_other_, law_cell_, law_other_, r, rfl, hs, r_law_cell_, r_law_other_, hm, q⟩ := h
  have e : Ext Ge He Ge He := Ext.refl hs
  have r2_law_cell_ : w_law_cell_ = V.int law_cell_ := r_law_cell_
  subst r2_law_cell_
  clear r_law_cell_
  have r2_law_other_ : w_law_other_ = V.int law_other_ := r_law_other_
  subst r2_law_other_
  clear r_law_other_
  unfold Mir.law_lines_ at hm
  refine ⟨_, (pss_cons (ps_set (i := 2) sc_law_lines_.nd rfl (Or.inl rfl) (pe_lst (pa_cons (pe_tup (pa_cons pe_int (pa_cons pe_int pa_nil))) (pa_cons (pe_tup (pa_cons pe_int (pa_cons pe_int pa_nil))) pa_nil)))) (pss_cons (ps_for PassesOwn.never rfl (pi_range1 (by rfl) T.n_range (pa_cons pe_int pa_nil)) (pg_name (i := 3) sc_law_lines_.nd rfl (Or.inl rfl)) (pss_cons (ps_set (i := 4) sc_law_lines_.nd rfl (Or.inl rfl) pe_int) (pss_cons (ps_if (pt_cmpR op_eq (pe_op op_mod (pe_op op_fdivW (pv 0) pe_int) pe_int) pe_int (nomark _)) (pss_one (ps_set (i := 4) sc_law_lines_.nd rfl (Or.inl rfl) (pe_op op_pow pe_int pe_int))) pss_nil) (pss_cons (ps_set (i := 5) sc_law_lines_.nd rfl (Or.inl rfl) (pe_op op_add (pe_op op_sub (pe_op op_modN (pv 0) (pe_op op_sub (pe_op op_mulZ pe_int (pv 4)) pe_int)) (pv 4)) pe_int)) (pss_cons (ps_set (i := 6) sc_law_lines_.nd rfl (Or.inl rfl) (pe_op op_add (pe_op op_sub (pe_op op_modN (pv 1) (pe_op op_sub (pe_op op_mulZ pe_int (pv 4)) pe_int)) (pv 4)) pe_int)) (pss_cons (ps_expr (pe_bm PySem.F.plainAttrs_list PySem.F.slot_list_append PySem.F.type_list_append mt_append (pv 2) (pa_cons (pe_call (ok_law_line_ T) (hr.mono (by decide)) (by rfl) T.g_law_line_ T.F_law_line_.kp (bind_law_line_ T) .nil pass0 (pa_cons (pv 5) (pa_cons (pv 6) pa_nil))) pa_nil))) (pss_cons (ps_set (i := 0) sc_law_lines_.nd rfl (Or.inl rfl) (pe_op op_divZ (pv 0) (pe_op op_mulZ pe_int (pv 4)))) (pss_one (ps_set (i := 1) sc_law_lines_.nd rfl (Or.inl rfl) (pe_op op_divZ (pv 1) (pe_op op_mulZ pe_int (pv 4)))))))))))) (pss_one (ps_ret (pv 2))))), ?_⟩
  try dsimp only
  refine st_seq ?_
  refine st_setF (K := K) e.s (fe_lst (la_consp (se_tup2p (se_int (n := 1)) (se_int (n := 0))) (la_consp (se_tup2p (se_int (n := 0)) (se_int (n := 1))) la_nil))) hm (fun law_lines_here_ p_law_lines_here_ G1 H1 ce r_law_lines_here_ hm => ?_)
  replace r_law_lines_here_ := r_law_lines_here_.up e.h
  replace e := e.trans ce
  try dsimp only
  refine st_seq ?_
  refine st_for (K := K) e.s (ie_range1p (se_int (n := 4))) hm (fun xs J Gs1 Hs1 ce it hm => ?_)
  replace e := e.trans ce
  replace r_law_lines_here_ := r_law_lines_here_.mono ce
  have sg1 : Same Gs1 Gs1 := Same.refl _
  obtain ⟨z1, hw, hm⟩ := bind_some hm
  refine lg_N (K := K) (fun (s1 : Int × Int × (List (Int × Int))) σ G H => ∃ (p_law_lines_here_ : Addr) (j3 : Option V) (j4 : Option V) (j5 : Option V) (j6 : Option V), σ = [some (V.int s1.1), some (V.int s1.2.1), some (V.ref p_law_lines_here_), j3, j4, j5, j6] ∧ Ext Ge He G H ∧ Same Gs1 G ∧ Own K He G H p_law_lines_here_ s1.2.2) it hw ⟨_, _, _, _, _, rfl, e, sg1, r_law_lines_here_⟩ (fun s1 σ G H h => ?_) (fun s1 i1 f w1 σ G H G1 H1 N hx h ce hv hm hN => ?_) (fun σ G H h => ?_)
  · obtain ⟨p_law_lines_here_, j3, j4, j5, j6, es, e, sg1, r_law_lines_here_⟩ := h
    subst es
    exact ⟨sg1, e.s⟩
  · clear hw it
    obtain ⟨p_law_lines_here_, j3, j4, j5, j6, es, e, sg1, r_law_lines_here_⟩ := h
    subst es
    replace e := e.trans ce
    replace sg1 := sg1.trans ce.g
    replace r_law_lines_here_ := r_law_lines_here_.mono ce
    refine g_name ?_
    have hv2 : w1 = V.int i1 := hv
    subst hv2
    clear hv
    try dsimp only
    refine st_seq ?_
    refine st_set (K := K) e.s (se_int (n := 1000)) hm (fun law_bound_ w_law_bound_ G1 H1 ce r_law_bound_ hm => ?_)
    replace e := e.trans ce
    replace sg1 := sg1.trans ce.g
    replace r_law_lines_here_ := r_law_lines_here_.mono ce
    have r_law_bound_ : w_law_bound_ = V.int law_bound_ := r_law_bound_; subst r_law_bound_
    try dsimp only
    refine st_seq ?_
    obtain ⟨s2, hA, hm⟩ := bind_some hm
    refine st_join (fun σ H => ∃ G, ∃ (p_law_lines_here_ : Addr) (j5 : Option V) (j6 : Option V), σ = [some (V.int s1.1), some (V.int s1.2.1), some (V.ref p_law_lines_here_), some (V.int i1), some (V.int s2), j5, j6] ∧ Ext Ge He G H ∧ Same Gs1 G ∧ Own K He G H p_law_lines_here_ s1.2.2) (fun σ H h => ?_) (fun N hN => ?_)
    · obtain ⟨G, p_law_lines_here_, j5, j6, es, e, sg1, r_law_lines_here_⟩ := h
      subst es
      try dsimp only
      refine st_seq ?_
      refine st_set (K := K) e.s (se_add (se_sub (se_mod (se_iv (i := 0) (d := s1.1) rfl) (se_sub (se_mulp (se_int (n := 2)) (se_iv (i := 4) (d := s2) rfl)) (se_int (n := 1)))) (se_iv (i := 4) (d := s2) rfl)) (se_int (n := 1))) hm (fun law_s_ w_law_s_ G1 H1 ce r_law_s_ hm => ?_)
      replace e := e.trans ce
      replace sg1 := sg1.trans ce.g
      replace r_law_lines_here_ := r_law_lines_here_.mono ce
      have r_law_s_ : w_law_s_ = V.int law_s_ := r_law_s_; subst r_law_s_
      try dsimp only
      refine st_seq ?_
      refine st_set (K := K) e.s (se_add (se_sub (se_mod (se_iv (i := 1) (d := s1.2.1) rfl) (se_sub (se_mulp (se_int (n := 2)) (se_iv (i := 4) (d := s2) rfl)) (se_int (n := 1)))) (se_iv (i := 4) (d := s2) rfl)) (se_int (n := 1))) hm (fun law_t_ w_law_t_ G1 H1 ce r_law_t_ hm => ?_)
      replace e := e.trans ce
      replace sg1 := sg1.trans ce.g
      replace r_law_lines_here_ := r_law_lines_here_.mono ce
      have r_law_t_ : w_law_t_ = V.int law_t_ := r_law_t_; subst r_law_t_
      try dsimp only
      refine st_seq ?_
      refine st_app (K := K) e.s rfl r_law_lines_here_ (XE.se (xe_call2p rvm (se_iv (i := 5) (d := law_s_) rfl) (se_iv (i := 6) (d := law_t_) rfl))) hm (fun law_lines_here_ h_law_lines_here_ G1 H1 ce ro g0 hm => ?_)
      replace e := e.trans ce
      replace sg1 := sg1.trans ce.g
      replace e := e.put (o := h_law_lines_here_) ro.z g0
      clear r_law_lines_here_ g0
      have r_law_lines_here_ := ro
      clear ro
      try dsimp only
      refine st_seq ?_
      refine st_set (K := K) e.s (se_div (se_iv (i := 0) (d := s1.1) rfl) (se_mulp (se_int (n := 3)) (se_iv (i := 4) (d := s2) rfl))) hm (fun law_cell_ w_law_cell_ G1 H1 ce r_law_cell_ hm => ?_)
      replace e := e.trans ce
      replace sg1 := sg1.trans ce.g
      replace r_law_lines_here_ := r_law_lines_here_.mono ce
      have r_law_cell_ : w_law_cell_ = V.int law_cell_ := r_law_cell_; subst r_law_cell_
      try dsimp only
      refine st_set (K := K) e.s (se_div (se_iv (i := 1) (d := s1.2.1) rfl) (se_mulp (se_int (n := 3)) (se_iv (i := 4) (d := s2) rfl))) hm (fun law_other_ w_law_other_ G1 H1 ce r_law_other_ hm => ?_)
      replace e := e.trans ce
      replace sg1 := sg1.trans ce.g
      replace r_law_lines_here_ := r_law_lines_here_.mono ce
      have r_law_other_ : w_law_other_ = V.int law_other_ := r_law_other_; subst r_law_other_
      cases hm
      exact hN _ _ _ ⟨_, _, _, _, _, rfl, e, sg1, r_law_lines_here_⟩
    · clear hm
      refine st_if e.s (st_test (K := K) (se_eqp (se_modcp (se_divcp (se_iv (i := 0) (d := s1.1) rfl) (by decide)) (by decide)) (se_int (n := 0)))) hA (fun G1 H1 ce hm => ?_) (fun G1 H1 ce hm => ?_)
      · replace e := e.trans ce
        replace sg1 := sg1.trans ce.g
        replace r_law_lines_here_ := r_law_lines_here_.mono ce
        try dsimp only
        refine st_set (K := K) e.s (se_kpow (n := 1000000000000) (se_int (n := 10)) (se_int (n := 12)) (by decide +kernel)) hm (fun law_bound_ w_law_bound_ G1 H1 ce r_law_bound_ hm => ?_)
        replace e := e.trans ce
        replace sg1 := sg1.trans ce.g
        replace r_law_lines_here_ := r_law_lines_here_.mono ce
        have r_law_bound_ : w_law_bound_ = V.int law_bound_ := r_law_bound_; subst r_law_bound_
        cases hm
        exact hN _ _ ⟨_, _, _, _, rfl, e, sg1, r_law_lines_here_⟩
      · replace e := e.trans ce
        replace sg1 := sg1.trans ce.g
        replace r_law_lines_here_ := r_law_lines_here_.mono ce
        refine st_next ?_
        cases hm
        exact hN _ _ ⟨_, _, _, _, rfl, e, sg1, r_law_lines_here_⟩
  · clear hw it
    obtain ⟨p_law_lines_here_, j3, j4, j5, j6, es, e, sg1, r_law_lines_here_⟩ := h
    subst es
    clear sg1
    try dsimp only
    exact st_retO (K := K) rfl e r_law_lines_here_ hm q
theorem ok_is_row_ (T : Txt K mg) : FnOk P w K mg base CX0 1 T.a_is_row_ T.d_is_row_ ["row"] (Sp1 K (RV K) Mir.is_row_) := by
  refine T.F_is_row_.ok sc_is_row_ (Sp1.len rfl) (fun cdv A outer s He vs Q E hr h => ?_)
  obtain ⟨Ge, w_row_, row_, r, rfl, hs, r_row_, hm, q⟩ := h
  have e : Ext Ge He Ge He := Ext.refl hs
  unfold Mir.is_row_ at hm
  refine ⟨_, (pss_cons (ps_if (PW.pt (pw_or (pt_cmpR op_lt (pe_callB call_len_seq (by rfl) T.n_len (by decide +kernel) (pa_cons (pv 0) pa_nil)) pe_int (nomark _)) (pw_or1 (pt_cmpR op_gt (pe_callB call_len_seq (by rfl) T.n_len (by decide +kernel) (pa_cons (pv 0) pa_nil)) (pe_glob (v := V.int (8)) rfl T.c_LONGEST_ ⟨_, rfl⟩) (nomark _))))) (pss_one (ps_ret pe_bl)) pss_nil) (pss_cons (ps_for PassesOwn.never rfl (pi_list (pv 0)) (pg_name (i := 1) sc_is_row_.nd rfl (Or.inl rfl)) (pss_one (ps_if (PW.pt (pw_or (pt_not (pt_val (pe_callB call_isi (by rfl) T.n_isinstance (by decide +kernel) (pa_cons (pv 1) (pa_cons (pe_bltn (v := .ty "int") (by rfl) T.n_int (by decide +kernel) rfl) pa_nil))))) (pw_or (pt_val (pe_callB call_isi (by rfl) T.n_isinstance (by decide +kernel) (pa_cons (pv 1) (pa_cons (pe_bltn (v := .ty "bool") (by rfl) T.n_bool (by decide +kernel) rfl) pa_nil)))) (pw_or (pt_cmpR op_eq (pv 1) pe_int (nomark _)) (pw_or1 (pt_cmpR op_ge (pe_callB call_abs (by rfl) T.n_abs (by decide +kernel) (pa_cons (pv 1) pa_nil)) (pe_glob (v := V.int (1073741824)) rfl T.c_MOST_ ⟨_, rfl⟩) (nomark _))))))) (pss_one (ps_ret pe_bl)) pss_nil))) (pss_one (ps_ret pe_bl)))), ?_⟩
  try dsimp only
  refine st_seq ?_
  refine st_if e.s (st_orp (st_test (K := K) (se_ltp (se_lenp (se_var (i := 0) (d := row_) rfl r_row_)) (se_int (n := 1)))) (st_test (K := K) (se_gtp (se_lenp (se_var (i := 0) (d := row_) rfl r_row_)) (se_int (n := 8))))) hm (fun G1 H1 ce hm => ?_) (fun G1 H1 ce hm => ?_)
  · replace e := e.trans ce
    replace r_row_ := Rp.mono ce.g r_row_
    try dsimp only
    exact st_ret (RR := RV K) e rvm (SE.xe se_bl) hm q
  · replace e := e.trans ce
    replace r_row_ := Rp.mono ce.g r_row_
    refine st_next ?_
    try dsimp only
    refine st_seq ?_
    refine st_for (K := K) e.s (IB.ie (ib_list (se_var (i := 0) (d := row_) rfl r_row_))) hm (fun xs J Gs1 Hs1 ce it hm => ?_)
    replace e := e.trans ce
    replace r_row_ := Rp.mono ce.g r_row_
    have sg1 : Same Gs1 Gs1 := Same.refl _
    obtain ⟨o1, hw, hm⟩ := bind_some hm
    have hq1 : ∀ x, o1 = .inr x → ∀ u G' H', Ext Ge He G' H' → RV K He G' H' u x → Q u H' := fun x ex => by
      subst ex
      replace hm := elim_inr hm
      cases hm
      exact q
    refine lg_R (K := K) (fun (s1 : Unit) σ G H => ∃ (w_row_ : V) (j1 : Option V), σ = [some w_row_, j1] ∧ Ext Ge He G H ∧ Same Gs1 G ∧ rep K G w_row_ row_) it hw ⟨_, _, rfl, e, sg1, r_row_⟩ (fun s1 σ G H h => ?_) (fun s1 i1 f w1 σ G H G1 H1 N hx h ce hv hm2 hN hX hR => ?_) (fun z1 σ G H eo h => ?_)
    · obtain ⟨w_row_, j1, es, e, sg1, r_row_⟩ := h
      subst es
      exact ⟨sg1, e.s⟩
    · clear hw hm it
      have hm := hm2
      clear hm2
      have hF1 := fun x ex => hq1 x (hR x ex)
      obtain ⟨w_row_, j1, es, e, sg1, r_row_⟩ := h
      subst es
      replace e := e.trans ce
      replace sg1 := sg1.trans ce.g
      replace r_row_ := Rp.mono ce.g r_row_
      refine g_name ?_
      have hv2 : w1 = V.int i1 := hv
      subst hv2
      clear hv
      try dsimp only
      refine st_if e.s (st_orp (st_notp (st_val (K := K) (se_isip (se_iv (i := 1) (d := i1) rfl) (by decide +kernel)))) (st_orp (st_val (K := K) (se_isip (se_iv (i := 1) (d := i1) rfl) (by decide +kernel))) (st_orp (st_test (K := K) (se_eqp (se_iv (i := 1) (d := i1) rfl) (se_int (n := 0)))) (st_test (K := K) (se_gep (se_absp (se_iv (i := 1) (d := i1) rfl)) (se_int (n := 1073741824))))))) hm (fun G1 H1 ce hm => ?_) (fun G1 H1 ce hm => ?_)
      · replace e := e.trans ce
        replace sg1 := sg1.trans ce.g
        replace r_row_ := Rp.mono ce.g r_row_
        try dsimp only
        exact st_retL (RR := RV K) e rvm (SE.xe se_bl) hm hF1
      · replace e := e.trans ce
        replace sg1 := sg1.trans ce.g
        replace r_row_ := Rp.mono ce.g r_row_
        refine st_next ?_
        cases hm
        exact hN _ _ _ _ rfl ⟨_, _, rfl, e, sg1, r_row_⟩
    · clear hw it
      subst eo
      replace hm := elim_inl hm
      obtain ⟨w_row_, j1, es, e, sg1, r_row_⟩ := h
      subst es
      clear sg1
      try dsimp only
      exact st_ret (RR := RV K) e rvm (SE.xe se_bl) hm q
theorem ok_must_be_row_ (T : Txt K mg) : FnOk P w K mg base CX0 2 T.a_must_be_row_ T.d_must_be_row_ ["row"] (Sp1 K (RV K) Mir.must_be_row_) := by
  refine T.F_must_be_row_.ok sc_must_be_row_ (Sp1.len rfl) (fun cdv A outer s He vs Q E hr h => ?_)
  obtain ⟨Ge, w_row_, row_, r, rfl, hs, r_row_, hm, q⟩ := h
  have e : Ext Ge He Ge He := Ext.refl hs
  unfold Mir.must_be_row_ at hm
  refine ⟨_, (pss_one (ps_if (pt_not (pt_val (pe_call (ok_is_row_ T) (hr.mono (by decide)) (by rfl) T.g_is_row_ T.F_is_row_.kp (bind_is_row_ T) .nil pass0 (pa_cons (pv 0) pa_nil)))) (pss_one ps_never) pss_nil)), ?_⟩
  try dsimp only
  refine st_if e.s (st_not (st_val (K := K) (XE.se (xe_call1p rvm (se_var (i := 0) (d := row_) rfl r_row_))))) hm (fun G1 H1 ce hm => ?_) (fun G1 H1 ce hm => ?_)
  · replace e := e.trans ce
    replace r_row_ := Rp.mono ce.g r_row_
    try dsimp only
    cases hm
  · replace e := e.trans ce
    replace r_row_ := Rp.mono ce.g r_row_
    refine st_next ?_
    cases hm
    exact q _ _ _ e rfl
theorem ok_seat_ (T : Txt K mg) : FnOk P w K mg base CX0 1 T.a_seat_ T.d_seat_ ["zero"] (Sp1 K (RV K) Mir.seat_) := by
  refine T.F_seat_.ok sc_seat_ (Sp1.len rfl) (fun cdv A outer s He vs Q E hr h => ?_)
  obtain ⟨Ge, w_zero_, zero_, r, rfl, hs, r_zero_, hm, q⟩ := h
  have e : Ext Ge He Ge He := Ext.refl hs
  unfold Mir.seat_ at hm
  refine ⟨_, (pss_cons (ps_set (i := 1) sc_seat_.nd rfl (Or.inr rfl) (pe_ix ix_list (pe_lc (own := [("k", 4)]) (by rfl) sc_seat_.nd (pi_range1 (by rfl) T.n_range (pa_cons pe_int pa_nil)) (blkOk_by (own := [("k", 4)]) (N := N_seat_) (sc := defScope s_seat_) (by decide +kernel)) (fun _ _ _ _ _ => pg_name (i := 4) sc_seat_.nd rfl (Or.inl rfl)) (fun _ _ _ _ _ => pts_one (pt_cmpR op_ne (pe_ix (ix_listK (K := K) rfl) (pv 0) (pv 4) (fun _ _ => rfl)) pe_int (nomark _))) (fun _ _ _ _ _ => (pv 4))) pe_int (fun _ _ => rfl))) (pss_cons (ps_asg (pe_lc (own := [("k", 4)]) (by rfl) sc_seat_.nd (pi_range1 (by rfl) T.n_range (pa_cons pe_int pa_nil)) (blkOk_by (own := [("k", 4)]) (N := N_seat_) (sc := defScope s_seat_) (by decide +kernel)) (fun _ _ _ _ _ => pg_name (i := 4) sc_seat_.nd rfl (Or.inl rfl)) (fun _ _ _ _ _ => pts_one (pt_cmpR op_ne (pv 4) (pv 1) (nomark _))) (fun _ _ _ _ _ => (pv 4))) (pg_unl rfl (pgs_cons (pg_name (i := 2) sc_seat_.nd rfl (Or.inl rfl)) (pgs_cons (pg_name (i := 3) sc_seat_.nd rfl (Or.inl rfl)) pgs_nil)))) (pss_one (ps_ret (pe_tup (pa_cons (pv 1) (pa_cons (pv 2) (pa_cons (pv 3) pa_nil)))))))), ?_⟩
  try dsimp only
  refine st_seq ?_
  refine st_set (K := K) e.s (se_ix (FE.se (fe_lc _ (ib_range1p (se_int (n := 3))) tg_name (fun k_ s1 G1 H1 ce1 ⟨w1, es1, h1⟩ => by subst es1; have h1 : w1 = V.int k_ := h1; subst h1; exact (st_test (K := K) (se_ne (se_ixp (se_var (i := 0) (d := zero_) rfl (Rp.mono ce1.g r_zero_)) (se_iv (i := 4) (d := k_) rfl)) (se_int (n := 0))))) (fun k_ s1 G1 H1 ce1 ⟨w1, es1, h1⟩ => by subst es1; have h1 : w1 = V.int k_ := h1; subst h1; exact (se_iv (i := 4) (d := k_) rfl)))) (se_int (n := 0))) hm (fun h_ w_h_ G1 H1 ce r_h_ hm => ?_)
  replace e := e.trans ce
  replace r_zero_ := Rp.mono ce.g r_zero_
  have r_h_ : w_h_ = V.int h_ := r_h_; subst r_h_
  try dsimp only
  refine st_seq ?_
  refine st_unl2 (K := K) e.s (FE.se (fe_lc _ (ib_range1p (se_int (n := 3))) tg_name (fun k_ s2 G2 H2 ce2 ⟨w2, es2, h2⟩ => by subst es2; have h2 : w2 = V.int k_ := h2; subst h2; exact (st_test (K := K) (se_nep (se_iv (i := 4) (d := k_) rfl) (se_iv (i := 1) (d := h_) rfl)))) (fun k_ s2 G2 H2 ce2 ⟨w2, es2, h2⟩ => by subst es2; have h2 : w2 = V.int k_ := h2; subst h2; exact (se_iv (i := 4) (d := k_) rfl)))) hm (fun i_ j_ w_i_ w_j_ G1 H1 ce r_i_ r_j_ hm => ?_)
  replace e := e.trans ce
  replace r_zero_ := Rp.mono ce.g r_zero_
  have r_i_ : w_i_ = V.int i_ := r_i_; subst r_i_
  have r_j_ : w_j_ = V.int j_ := r_j_; subst r_j_
  try dsimp only
  exact st_ret (RR := RV K) e rvm (SE.xe (se_tup3p (se_iv (i := 1) (d := h_) rfl) (se_iv (i := 2) (d := i_) rfl) (se_iv (i := 3) (d := j_) rfl))) hm q
theorem ok_common_ (T : Txt K mg) : FnOk P w K mg base CX0 1 T.a_common_ T.d_common_ ["one", "other"] (Sp2 K (RV K) Mir.common_) := by
  refine T.F_common_.ok sc_common_ (Sp2.len rfl) (fun cdv A outer s He vs Q E hr h => ?_)
  obtain ⟨Ge, w_one_, w_other_, one_, other_, r, rfl, hs, r_one_, r_other_, hm, q⟩ := h
  have e : Ext Ge He Ge He := Ext.refl hs
  have r2_one_ : w_one_ = V.int one_ := r_one_
  subst r2_one_
  clear r_one_
  have r2_other_ : w_other_ = V.int other_ := r_other_
  subst r2_other_
  clear r_other_
  unfold Mir.common_ at hm
  refine ⟨_, (pss_cons (ps_while PassesOwn.never (pt_cmpR op_ne (pv 1) pe_int (nomark _)) (pss_one (ps_par (by rfl) sc_common_.nd (i := 0) (j := 1) rfl rfl (by decide) rfl rfl (pa_cons (pv 1) (pa_cons (pe_op op_modN (pv 0) (pv 1)) pa_nil)) (by rfl)))) (pss_one (ps_ret (pe_callB call_abs (by rfl) T.n_abs (by decide +kernel) (pa_cons (pv 0) pa_nil))))), ?_⟩
  try dsimp only
  refine st_seq ?_
  obtain ⟨z1, hw, hm⟩ := bind_some hm
  refine st_whileN (fun (s1 : Int × Int) σ G H => σ = [some (V.int s1.1), some (V.int s1.2)] ∧ Ext Ge He G H) hw ⟨rfl, e⟩ (fun s1 σ G H h => ?_) (fun s1 σ G H h => ?_) (fun s1 f σ G H G1 H1 N h ce hc hm hN => ?_) (fun σ G H G1 H1 h ce => ?_)
  · obtain ⟨es, e⟩ := h
    subst es
    exact e.s
  · obtain ⟨es, e⟩ := h
    subst es
    exact (st_test (K := K) (se_nep (se_iv (i := 1) (d := s1.2) rfl) (se_int (n := 0))))
  · clear hw
    obtain ⟨es, e⟩ := h
    subst es
    replace e := e.trans ce
    try dsimp only
    refine st_par (K := K) e.s (se_iv (i := 1) (d := s1.2) rfl) (se_modp (se_iv (i := 0) (d := s1.1) rfl) (se_iv (i := 1) (d := s1.2) rfl)) hm (fun y2 y3 w_one_ w_other_ G1 H1 ce r_one_ r_other_ hm => ?_)
    replace e := e.trans ce
    have r_one_ : w_one_ = V.int y2 := r_one_; subst r_one_
    have r_other_ : w_other_ = V.int y3 := r_other_; subst r_other_
    cases hm
    exact hN _ _ _ ⟨rfl, e⟩
  · obtain ⟨es, e⟩ := h
    subst es
    replace e := e.trans ce
    try dsimp only
    exact st_ret (RR := RV K) e rvm (SE.xe (se_absp (se_iv (i := 0) (d := z1.1) rfl))) hm q
theorem ok_primitive_ (T : Txt K mg) : FnOk P w K mg base CX0 2 T.a_primitive_ T.d_primitive_ ["numbers"] (Sp1 K (RF K) Mir.primitive_) := by
  refine T.F_primitive_.ok sc_primitive_ (Sp1.len rfl) (fun cdv A outer s He vs Q E hr h => ?_)
  obtain ⟨Ge, w_numbers_, numbers_, r, rfl, hs, r_numbers_, hm, q⟩ := h
  have e : Ext Ge He Ge He := Ext.refl hs
  unfold Mir.primitive_ at hm
  refine ⟨_, (pss_cons (ps_set (i := 1) sc_primitive_.nd rfl (Or.inr rfl) pe_int) (pss_cons (ps_for PassesOwn.never rfl (pi_list (pv 0)) (pg_name (i := 2) sc_primitive_.nd rfl (Or.inl rfl)) (pss_one (ps_set (i := 1) sc_primitive_.nd rfl (Or.inr rfl) (pe_call (ok_common_ T) (hr.mono (by decide)) (by rfl) T.g_common_ T.F_common_.kp (bind_common_ T) .nil pass0 (pa_cons (pv 1) (pa_cons (pv 2) pa_nil)))))) (pss_one (ps_ret (pe_lc (own := [("number", 2)]) (by rfl) sc_primitive_.nd (pi_list (pv 0)) (blkOk_by (own := [("number", 2)]) (N := N_primitive_) (sc := defScope s_primitive_) (by decide +kernel)) (fun _ _ _ _ _ => pg_name (i := 2) sc_primitive_.nd rfl (Or.inl rfl)) (fun _ _ _ _ _ => pts_nil) (fun _ _ _ _ _ => (pe_op op_divZ (pv 2) (pv 1)))))))), ?_⟩
  try dsimp only
  refine st_seq ?_
  refine st_set (K := K) e.s (se_int (n := 0)) hm (fun part_ w_part_ G1 H1 ce r_part_ hm => ?_)
  replace e := e.trans ce
  replace r_numbers_ := Rp.mono ce.g r_numbers_
  have r_part_ : w_part_ = V.int part_ := r_part_; subst r_part_
  try dsimp only
  refine st_seq ?_
  refine st_for (K := K) e.s (IB.ie (ib_list (se_var (i := 0) (d := numbers_) rfl r_numbers_))) hm (fun xs J Gs1 Hs1 ce it hm => ?_)
  replace e := e.trans ce
  replace r_numbers_ := Rp.mono ce.g r_numbers_
  have sg1 : Same Gs1 Gs1 := Same.refl _
  obtain ⟨z1, hw, hm⟩ := bind_some hm
  refine lg_N (K := K) (fun (s1 : Int) σ G H => ∃ (w_numbers_ : V) (j2 : Option V), σ = [some w_numbers_, some (V.int s1), j2] ∧ Ext Ge He G H ∧ Same Gs1 G ∧ rep K G w_numbers_ numbers_) it hw ⟨_, _, rfl, e, sg1, r_numbers_⟩ (fun s1 σ G H h => ?_) (fun s1 i1 f w1 σ G H G1 H1 N hx h ce hv hm hN => ?_) (fun σ G H h => ?_)
  · obtain ⟨w_numbers_, j2, es, e, sg1, r_numbers_⟩ := h
    subst es
    exact ⟨sg1, e.s⟩
  · clear hw it
    obtain ⟨w_numbers_, j2, es, e, sg1, r_numbers_⟩ := h
    subst es
    replace e := e.trans ce
    replace sg1 := sg1.trans ce.g
    replace r_numbers_ := Rp.mono ce.g r_numbers_
    refine g_name ?_
    have hv2 : w1 = V.int i1 := hv
    subst hv2
    clear hv
    try dsimp only
    refine st_set (K := K) e.s (XE.se (xe_call2p rvm (se_iv (i := 1) (d := s1) rfl) (se_iv (i := 2) (d := i1) rfl))) hm (fun part_ w_part_ G1 H1 ce r_part_ hm => ?_)
    replace e := e.trans ce
    replace sg1 := sg1.trans ce.g
    replace r_numbers_ := Rp.mono ce.g r_numbers_
    have r_part_ : w_part_ = V.int part_ := r_part_; subst r_part_
    cases hm
    exact hN _ _ _ ⟨_, _, rfl, e, sg1, r_numbers_⟩
  · clear hw it
    obtain ⟨w_numbers_, j2, es, e, sg1, r_numbers_⟩ := h
    subst es
    clear sg1
    try dsimp only
    exact st_ret (RR := RF K) e rfm (FE.xe (fe_map _ (ib_list (se_var (i := 0) (d := numbers_) rfl r_numbers_)) tg_name (fun number_ s2 G2 H2 ce2 ⟨w2, es2, h2⟩ => by subst es2; have h2 : w2 = V.int number_ := h2; subst h2; exact (se_divp (se_iv (i := 2) (d := number_) rfl) (se_iv (i := 1) (d := z1) rfl))))) hm q
theorem ok_signed_ (T : Txt K mg) : FnOk P w K mg base CX0 3 T.a_signed_ T.d_signed_ ["numbers"] (Sp1 K (RV K) Mir.signed_) := by
  refine T.F_signed_.ok sc_signed_ (Sp1.len rfl) (fun cdv A outer s He vs Q E hr h => ?_)
  obtain ⟨Ge, w_numbers_, numbers_, r, rfl, hs, r_numbers_, hm, q⟩ := h
  have e : Ext Ge He Ge He := Ext.refl hs
  unfold Mir.signed_ at hm
  refine ⟨_, (pss_cons (ps_set (i := 1) sc_signed_.nd rfl (Or.inl rfl) (pe_call (ok_primitive_ T) (hr.mono (by decide)) (by rfl) T.g_primitive_ T.F_primitive_.kp (bind_primitive_ T) .nil pass0 (pa_cons (pv 0) pa_nil))) (pss_cons (ps_for PassesOwn.never rfl (pi_list (pv 1)) (pg_name (i := 2) sc_signed_.nd rfl (Or.inl rfl)) (pss_cons (ps_if (pt_cmpR op_lt (pv 2) pe_int (nomark _)) (pss_one (ps_ret (pe_lc (own := [("other", 3)]) (by rfl) sc_signed_.nd (pi_list (pv 1)) (blkOk_by (own := [("other", 3)]) (N := N_signed_) (sc := defScope s_signed_) (by decide +kernel)) (fun _ _ _ _ _ => pg_name (i := 3) sc_signed_.nd rfl (Or.inl rfl)) (fun _ _ _ _ _ => pts_nil) (fun _ _ _ _ _ => (pe_op op_sub pe_int (pv 3)))))) pss_nil) (pss_one (ps_if (pt_cmpR op_gt (pv 2) pe_int (nomark _)) (pss_one (ps_ret (pv 1))) pss_nil)))) (pss_one (ps_ret (pv 1))))), ?_⟩
  try dsimp only
  refine st_seq ?_
  refine st_set (K := K) e.s (FE.se (XE.fe (xe_call1p rfm (se_var (i := 0) (d := numbers_) rfl r_numbers_)))) hm (fun row_ w_row_ G1 H1 ce r_row_ hm => ?_)
  replace e := e.trans ce
  replace r_numbers_ := Rp.mono ce.g r_numbers_
  try dsimp only
  refine st_seq ?_
  refine st_for (K := K) e.s (IB.ie (ib_list (se_var (i := 1) (d := row_) rfl r_row_))) hm (fun xs J Gs1 Hs1 ce it hm => ?_)
  replace e := e.trans ce
  replace r_numbers_ := Rp.mono ce.g r_numbers_
  replace r_row_ := Rp.mono ce.g r_row_
  have sg1 : Same Gs1 Gs1 := Same.refl _
  obtain ⟨o1, hw, hm⟩ := bind_some hm
  have hq1 : ∀ x, o1 = .inr x → ∀ u G' H', Ext Ge He G' H' → RV K He G' H' u x → Q u H' := fun x ex => by
    subst ex
    replace hm := elim_inr hm
    cases hm
    exact q
  refine lg_R (K := K) (fun (s1 : Unit) σ G H => ∃ (w_numbers_ : V) (w_row_ : V) (j2 : Option V) (j3 : Option V), σ = [some w_numbers_, some w_row_, j2, j3] ∧ Ext Ge He G H ∧ Same Gs1 G ∧ rep K G w_numbers_ numbers_ ∧ rep K G w_row_ row_) it hw ⟨_, _, _, _, rfl, e, sg1, r_numbers_, r_row_⟩ (fun s1 σ G H h => ?_) (fun s1 i1 f w1 σ G H G1 H1 N hx h ce hv hm2 hN hX hR => ?_) (fun z1 σ G H eo h => ?_)
  · obtain ⟨w_numbers_, w_row_, j2, j3, es, e, sg1, r_numbers_, r_row_⟩ := h
    subst es
    exact ⟨sg1, e.s⟩
  · clear hw hm it
    have hm := hm2
    clear hm2
    have hF1 := fun x ex => hq1 x (hR x ex)
    obtain ⟨w_numbers_, w_row_, j2, j3, es, e, sg1, r_numbers_, r_row_⟩ := h
    subst es
    replace e := e.trans ce
    replace sg1 := sg1.trans ce.g
    replace r_numbers_ := Rp.mono ce.g r_numbers_
    replace r_row_ := Rp.mono ce.g r_row_
    refine g_name ?_
    have hv2 : w1 = V.int i1 := hv
    subst hv2
    clear hv
    try dsimp only
    refine st_seq ?_
    refine st_if e.s (st_test (K := K) (se_ltp (se_iv (i := 2) (d := i1) rfl) (se_int (n := 0)))) hm (fun G1 H1 ce hm => ?_) (fun G1 H1 ce hm => ?_)
    · replace e := e.trans ce
      replace sg1 := sg1.trans ce.g
      replace r_numbers_ := Rp.mono ce.g r_numbers_
      replace r_row_ := Rp.mono ce.g r_row_
      try dsimp only
      exact st_retL (RR := RV K) e rvm (SE.xe (FE.se (fe_map _ (ib_list (se_var (i := 1) (d := row_) rfl r_row_)) tg_name (fun other_ s2 G2 H2 ce2 ⟨w2, es2, h2⟩ => by subst es2; have h2 : w2 = V.int other_ := h2; subst h2; exact (se_subp (se_int (n := 0)) (se_iv (i := 3) (d := other_) rfl)))))) hm hF1
    · replace e := e.trans ce
      replace sg1 := sg1.trans ce.g
      replace r_numbers_ := Rp.mono ce.g r_numbers_
      replace r_row_ := Rp.mono ce.g r_row_
      refine st_next ?_
      try dsimp only
      refine st_if e.s (st_test (K := K) (se_gtp (se_iv (i := 2) (d := i1) rfl) (se_int (n := 0)))) hm (fun G1 H1 ce hm => ?_) (fun G1 H1 ce hm => ?_)
      · replace e := e.trans ce
        replace sg1 := sg1.trans ce.g
        replace r_numbers_ := Rp.mono ce.g r_numbers_
        replace r_row_ := Rp.mono ce.g r_row_
        try dsimp only
        exact st_retL (RR := RV K) e rvm (SE.xe (se_var (i := 1) (d := row_) rfl r_row_)) hm hF1
      · replace e := e.trans ce
        replace sg1 := sg1.trans ce.g
        replace r_numbers_ := Rp.mono ce.g r_numbers_
        replace r_row_ := Rp.mono ce.g r_row_
        refine st_next ?_
        cases hm
        exact hN _ _ _ _ rfl ⟨_, _, _, _, rfl, e, sg1, r_numbers_, r_row_⟩
  · clear hw it
    subst eo
    replace hm := elim_inl hm
    obtain ⟨w_numbers_, w_row_, j2, j3, es, e, sg1, r_numbers_, r_row_⟩ := h
    subst es
    clear sg1
    try dsimp only
    exact st_ret (RR := RV K) e rvm (SE.xe (se_var (i := 1) (d := row_) rfl r_row_)) hm q
theorem ok_point_of_ (T : Txt K mg) : FnOk P w K mg base CX0 4 T.a_point_of_ T.d_point_of_ ["row", "zero", "line"] (Sp3 K (RV K) Mir.point_of_) := by
  refine T.F_point_of_.ok sc_point_of_ (Sp3.len rfl) (fun cdv A outer s He vs Q E hr h => ?_)
  obtain ⟨Ge, w_row_, w_zero_, w_line_, row_, zero_, line_, r, rfl, hs, r_row_, r_zero_, r_line_, hm, q⟩ := h
  have e : Ext Ge He Ge He := Ext.refl hs
  unfold Mir.point_of_ at hm
  refine ⟨_, (pss_cons (ps_expr (pe_call (ok_must_be_row_ T) (hr.mono (by decide)) (by rfl) T.g_must_be_row_ T.F_must_be_row_.kp (bind_must_be_row_ T) .nil pass0 (pa_cons (pv 0) pa_nil))) (pss_cons (ps_asg (pe_call (ok_seat_ T) (hr.mono (by decide)) (by rfl) T.g_seat_ T.F_seat_.kp (bind_seat_ T) .nil pass0 (pa_cons (pv 1) pa_nil)) (pg_tup rfl (pgs_cons (pg_name (i := 3) sc_point_of_.nd rfl (Or.inl rfl)) (pgs_cons (pg_name (i := 4) sc_point_of_.nd rfl (Or.inl rfl)) (pgs_cons (pg_name (i := 5) sc_point_of_.nd rfl (Or.inl rfl)) pgs_nil))))) (pss_cons (ps_set (i := 6) sc_point_of_.nd rfl (Or.inr rfl) (pe_lst (pa_cons pe_int (pa_cons pe_int (pa_cons pe_int pa_nil))))) (pss_cons (ps_asg (pe_ix ix_tup (pv 2) pe_int (fun _ _ => rfl)) (pg_sub (pv 6) (pv 4) set_list)) (pss_cons (ps_asg (pe_ix ix_tup (pv 2) pe_int (fun _ _ => rfl)) (pg_sub (pv 6) (pv 5) set_list)) (pss_cons (ps_set (i := 7) sc_point_of_.nd rfl (Or.inr rfl) (pe_callB (cr_sum rfl) (by rfl) T.n_sum (by decide +kernel) (pa_cons (pe_lc (own := [("k", 9)]) (by rfl) sc_point_of_.nd (pi_range1 (by rfl) T.n_range (pa_cons pe_int pa_nil)) (blkOk_by (own := [("k", 9)]) (N := N_point_of_) (sc := defScope s_point_of_) (by decide +kernel)) (fun _ _ _ _ _ => pg_name (i := 9) sc_point_of_.nd rfl (Or.inl rfl)) (fun _ _ _ _ _ => pts_nil) (fun _ _ _ _ _ => (pe_op op_mulZ (pe_op op_mulZ (pe_ix (ix_listK (K := K) rfl) (pv 0) (pv 9) (fun _ _ => rfl)) (pe_ix (ix_listK (K := K) rfl) (pv 6) (pv 9) (fun _ _ => rfl))) (pe_ix (ix_listK (K := K) rfl) (pv 6) (pv 9) (fun _ _ => rfl))))) pa_nil))) (pss_cons (ps_set (i := 8) sc_point_of_.nd rfl (Or.inr rfl) (pe_callB (cr_sum rfl) (by rfl) T.n_sum (by decide +kernel) (pa_cons (pe_lc (own := [("k", 9)]) (by rfl) sc_point_of_.nd (pi_range1 (by rfl) T.n_range (pa_cons pe_int pa_nil)) (blkOk_by (own := [("k", 9)]) (N := N_point_of_) (sc := defScope s_point_of_) (by decide +kernel)) (fun _ _ _ _ _ => pg_name (i := 9) sc_point_of_.nd rfl (Or.inl rfl)) (fun _ _ _ _ _ => pts_nil) (fun _ _ _ _ _ => (pe_op op_mulZ (pe_op op_mulZ (pe_ix (ix_listK (K := K) rfl) (pv 0) (pv 9) (fun _ _ => rfl)) (pe_ix (ix_listK (K := K) rfl) (pv 1) (pv 9) (fun _ _ => rfl))) (pe_ix (ix_listK (K := K) rfl) (pv 6) (pv 9) (fun _ _ => rfl))))) pa_nil))) (pss_one (ps_ret (pe_call (ok_signed_ T) (hr.mono (by decide)) (by rfl) T.g_signed_ T.F_signed_.kp (bind_signed_ T) .nil pass0 (pa_cons (pe_lc (own := [("k", 9)]) (by rfl) sc_point_of_.nd (pi_range1 (by rfl) T.n_range (pa_cons pe_int pa_nil)) (blkOk_by (own := [("k", 9)]) (N := N_point_of_) (sc := defScope s_point_of_) (by decide +kernel)) (fun _ _ _ _ _ => pg_name (i := 9) sc_point_of_.nd rfl (Or.inl rfl)) (fun _ _ _ _ _ => pts_nil) (fun _ _ _ _ _ => (pe_op op_sub (pe_op op_mulZ (pv 7) (pe_ix (ix_listK (K := K) rfl) (pv 1) (pv 9) (fun _ _ => rfl))) (pe_op op_mulZ (pe_op op_mulZ pe_int (pv 8)) (pe_ix (ix_listK (K := K) rfl) (pv 6) (pv 9) (fun _ _ => rfl)))))) pa_nil))))))))))), ?_⟩
  try dsimp only
  refine st_seq ?_
  refine st_drop2 (K := K) e.s (XE.se (xe_call1p rvm (se_var (i := 0) (d := row_) rfl r_row_))) hm (fun u1 G1 H1 ce hm => ?_)
  replace e := e.trans ce
  replace r_row_ := Rp.mono ce.g r_row_
  replace r_zero_ := Rp.mono ce.g r_zero_
  replace r_line_ := Rp.mono ce.g r_line_
  try dsimp only
  refine st_seq ?_
  refine st_un3 (K := K) e.s (XE.se (xe_call1p rvm (se_var (i := 1) (d := zero_) rfl r_zero_))) hm (fun t2 w_h_ w_i_ w_j_ G1 H1 ce r_h_ r_i_ r_j_ hm => ?_)
  replace e := e.trans ce
  replace r_row_ := Rp.mono ce.g r_row_
  replace r_zero_ := Rp.mono ce.g r_zero_
  replace r_line_ := Rp.mono ce.g r_line_
  have r_h_ : w_h_ = V.int t2.a := r_h_; subst r_h_
  have r_i_ : w_i_ = V.int t2.b := r_i_; subst r_i_
  have r_j_ : w_j_ = V.int t2.c := r_j_; subst r_j_
  try dsimp only
  refine st_seq ?_
  refine st_setF (K := K) e.s (fe_lst (la_consp (se_int (n := 0)) (la_consp (se_int (n := 0)) (la_consp (se_int (n := 0)) la_nil)))) hm (fun way_ p_way_ G1 H1 ce r_way_ hm => ?_)
  replace r_way_ := r_way_.up e.h
  replace e := e.trans ce
  replace r_row_ := Rp.mono ce.g r_row_
  replace r_zero_ := Rp.mono ce.g r_zero_
  replace r_line_ := Rp.mono ce.g r_line_
  try dsimp only
  refine st_seq ?_
  refine st_put (K := K) e.s rfl r_way_ (se_t2_0p (se_var (i := 2) (d := line_) rfl r_line_)) (se_iv (i := 4) (d := t2.b) rfl) hm (fun way_ h_way_ G1 H1 ce ro g0 hm => ?_)
  replace e := e.trans ce
  replace r_row_ := Rp.mono ce.g r_row_
  replace r_zero_ := Rp.mono ce.g r_zero_
  replace r_line_ := Rp.mono ce.g r_line_
  replace e := e.put (o := h_way_) ro.z g0
  clear r_way_ g0
  have r_way_ := ro
  clear ro
  try dsimp only
  refine st_seq ?_
  refine st_put (K := K) e.s rfl r_way_ (se_t2_1p (se_var (i := 2) (d := line_) rfl r_line_)) (se_iv (i := 5) (d := t2.c) rfl) hm (fun way_ h_way_ G1 H1 ce ro g0 hm => ?_)
  replace e := e.trans ce
  replace r_row_ := Rp.mono ce.g r_row_
  replace r_zero_ := Rp.mono ce.g r_zero_
  replace r_line_ := Rp.mono ce.g r_line_
  replace e := e.put (o := h_way_) ro.z g0
  clear r_way_ g0
  have r_way_ := ro
  clear ro
  try dsimp only
  refine st_seq ?_
  refine st_set (K := K) e.s (se_sum (FE.se (fe_map _ (ib_range1p (se_int (n := 3))) tg_name (fun k_ s3 G3 H3 ce3 ⟨w3, es3, h3⟩ => by subst es3; have h3 : w3 = V.int k_ := h3; subst h3; exact (se_mul (se_mul (se_ixp (se_var (i := 0) (d := row_) rfl (Rp.mono ce3.g r_row_)) (se_iv (i := 9) (d := k_) rfl)) (se_own_ixp (i := 6) rfl (r_way_.mono ce3) (se_iv (i := 9) (d := k_) rfl))) (se_own_ixp (i := 6) rfl (r_way_.mono ce3) (se_iv (i := 9) (d := k_) rfl))))))) hm (fun made_ w_made_ G1 H1 ce r_made_ hm => ?_)
  replace e := e.trans ce
  replace r_row_ := Rp.mono ce.g r_row_
  replace r_zero_ := Rp.mono ce.g r_zero_
  replace r_line_ := Rp.mono ce.g r_line_
  replace r_way_ := r_way_.mono ce
  have r_made_ : w_made_ = V.int made_ := r_made_; subst r_made_
  try dsimp only
  refine st_seq ?_
  refine st_set (K := K) e.s (se_sum (FE.se (fe_map _ (ib_range1p (se_int (n := 3))) tg_name (fun k_ s4 G4 H4 ce4 ⟨w4, es4, h4⟩ => by subst es4; have h4 : w4 = V.int k_ := h4; subst h4; exact (se_mul (se_mul (se_ixp (se_var (i := 0) (d := row_) rfl (Rp.mono ce4.g r_row_)) (se_iv (i := 9) (d := k_) rfl)) (se_ixp (se_var (i := 1) (d := zero_) rfl (Rp.mono ce4.g r_zero_)) (se_iv (i := 9) (d := k_) rfl))) (se_own_ixp (i := 6) rfl (r_way_.mono ce4) (se_iv (i := 9) (d := k_) rfl))))))) hm (fun both_ w_both_ G1 H1 ce r_both_ hm => ?_)
  replace e := e.trans ce
  replace r_row_ := Rp.mono ce.g r_row_
  replace r_zero_ := Rp.mono ce.g r_zero_
  replace r_line_ := Rp.mono ce.g r_line_
  replace r_way_ := r_way_.mono ce
  have r_both_ : w_both_ = V.int both_ := r_both_; subst r_both_
  try dsimp only
  exact st_ret (RR := RV K) e rvm (SE.xe (XE.se (xe_call1 rvm (FE.se (fe_map _ (ib_range1p (se_int (n := 3))) tg_name (fun k_ s5 G5 H5 ce5 ⟨w5, es5, h5⟩ => by subst es5; have h5 : w5 = V.int k_ := h5; subst h5; exact (se_sub (se_mul (se_iv (i := 7) (d := made_) rfl) (se_ixp (se_var (i := 1) (d := zero_) rfl (Rp.mono ce5.g r_zero_)) (se_iv (i := 9) (d := k_) rfl))) (se_mul (se_mulp (se_int (n := 2)) (se_iv (i := 8) (d := both_) rfl)) (se_own_ixp (i := 6) rfl (r_way_.mono ce5) (se_iv (i := 9) (d := k_) rfl)))))))))) hm q
theorem ok_law_is_zero_ (T : Txt K mg) : FnOk P w K mg base CX0 2 T.a_law_is_zero_ T.d_law_is_zero_ ["_law_row", "_law_zero"] (Sp2 K (RV K) Mir.law_is_zero_) := by
  refine T.F_law_is_zero_.ok sc_law_is_zero_ (Sp2.len rfl) (fun cdv A outer s He vs Q E hr h => ?_)
  obtain ⟨Ge, w_law_row_, w_law_zero_, law_row_, law_zero_, r, rfl, hs, r_law_row_, r_law_zero_, hm, q⟩ := h
  have e : Ext Ge He Ge He := Ext.refl hs
  unfold Mir.law_is_zero_ at hm
  refine ⟨_, (pss_cons (ps_if (PW.pt (pw_or (pt_not (pt_val (pe_callB call_isi (by rfl) T.n_isinstance (by decide +kernel) (pa_cons (pv 1) (pa_cons (pe_bltn (v := .ty "list") (by rfl) T.n_list (by decide +kernel) rfl) pa_nil))))) (pw_or1 (pt_cmpR op_ne (pe_callB call_len_seq (by rfl) T.n_len (by decide +kernel) (pa_cons (pv 1) pa_nil)) (pe_callB call_len_seq (by rfl) T.n_len (by decide +kernel) (pa_cons (pv 0) pa_nil)) (nomark _))))) (pss_one (ps_ret pe_bl)) pss_nil) (pss_cons (ps_set (i := 2) sc_law_is_zero_.nd rfl (Or.inl rfl) pe_int) (pss_cons (ps_set (i := 3) sc_law_is_zero_.nd rfl (Or.inl rfl) pe_int) (pss_cons (ps_for PassesOwn.never rfl (pi_range1 (by rfl) T.n_range (pa_cons (pe_callB call_len_seq (by rfl) T.n_len (by decide +kernel) (pa_cons (pv 0) pa_nil)) pa_nil)) (pg_name (i := 4) sc_law_is_zero_.nd rfl (Or.inl rfl)) (pss_cons (ps_if (PW.pt (pw_or (pt_not (pt_val (pe_callB call_isi (by rfl) T.n_isinstance (by decide +kernel) (pa_cons (pe_ix ix_list (pv 1) (pv 4) (fun _ _ => rfl)) (pa_cons (pe_bltn (v := .ty "int") (by rfl) T.n_int (by decide +kernel) rfl) pa_nil))))) (pw_or1 (pt_val (pe_callB call_isi (by rfl) T.n_isinstance (by decide +kernel) (pa_cons (pe_ix ix_list (pv 1) (pv 4) (fun _ _ => rfl)) (pa_cons (pe_bltn (v := .ty "bool") (by rfl) T.n_bool (by decide +kernel) rfl) pa_nil))))))) (pss_one (ps_ret pe_bl)) pss_nil) (pss_cons (ps_set (i := 2) sc_law_is_zero_.nd rfl (Or.inl rfl) (pe_call (ok_law_common_ T) (hr.mono (by decide)) (by rfl) T.g_law_common_ T.F_law_common_.kp (bind_law_common_ T) .nil pass0 (pa_cons (pv 2) (pa_cons (pe_ix ix_list (pv 1) (pv 4) (fun _ _ => rfl)) pa_nil)))) (pss_one (ps_set (i := 3) sc_law_is_zero_.nd rfl (Or.inl rfl) (pe_op op_add (pv 3) (pe_op op_mulZ (pe_op op_mulZ (pe_ix ix_list (pv 0) (pv 4) (fun _ _ => rfl)) (pe_ix ix_list (pv 1) (pv 4) (fun _ _ => rfl))) (pe_ix ix_list (pv 1) (pv 4) (fun _ _ => rfl))))))))) (pss_one (ps_ret (pe_and (pe_cmpR op_eq (pv 2) pe_int (nomark _)) (pe_one (pe_cmpR op_eq (pv 3) pe_int (nomark _)))))))))), ?_⟩
  try dsimp only
  refine st_seq ?_
  refine st_if e.s (st_orp (st_notp (st_val (K := K) (se_isip (se_var (i := 1) (d := law_zero_) rfl r_law_zero_) (by decide +kernel)))) (st_test (K := K) (se_nep (se_lenp (se_var (i := 1) (d := law_zero_) rfl r_law_zero_)) (se_lenp (se_var (i := 0) (d := law_row_) rfl r_law_row_))))) hm (fun G1 H1 ce hm => ?_) (fun G1 H1 ce hm => ?_)
  · replace e := e.trans ce
    replace r_law_row_ := Rp.mono ce.g r_law_row_
    replace r_law_zero_ := Rp.mono ce.g r_law_zero_
    try dsimp only
    exact st_ret (RR := RV K) e rvm (SE.xe se_bl) hm q
  · replace e := e.trans ce
    replace r_law_row_ := Rp.mono ce.g r_law_row_
    replace r_law_zero_ := Rp.mono ce.g r_law_zero_
    refine st_next ?_
    try dsimp only
    refine st_seq ?_
    refine st_set (K := K) e.s (se_int (n := 0)) hm (fun law_part_ w_law_part_ G1 H1 ce r_law_part_ hm => ?_)
    replace e := e.trans ce
    replace r_law_row_ := Rp.mono ce.g r_law_row_
    replace r_law_zero_ := Rp.mono ce.g r_law_zero_
    have r_law_part_ : w_law_part_ = V.int law_part_ := r_law_part_; subst r_law_part_
    try dsimp only
    refine st_seq ?_
    refine st_set (K := K) e.s (se_int (n := 0)) hm (fun law_total_ w_law_total_ G1 H1 ce r_law_total_ hm => ?_)
    replace e := e.trans ce
    replace r_law_row_ := Rp.mono ce.g r_law_row_
    replace r_law_zero_ := Rp.mono ce.g r_law_zero_
    have r_law_total_ : w_law_total_ = V.int law_total_ := r_law_total_; subst r_law_total_
    try dsimp only
    refine st_seq ?_
    refine st_for (K := K) e.s (ie_range1p (se_lenp (se_var (i := 0) (d := law_row_) rfl r_law_row_))) hm (fun xs J Gs1 Hs1 ce it hm => ?_)
    replace e := e.trans ce
    replace r_law_row_ := Rp.mono ce.g r_law_row_
    replace r_law_zero_ := Rp.mono ce.g r_law_zero_
    have sg1 : Same Gs1 Gs1 := Same.refl _
    obtain ⟨o1, hw, hm⟩ := bind_some hm
    have hq1 : ∀ x, o1 = .inr x → ∀ u G' H', Ext Ge He G' H' → RV K He G' H' u x → Q u H' := fun x ex => by
      subst ex
      replace hm := elim_inr hm
      cases hm
      exact q
    refine lg_R (K := K) (fun (s1 : Int × Int) σ G H => ∃ (w_law_row_ : V) (w_law_zero_ : V) (j4 : Option V), σ = [some w_law_row_, some w_law_zero_, some (V.int s1.1), some (V.int s1.2), j4] ∧ Ext Ge He G H ∧ Same Gs1 G ∧ rep K G w_law_row_ law_row_ ∧ rep K G w_law_zero_ law_zero_) it hw ⟨_, _, _, rfl, e, sg1, r_law_row_, r_law_zero_⟩ (fun s1 σ G H h => ?_) (fun s1 i1 f w1 σ G H G1 H1 N hx h ce hv hm2 hN hX hR => ?_) (fun z1 σ G H eo h => ?_)
    · obtain ⟨w_law_row_, w_law_zero_, j4, es, e, sg1, r_law_row_, r_law_zero_⟩ := h
      subst es
      exact ⟨sg1, e.s⟩
    · clear hw hm it
      have hm := hm2
      clear hm2
      have hF1 := fun x ex => hq1 x (hR x ex)
      obtain ⟨w_law_row_, w_law_zero_, j4, es, e, sg1, r_law_row_, r_law_zero_⟩ := h
      subst es
      replace e := e.trans ce
      replace sg1 := sg1.trans ce.g
      replace r_law_row_ := Rp.mono ce.g r_law_row_
      replace r_law_zero_ := Rp.mono ce.g r_law_zero_
      refine g_name ?_
      have hv2 : w1 = V.int i1 := hv
      subst hv2
      clear hv
      try dsimp only
      refine st_seq ?_
      refine st_if e.s (st_or (st_not (st_val (K := K) (se_isi (se_ixp (se_var (i := 1) (d := law_zero_) rfl r_law_zero_) (se_iv (i := 4) (d := i1) rfl)) (by decide +kernel)))) (st_val (K := K) (se_isi (se_ixp (se_var (i := 1) (d := law_zero_) rfl r_law_zero_) (se_iv (i := 4) (d := i1) rfl)) (by decide +kernel)))) hm (fun G1 H1 ce hm => ?_) (fun G1 H1 ce hm => ?_)
      · replace e := e.trans ce
        replace sg1 := sg1.trans ce.g
        replace r_law_row_ := Rp.mono ce.g r_law_row_
        replace r_law_zero_ := Rp.mono ce.g r_law_zero_
        try dsimp only
        exact st_retL (RR := RV K) e rvm (SE.xe se_bl) hm hF1
      · replace e := e.trans ce
        replace sg1 := sg1.trans ce.g
        replace r_law_row_ := Rp.mono ce.g r_law_row_
        replace r_law_zero_ := Rp.mono ce.g r_law_zero_
        refine st_next ?_
        try dsimp only
        refine st_seq ?_
        refine st_set (K := K) e.s (XE.se (xe_call2 rvm (se_iv (i := 2) (d := s1.1) rfl) (se_ixp (se_var (i := 1) (d := law_zero_) rfl r_law_zero_) (se_iv (i := 4) (d := i1) rfl)))) hm (fun law_part_ w_law_part_ G1 H1 ce r_law_part_ hm => ?_)
        replace e := e.trans ce
        replace sg1 := sg1.trans ce.g
        replace r_law_row_ := Rp.mono ce.g r_law_row_
        replace r_law_zero_ := Rp.mono ce.g r_law_zero_
        have r_law_part_ : w_law_part_ = V.int law_part_ := r_law_part_; subst r_law_part_
        try dsimp only
        refine st_set (K := K) e.s (se_add (se_iv (i := 3) (d := s1.2) rfl) (se_mul (se_mul (se_ixp (se_var (i := 0) (d := law_row_) rfl r_law_row_) (se_iv (i := 4) (d := i1) rfl)) (se_ixp (se_var (i := 1) (d := law_zero_) rfl r_law_zero_) (se_iv (i := 4) (d := i1) rfl))) (se_ixp (se_var (i := 1) (d := law_zero_) rfl r_law_zero_) (se_iv (i := 4) (d := i1) rfl)))) hm (fun law_total_ w_law_total_ G1 H1 ce r_law_total_ hm => ?_)
        replace e := e.trans ce
        replace sg1 := sg1.trans ce.g
        replace r_law_row_ := Rp.mono ce.g r_law_row_
        replace r_law_zero_ := Rp.mono ce.g r_law_zero_
        have r_law_total_ : w_law_total_ = V.int law_total_ := r_law_total_; subst r_law_total_
        cases hm
        exact hN _ _ _ _ rfl ⟨_, _, _, rfl, e, sg1, r_law_row_, r_law_zero_⟩
    · clear hw it
      subst eo
      replace hm := elim_inl hm
      obtain ⟨w_law_row_, w_law_zero_, j4, es, e, sg1, r_law_row_, r_law_zero_⟩ := h
      subst es
      clear sg1
      try dsimp only
      exact st_ret (RR := RV K) e rvm (SE.xe (se_andp (se_eqp (se_iv (i := 2) (d := z1.1) rfl) (se_int (n := 1))) (se_eqp (se_iv (i := 3) (d := z1.2) rfl) (se_int (n := 0))))) hm q
theorem ok_law_first_ (T : Txt K mg) : FnOk P w K mg base CX0 1 T.a_law_first_ T.d_law_first_ ["_law_zero"] (Sp1 K (RV K) Mir.law_first_) := by
  refine T.F_law_first_.ok sc_law_first_ (Sp1.len rfl) (fun cdv A outer s He vs Q E hr h => ?_)
  obtain ⟨Ge, w_law_zero_, law_zero_, r, rfl, hs, r_law_zero_, hm, q⟩ := h
  have e : Ext Ge He Ge He := Ext.refl hs
  unfold Mir.law_first_ at hm
  refine ⟨_, (pss_cons (ps_for PassesOwn.never rfl (pi_range1 (by rfl) T.n_range (pa_cons pe_int pa_nil)) (pg_name (i := 1) sc_law_first_.nd rfl (Or.inl rfl)) (pss_one (ps_if (pt_cmpR op_ne (pe_ix ix_list (pv 0) (pv 1) (fun _ _ => rfl)) pe_int (nomark _)) (pss_one (ps_ret (pv 1))) pss_nil))) (pss_one (ps_ret pe_int))), ?_⟩
  try dsimp only
  refine st_seq ?_
  refine st_for (K := K) e.s (ie_range1p (se_int (n := 3))) hm (fun xs J Gs1 Hs1 ce it hm => ?_)
  replace e := e.trans ce
  replace r_law_zero_ := Rp.mono ce.g r_law_zero_
  have sg1 : Same Gs1 Gs1 := Same.refl _
  obtain ⟨o1, hw, hm⟩ := bind_some hm
  have hq1 : ∀ x, o1 = .inr x → ∀ u G' H', Ext Ge He G' H' → RV K He G' H' u x → Q u H' := fun x ex => by
    subst ex
    replace hm := elim_inr hm
    cases hm
    exact q
  refine lg_R (K := K) (fun (s1 : Unit) σ G H => ∃ (w_law_zero_ : V) (j1 : Option V), σ = [some w_law_zero_, j1] ∧ Ext Ge He G H ∧ Same Gs1 G ∧ rep K G w_law_zero_ law_zero_) it hw ⟨_, _, rfl, e, sg1, r_law_zero_⟩ (fun s1 σ G H h => ?_) (fun s1 i1 f w1 σ G H G1 H1 N hx h ce hv hm2 hN hX hR => ?_) (fun z1 σ G H eo h => ?_)
  · obtain ⟨w_law_zero_, j1, es, e, sg1, r_law_zero_⟩ := h
    subst es
    exact ⟨sg1, e.s⟩
  · clear hw hm it
    have hm := hm2
    clear hm2
    have hF1 := fun x ex => hq1 x (hR x ex)
    obtain ⟨w_law_zero_, j1, es, e, sg1, r_law_zero_⟩ := h
    subst es
    replace e := e.trans ce
    replace sg1 := sg1.trans ce.g
    replace r_law_zero_ := Rp.mono ce.g r_law_zero_
    refine g_name ?_
    have hv2 : w1 = V.int i1 := hv
    subst hv2
    clear hv
    try dsimp only
    refine st_if e.s (st_test (K := K) (se_ne (se_ixp (se_var (i := 0) (d := law_zero_) rfl r_law_zero_) (se_iv (i := 1) (d := i1) rfl)) (se_int (n := 0)))) hm (fun G1 H1 ce hm => ?_) (fun G1 H1 ce hm => ?_)
    · replace e := e.trans ce
      replace sg1 := sg1.trans ce.g
      replace r_law_zero_ := Rp.mono ce.g r_law_zero_
      try dsimp only
      exact st_retL (RR := RV K) e rvm (SE.xe (se_iv (i := 1) (d := i1) rfl)) hm hF1
    · replace e := e.trans ce
      replace sg1 := sg1.trans ce.g
      replace r_law_zero_ := Rp.mono ce.g r_law_zero_
      refine st_next ?_
      cases hm
      exact hN _ _ _ _ rfl ⟨_, _, rfl, e, sg1, r_law_zero_⟩
  · clear hw it
    subst eo
    replace hm := elim_inl hm
    obtain ⟨w_law_zero_, j1, es, e, sg1, r_law_zero_⟩ := h
    subst es
    clear sg1
    try dsimp only
    exact st_ret (RR := RV K) e rvm (SE.xe (se_int (n := 3))) hm q
theorem ok_law_lies_ (T : Txt K mg) : FnOk P w K mg base CX0 2 T.a_law_lies_ T.d_law_lies_ ["_law_row", "_law_zero", "_law_line_here", "_law_point"] (Sp4 K (RV K) Mir.law_lies_) := by
  refine T.F_law_lies_.ok sc_law_lies_ (Sp4.len rfl) (fun cdv A outer s He vs Q E hr h => ?_)
  obtain ⟨Ge, w_law_row_, w_law_zero_, w_law_line_here_, w_law_point_, law_row_, law_zero_, law_line_here_, law_point_, r, rfl, hs, r_law_row_, r_law_zero_, r_law_line_here_, r_law_point_, hm, q⟩ := h
  have e : Ext Ge He Ge He := Ext.refl hs
  unfold Mir.law_lies_ at hm
  refine ⟨_, (pss_cons (ps_set (i := 4) sc_law_lies_.nd rfl (Or.inr rfl) (pe_call (ok_law_first_ T) (hr.mono (by decide)) (by rfl) T.g_law_first_ T.F_law_first_.kp (bind_law_first_ T) .nil pass0 (pa_cons (pv 1) pa_nil))) (pss_cons (ps_asg (pe_lc (own := [("_law_k", 10)]) (by rfl) sc_law_lies_.nd (pi_range1 (by rfl) T.n_range (pa_cons pe_int pa_nil)) (blkOk_by (own := [("_law_k", 10)]) (N := N_law_lies_) (sc := defScope s_law_lies_) (by decide +kernel)) (fun _ _ _ _ _ => pg_name (i := 10) sc_law_lies_.nd rfl (Or.inl rfl)) (fun _ _ _ _ _ => pts_one (pt_cmpR op_ne (pv 10) (pv 4) (nomark _))) (fun _ _ _ _ _ => (pv 10))) (pg_unl rfl (pgs_cons (pg_name (i := 5) sc_law_lies_.nd rfl (Or.inl rfl)) (pgs_cons (pg_name (i := 6) sc_law_lies_.nd rfl (Or.inl rfl)) pgs_nil)))) (pss_cons (ps_set (i := 7) sc_law_lies_.nd rfl (Or.inl rfl) (pe_op op_sub (pe_op op_mulZ (pe_ix ix_list (pv 3) (pv 5) (fun _ _ => rfl)) (pe_ix ix_list (pv 1) (pv 4) (fun _ _ => rfl))) (pe_op op_mulZ (pe_ix ix_list (pv 1) (pv 5) (fun _ _ => rfl)) (pe_ix ix_list (pv 3) (pv 4) (fun _ _ => rfl))))) (pss_cons (ps_set (i := 8) sc_law_lies_.nd rfl (Or.inl rfl) (pe_op op_sub (pe_op op_mulZ (pe_ix ix_list (pv 3) (pv 6) (fun _ _ => rfl)) (pe_ix ix_list (pv 1) (pv 4) (fun _ _ => rfl))) (pe_op op_mulZ (pe_ix ix_list (pv 1) (pv 6) (fun _ _ => rfl)) (pe_ix ix_list (pv 3) (pv 4) (fun _ _ => rfl))))) (pss_cons (ps_if (PW.pt (pw_and (pt_cmpR op_eq (pv 7) pe_int (nomark _)) (pw_and1 (pt_cmpR op_eq (pv 8) pe_int (nomark _))))) (pss_cons (ps_set (i := 9) sc_law_lies_.nd rfl (Or.inl rfl) (pe_op op_mulZ (pe_op op_mulZ (pe_ix ix_list (pv 0) (pv 5) (fun _ _ => rfl)) (pe_ix ix_list (pv 1) (pv 5) (fun _ _ => rfl))) (pe_ix ix_tup (pv 2) pe_int (fun _ _ => rfl)))) (pss_one (ps_ret (pe_cmpR op_eq (pe_op op_add (pv 9) (pe_op op_mulZ (pe_op op_mulZ (pe_ix ix_list (pv 0) (pv 6) (fun _ _ => rfl)) (pe_ix ix_list (pv 1) (pv 6) (fun _ _ => rfl))) (pe_ix ix_tup (pv 2) pe_int (fun _ _ => rfl)))) pe_int (nomark _))))) pss_nil) (pss_one (ps_ret (pe_cmpR op_eq (pe_op op_mulZ (pv 7) (pe_ix ix_tup (pv 2) pe_int (fun _ _ => rfl))) (pe_op op_mulZ (pv 8) (pe_ix ix_tup (pv 2) pe_int (fun _ _ => rfl))) (nomark _))))))))), ?_⟩
  try dsimp only
  refine st_seq ?_
  refine st_set (K := K) e.s (XE.se (xe_call1p rvm (se_var (i := 1) (d := law_zero_) rfl r_law_zero_))) hm (fun law_h_ w_law_h_ G1 H1 ce r_law_h_ hm => ?_)
  replace e := e.trans ce
  replace r_law_row_ := Rp.mono ce.g r_law_row_
  replace r_law_zero_ := Rp.mono ce.g r_law_zero_
  replace r_law_line_here_ := Rp.mono ce.g r_law_line_here_
  replace r_law_point_ := Rp.mono ce.g r_law_point_
  have r_law_h_ : w_law_h_ = V.int law_h_ := r_law_h_; subst r_law_h_
  try dsimp only
  refine st_seq ?_
  refine st_unl2 (K := K) e.s (FE.se (fe_lc _ (ib_range1p (se_int (n := 3))) tg_name (fun law_k_ s1 G1 H1 ce1 ⟨w1, es1, h1⟩ => by subst es1; have h1 : w1 = V.int law_k_ := h1; subst h1; exact (st_test (K := K) (se_nep (se_iv (i := 10) (d := law_k_) rfl) (se_iv (i := 4) (d := law_h_) rfl)))) (fun law_k_ s1 G1 H1 ce1 ⟨w1, es1, h1⟩ => by subst es1; have h1 : w1 = V.int law_k_ := h1; subst h1; exact (se_iv (i := 10) (d := law_k_) rfl)))) hm (fun law_i_ law_j_ w_law_i_ w_law_j_ G1 H1 ce r_law_i_ r_law_j_ hm => ?_)
  replace e := e.trans ce
  replace r_law_row_ := Rp.mono ce.g r_law_row_
  replace r_law_zero_ := Rp.mono ce.g r_law_zero_
  replace r_law_line_here_ := Rp.mono ce.g r_law_line_here_
  replace r_law_point_ := Rp.mono ce.g r_law_point_
  have r_law_i_ : w_law_i_ = V.int law_i_ := r_law_i_; subst r_law_i_
  have r_law_j_ : w_law_j_ = V.int law_j_ := r_law_j_; subst r_law_j_
  try dsimp only
  refine st_seq ?_
  refine st_set (K := K) e.s (se_sub (se_mul (se_ixp (se_var (i := 3) (d := law_point_) rfl r_law_point_) (se_iv (i := 5) (d := law_i_) rfl)) (se_ixp (se_var (i := 1) (d := law_zero_) rfl r_law_zero_) (se_iv (i := 4) (d := law_h_) rfl))) (se_mul (se_ixp (se_var (i := 1) (d := law_zero_) rfl r_law_zero_) (se_iv (i := 5) (d := law_i_) rfl)) (se_ixp (se_var (i := 3) (d := law_point_) rfl r_law_point_) (se_iv (i := 4) (d := law_h_) rfl)))) hm (fun law_s_ w_law_s_ G1 H1 ce r_law_s_ hm => ?_)
  replace e := e.trans ce
  replace r_law_row_ := Rp.mono ce.g r_law_row_
  replace r_law_zero_ := Rp.mono ce.g r_law_zero_
  replace r_law_line_here_ := Rp.mono ce.g r_law_line_here_
  replace r_law_point_ := Rp.mono ce.g r_law_point_
  have r_law_s_ : w_law_s_ = V.int law_s_ := r_law_s_; subst r_law_s_
  try dsimp only
  refine st_seq ?_
  refine st_set (K := K) e.s (se_sub (se_mul (se_ixp (se_var (i := 3) (d := law_point_) rfl r_law_point_) (se_iv (i := 6) (d := law_j_) rfl)) (se_ixp (se_var (i := 1) (d := law_zero_) rfl r_law_zero_) (se_iv (i := 4) (d := law_h_) rfl))) (se_mul (se_ixp (se_var (i := 1) (d := law_zero_) rfl r_law_zero_) (se_iv (i := 6) (d := law_j_) rfl)) (se_ixp (se_var (i := 3) (d := law_point_) rfl r_law_point_) (se_iv (i := 4) (d := law_h_) rfl)))) hm (fun law_t_ w_law_t_ G1 H1 ce r_law_t_ hm => ?_)
  replace e := e.trans ce
  replace r_law_row_ := Rp.mono ce.g r_law_row_
  replace r_law_zero_ := Rp.mono ce.g r_law_zero_
  replace r_law_line_here_ := Rp.mono ce.g r_law_line_here_
  replace r_law_point_ := Rp.mono ce.g r_law_point_
  have r_law_t_ : w_law_t_ = V.int law_t_ := r_law_t_; subst r_law_t_
  try dsimp only
  refine st_seq ?_
  refine st_if e.s (st_andp (st_test (K := K) (se_eqp (se_iv (i := 7) (d := law_s_) rfl) (se_int (n := 0)))) (st_test (K := K) (se_eqp (se_iv (i := 8) (d := law_t_) rfl) (se_int (n := 0))))) hm (fun G1 H1 ce hm => ?_) (fun G1 H1 ce hm => ?_)
  · replace e := e.trans ce
    replace r_law_row_ := Rp.mono ce.g r_law_row_
    replace r_law_zero_ := Rp.mono ce.g r_law_zero_
    replace r_law_line_here_ := Rp.mono ce.g r_law_line_here_
    replace r_law_point_ := Rp.mono ce.g r_law_point_
    try dsimp only
    refine st_seq ?_
    refine st_set (K := K) e.s (se_mul (se_mul (se_ixp (se_var (i := 0) (d := law_row_) rfl r_law_row_) (se_iv (i := 5) (d := law_i_) rfl)) (se_ixp (se_var (i := 1) (d := law_zero_) rfl r_law_zero_) (se_iv (i := 5) (d := law_i_) rfl))) (se_t2_0p (se_var (i := 2) (d := law_line_here_) rfl r_law_line_here_))) hm (fun law_both_ w_law_both_ G1 H1 ce r_law_both_ hm => ?_)
    replace e := e.trans ce
    replace r_law_row_ := Rp.mono ce.g r_law_row_
    replace r_law_zero_ := Rp.mono ce.g r_law_zero_
    replace r_law_line_here_ := Rp.mono ce.g r_law_line_here_
    replace r_law_point_ := Rp.mono ce.g r_law_point_
    have r_law_both_ : w_law_both_ = V.int law_both_ := r_law_both_; subst r_law_both_
    try dsimp only
    exact st_ret (RR := RV K) e rvm (SE.xe (se_eq (se_add (se_iv (i := 9) (d := law_both_) rfl) (se_mul (se_mul (se_ixp (se_var (i := 0) (d := law_row_) rfl r_law_row_) (se_iv (i := 6) (d := law_j_) rfl)) (se_ixp (se_var (i := 1) (d := law_zero_) rfl r_law_zero_) (se_iv (i := 6) (d := law_j_) rfl))) (se_t2_1p (se_var (i := 2) (d := law_line_here_) rfl r_law_line_here_)))) (se_int (n := 0)))) hm q
  · replace e := e.trans ce
    replace r_law_row_ := Rp.mono ce.g r_law_row_
    replace r_law_zero_ := Rp.mono ce.g r_law_zero_
    replace r_law_line_here_ := Rp.mono ce.g r_law_line_here_
    replace r_law_point_ := Rp.mono ce.g r_law_point_
    refine st_next ?_
    try dsimp only
    exact st_ret (RR := RV K) e rvm (SE.xe (se_eq (se_mulp (se_iv (i := 7) (d := law_s_) rfl) (se_t2_1p (se_var (i := 2) (d := law_line_here_) rfl r_law_line_here_))) (se_mulp (se_iv (i := 8) (d := law_t_) rfl) (se_t2_0p (se_var (i := 2) (d := law_line_here_) rfl r_law_line_here_))))) hm q
theorem ok_line_of_ (T : Txt K mg) : FnOk P w K mg base CX0 4 T.a_line_of_ T.d_line_of_ ["row", "zero", "point"] (Sp3 K (RV K) Mir.line_of_) := by
  refine T.F_line_of_.ok sc_line_of_ (Sp3.len rfl) (fun cdv A outer s He vs Q E hr h => ?_)
  obtain ⟨Ge, w_row_, w_zero_, w_point_, row_, zero_, point_, r, rfl, hs, r_row_, r_zero_, r_point_, hm, q⟩ := h
  have e : Ext Ge He Ge He := Ext.refl hs
  unfold Mir.line_of_ at hm
  refine ⟨_, (pss_cons (ps_expr (pe_call (ok_must_be_row_ T) (hr.mono (by decide)) (by rfl) T.g_must_be_row_ T.F_must_be_row_.kp (bind_must_be_row_ T) .nil pass0 (pa_cons (pv 0) pa_nil))) (pss_cons (ps_asg (pe_call (ok_seat_ T) (hr.mono (by decide)) (by rfl) T.g_seat_ T.F_seat_.kp (bind_seat_ T) .nil pass0 (pa_cons (pv 1) pa_nil)) (pg_tup rfl (pgs_cons (pg_name (i := 3) sc_line_of_.nd rfl (Or.inl rfl)) (pgs_cons (pg_name (i := 4) sc_line_of_.nd rfl (Or.inl rfl)) (pgs_cons (pg_name (i := 5) sc_line_of_.nd rfl (Or.inl rfl)) pgs_nil))))) (pss_cons (ps_set (i := 6) sc_line_of_.nd rfl (Or.inl rfl) (pe_op op_sub (pe_op op_mulZ (pe_ix ix_list (pv 2) (pv 4) (fun _ _ => rfl)) (pe_ix ix_list (pv 1) (pv 3) (fun _ _ => rfl))) (pe_op op_mulZ (pe_ix ix_list (pv 1) (pv 4) (fun _ _ => rfl)) (pe_ix ix_list (pv 2) (pv 3) (fun _ _ => rfl))))) (pss_cons (ps_set (i := 7) sc_line_of_.nd rfl (Or.inl rfl) (pe_op op_sub (pe_op op_mulZ (pe_ix ix_list (pv 2) (pv 5) (fun _ _ => rfl)) (pe_ix ix_list (pv 1) (pv 3) (fun _ _ => rfl))) (pe_op op_mulZ (pe_ix ix_list (pv 1) (pv 5) (fun _ _ => rfl)) (pe_ix ix_list (pv 2) (pv 3) (fun _ _ => rfl))))) (pss_cons (ps_if (PW.pt (pw_and (pt_cmpR op_eq (pv 6) pe_int (nomark _)) (pw_and1 (pt_cmpR op_eq (pv 7) pe_int (nomark _))))) (pss_cons (ps_set (i := 6) sc_line_of_.nd rfl (Or.inl rfl) (pe_op op_mulZ (pe_ix ix_list (pv 0) (pv 5) (fun _ _ => rfl)) (pe_ix ix_list (pv 1) (pv 5) (fun _ _ => rfl)))) (pss_one (ps_set (i := 7) sc_line_of_.nd rfl (Or.inl rfl) (pe_op op_sub pe_int (pe_op op_mulZ (pe_ix ix_list (pv 0) (pv 4) (fun _ _ => rfl)) (pe_ix ix_list (pv 1) (pv 4) (fun _ _ => rfl))))))) pss_nil) (pss_one (ps_ret (pe_callTy call_tuple_of (by rfl) T.n_tuple (by decide +kernel) (pa_cons (pe_call (ok_signed_ T) (hr.mono (by decide)) (by rfl) T.g_signed_ T.F_signed_.kp (bind_signed_ T) .nil pass0 (pa_cons (pe_lst (pa_cons (pv 6) (pa_cons (pv 7) pa_nil))) pa_nil)) pa_nil))))))))), ?_⟩
  try dsimp only
  refine st_seq ?_
  refine st_drop2 (K := K) e.s (XE.se (xe_call1p rvm (se_var (i := 0) (d := row_) rfl r_row_))) hm (fun u1 G1 H1 ce hm => ?_)
  replace e := e.trans ce
  replace r_row_ := Rp.mono ce.g r_row_
  replace r_zero_ := Rp.mono ce.g r_zero_
  replace r_point_ := Rp.mono ce.g r_point_
  try dsimp only
  refine st_seq ?_
  refine st_un3 (K := K) e.s (XE.se (xe_call1p rvm (se_var (i := 1) (d := zero_) rfl r_zero_))) hm (fun t2 w_h_ w_i_ w_j_ G1 H1 ce r_h_ r_i_ r_j_ hm => ?_)
  replace e := e.trans ce
  replace r_row_ := Rp.mono ce.g r_row_
  replace r_zero_ := Rp.mono ce.g r_zero_
  replace r_point_ := Rp.mono ce.g r_point_
  have r_h_ : w_h_ = V.int t2.a := r_h_; subst r_h_
  have r_i_ : w_i_ = V.int t2.b := r_i_; subst r_i_
  have r_j_ : w_j_ = V.int t2.c := r_j_; subst r_j_
  try dsimp only
  refine st_seq ?_
  refine st_set (K := K) e.s (se_sub (se_mul (se_ixp (se_var (i := 2) (d := point_) rfl r_point_) (se_iv (i := 4) (d := t2.b) rfl)) (se_ixp (se_var (i := 1) (d := zero_) rfl r_zero_) (se_iv (i := 3) (d := t2.a) rfl))) (se_mul (se_ixp (se_var (i := 1) (d := zero_) rfl r_zero_) (se_iv (i := 4) (d := t2.b) rfl)) (se_ixp (se_var (i := 2) (d := point_) rfl r_point_) (se_iv (i := 3) (d := t2.a) rfl)))) hm (fun s_ w_s_ G1 H1 ce r_s_ hm => ?_)
  replace e := e.trans ce
  replace r_row_ := Rp.mono ce.g r_row_
  replace r_zero_ := Rp.mono ce.g r_zero_
  replace r_point_ := Rp.mono ce.g r_point_
  have r_s_ : w_s_ = V.int s_ := r_s_; subst r_s_
  try dsimp only
  refine st_seq ?_
  refine st_set (K := K) e.s (se_sub (se_mul (se_ixp (se_var (i := 2) (d := point_) rfl r_point_) (se_iv (i := 5) (d := t2.c) rfl)) (se_ixp (se_var (i := 1) (d := zero_) rfl r_zero_) (se_iv (i := 3) (d := t2.a) rfl))) (se_mul (se_ixp (se_var (i := 1) (d := zero_) rfl r_zero_) (se_iv (i := 5) (d := t2.c) rfl)) (se_ixp (se_var (i := 2) (d := point_) rfl r_point_) (se_iv (i := 3) (d := t2.a) rfl)))) hm (fun t_ w_t_ G1 H1 ce r_t_ hm => ?_)
  replace e := e.trans ce
  replace r_row_ := Rp.mono ce.g r_row_
  replace r_zero_ := Rp.mono ce.g r_zero_
  replace r_point_ := Rp.mono ce.g r_point_
  have r_t_ : w_t_ = V.int t_ := r_t_; subst r_t_
  try dsimp only
  refine st_seq ?_
  obtain ⟨s3, hA, hm⟩ := bind_some hm
  refine st_join (fun σ H => ∃ G, ∃ (w_row_ : V) (w_zero_ : V) (w_point_ : V), σ = [some w_row_, some w_zero_, some w_point_, some (V.int t2.a), some (V.int t2.b), some (V.int t2.c), some (V.int s3.1), some (V.int s3.2)] ∧ Ext Ge He G H ∧ rep K G w_row_ row_ ∧ rep K G w_zero_ zero_ ∧ rep K G w_point_ point_) (fun σ H h => ?_) (fun N hN => ?_)
  · obtain ⟨G, w_row_, w_zero_, w_point_, es, e, r_row_, r_zero_, r_point_⟩ := h
    subst es
    try dsimp only
    exact st_ret (RR := RV K) e rvm (SE.xe (se_tupleOf (XE.se (xe_call1p rvm (FE.se (fe_lst (la_consp (se_iv (i := 6) (d := s3.1) rfl) (la_consp (se_iv (i := 7) (d := s3.2) rfl) la_nil)))))))) hm q
  · clear hm
    refine st_if e.s (st_andp (st_test (K := K) (se_eqp (se_iv (i := 6) (d := s_) rfl) (se_int (n := 0)))) (st_test (K := K) (se_eqp (se_iv (i := 7) (d := t_) rfl) (se_int (n := 0))))) hA (fun G1 H1 ce hm => ?_) (fun G1 H1 ce hm => ?_)
    · replace e := e.trans ce
      replace r_row_ := Rp.mono ce.g r_row_
      replace r_zero_ := Rp.mono ce.g r_zero_
      replace r_point_ := Rp.mono ce.g r_point_
      try dsimp only
      refine st_seq ?_
      refine st_set (K := K) e.s (se_mul (se_ixp (se_var (i := 0) (d := row_) rfl r_row_) (se_iv (i := 5) (d := t2.c) rfl)) (se_ixp (se_var (i := 1) (d := zero_) rfl r_zero_) (se_iv (i := 5) (d := t2.c) rfl))) hm (fun s_ w_s_ G1 H1 ce r_s_ hm => ?_)
      replace e := e.trans ce
      replace r_row_ := Rp.mono ce.g r_row_
      replace r_zero_ := Rp.mono ce.g r_zero_
      replace r_point_ := Rp.mono ce.g r_point_
      have r_s_ : w_s_ = V.int s_ := r_s_; subst r_s_
      try dsimp only
      refine st_set (K := K) e.s (se_sub (se_int (n := 0)) (se_mul (se_ixp (se_var (i := 0) (d := row_) rfl r_row_) (se_iv (i := 4) (d := t2.b) rfl)) (se_ixp (se_var (i := 1) (d := zero_) rfl r_zero_) (se_iv (i := 4) (d := t2.b) rfl)))) hm (fun t_ w_t_ G1 H1 ce r_t_ hm => ?_)
      replace e := e.trans ce
      replace r_row_ := Rp.mono ce.g r_row_
      replace r_zero_ := Rp.mono ce.g r_zero_
      replace r_point_ := Rp.mono ce.g r_point_
      have r_t_ : w_t_ = V.int t_ := r_t_; subst r_t_
      cases hm
      exact hN _ _ ⟨_, _, _, _, rfl, e, r_row_, r_zero_, r_point_⟩
    · replace e := e.trans ce
      replace r_row_ := Rp.mono ce.g r_row_
      replace r_zero_ := Rp.mono ce.g r_zero_
      replace r_point_ := Rp.mono ce.g r_point_
      refine st_next ?_
      cases hm
      exact hN _ _ ⟨_, _, _, _, rfl, e, r_row_, r_zero_, r_point_⟩
theorem ok_law_one_ (T : Txt K mg) : FnOk P w K mg base CX0 5 T.a_law_one_ T.d_law_one_ ["_law_row", "_law_zero", "_law_line_here"] (Sp3 K (RV K) Mir.law_one_) := by
  refine T.F_law_one_.ok sc_law_one_ (Sp3.len rfl) (fun cdv A outer s He vs Q E hr h => ?_)
  obtain ⟨Ge, w_law_row_, w_law_zero_, w_law_line_here_, law_row_, law_zero_, law_line_here_, r, rfl, hs, r_law_row_, r_law_zero_, r_law_line_here_, hm, q⟩ := h
  have e : Ext Ge He Ge He := Ext.refl hs
  unfold Mir.law_one_ at hm
  refine ⟨_, (pss_cons (ps_set (i := 3) sc_law_one_.nd rfl (Or.inl rfl) (pe_lst (pa_cons (pe_callTy call_list_of (by rfl) T.n_list (by decide +kernel) (pa_cons (pv 0) pa_nil)) (pa_cons (pe_callTy call_list_of (by rfl) T.n_list (by decide +kernel) (pa_cons (pv 1) pa_nil)) pa_nil)))) (pss_cons (ps_set (i := 4) sc_law_one_.nd rfl (Or.inl rfl) (pe_call (ok_point_of_ T) (hr.mono (by decide)) (by rfl) T.g_point_of_ T.F_point_of_.kp (bind_point_of_ T) .nil pass0 (pa_cons (pe_ix ix_list (pv 3) pe_int (fun _ _ => rfl)) (pa_cons (pe_ix ix_list (pv 3) pe_int (fun _ _ => rfl)) (pa_cons (pv 2) pa_nil))))) (pss_cons (ps_if (PW.pt (pw_or (pt_not (pt_val (pe_call (ok_law_is_zero_ T) (hr.mono (by decide)) (by rfl) T.g_law_is_zero_ T.F_law_is_zero_.kp (bind_law_is_zero_ T) .nil pass0 (pa_cons (pv 0) (pa_cons (pv 4) pa_nil))))) (pw_or (pt_cmpR op_lt (pe_ix ix_list (pv 4) (pe_call (ok_law_first_ T) (hr.mono (by decide)) (by rfl) T.g_law_first_ T.F_law_first_.kp (bind_law_first_ T) .nil pass0 (pa_cons (pv 4) pa_nil)) (fun _ _ => rfl)) pe_int (nomark _)) (pw_or1 (pt_cmpR (op_neD hr.units) (pv 3) (pe_lst (pa_cons (pv 0) (pa_cons (pv 1) pa_nil))) (nomark _)))))) (pss_one (ps_ret pe_non)) pss_nil) (pss_cons (ps_if (pt_not (pt_val (pe_call (ok_law_lies_ T) (hr.mono (by decide)) (by rfl) T.g_law_lies_ T.F_law_lies_.kp (bind_law_lies_ T) .nil pass0 (pa_cons (pv 0) (pa_cons (pv 1) (pa_cons (pv 2) (pa_cons (pv 4) pa_nil))))))) (pss_one (ps_ret pe_non)) pss_nil) (pss_cons (ps_set (i := 5) sc_law_one_.nd rfl (Or.inl rfl) (pe_call (ok_line_of_ T) (hr.mono (by decide)) (by rfl) T.g_line_of_ T.F_line_of_.kp (bind_line_of_ T) .nil pass0 (pa_cons (pe_ix ix_list (pv 3) pe_int (fun _ _ => rfl)) (pa_cons (pe_ix ix_list (pv 3) pe_int (fun _ _ => rfl)) (pa_cons (pe_callTy call_list_of (by rfl) T.n_list (by decide +kernel) (pa_cons (pv 4) pa_nil)) pa_nil))))) (pss_cons (ps_if (PW.pt (pw_or (pt_not (pt_val (pe_callB call_isi (by rfl) T.n_isinstance (by decide +kernel) (pa_cons (pv 5) (pa_cons (pe_bltn (v := .ty "tuple") (by rfl) T.n_tuple (by decide +kernel) rfl) pa_nil))))) (pw_or (pt_cmpR (op_neD hr.units) (pv 5) (pv 2) (nomark _)) (pw_or1 (pt_cmpR (op_neD hr.units) (pv 3) (pe_lst (pa_cons (pv 0) (pa_cons (pv 1) pa_nil))) (nomark _)))))) (pss_one (ps_ret pe_non)) pss_nil) (pss_cons (ps_if (PW.pt (pw_or (pt_val (pe_callB call_isi (by rfl) T.n_isinstance (by decide +kernel) (pa_cons (pe_ix ix_tup (pv 5) pe_int (fun _ _ => rfl)) (pa_cons (pe_bltn (v := .ty "bool") (by rfl) T.n_bool (by decide +kernel) rfl) pa_nil)))) (pw_or1 (pt_val (pe_callB call_isi (by rfl) T.n_isinstance (by decide +kernel) (pa_cons (pe_ix ix_tup (pv 5) pe_int (fun _ _ => rfl)) (pa_cons (pe_bltn (v := .ty "bool") (by rfl) T.n_bool (by decide +kernel) rfl) pa_nil))))))) (pss_one (ps_ret pe_non)) pss_nil) (pss_one (ps_ret (pv 4)))))))))), ?_⟩
  try dsimp only
  refine st_seq ?_
  refine st_set (K := K) e.s (FE.se (fe_lst (la_consp (FE.se (fe_list (se_var (i := 0) (d := law_row_) rfl r_law_row_))) (la_consp (FE.se (fe_list (se_var (i := 1) (d := law_zero_) rfl r_law_zero_))) la_nil)))) hm (fun law_handed_ w_law_handed_ G1 H1 ce r_law_handed_ hm => ?_)
  replace e := e.trans ce
  replace r_law_row_ := Rp.mono ce.g r_law_row_
  replace r_law_zero_ := Rp.mono ce.g r_law_zero_
  replace r_law_line_here_ := Rp.mono ce.g r_law_line_here_
  try dsimp only
  refine st_seq ?_
  refine st_set (K := K) e.s (XE.se (xe_call3 rvm (se_ixp (se_var (i := 3) (d := law_handed_) rfl r_law_handed_) (se_int (n := 0))) (se_ixp (se_var (i := 3) (d := law_handed_) rfl r_law_handed_) (se_int (n := 1))) (se_var (i := 2) (d := law_line_here_) rfl r_law_line_here_))) hm (fun law_point_ w_law_point_ G1 H1 ce r_law_point_ hm => ?_)
  replace e := e.trans ce
  replace r_law_row_ := Rp.mono ce.g r_law_row_
  replace r_law_zero_ := Rp.mono ce.g r_law_zero_
  replace r_law_line_here_ := Rp.mono ce.g r_law_line_here_
  replace r_law_handed_ := Rp.mono ce.g r_law_handed_
  try dsimp only
  refine st_seq ?_
  refine st_if e.s (st_or (st_not (st_val (K := K) (XE.se (xe_call2p rvm (se_var (i := 0) (d := law_row_) rfl r_law_row_) (se_var (i := 4) (d := law_point_) rfl r_law_point_))))) (st_or (st_test (K := K) (se_lt (se_ix (se_var (i := 4) (d := law_point_) rfl r_law_point_) (XE.se (xe_call1p rvm (se_var (i := 4) (d := law_point_) rfl r_law_point_)))) (se_int (n := 0)))) (st_test (K := K) (se_neDp (se_var (i := 3) (d := law_handed_) rfl r_law_handed_) (FE.se (fe_lst (la_consp (se_var (i := 0) (d := law_row_) rfl r_law_row_) (la_consp (se_var (i := 1) (d := law_zero_) rfl r_law_zero_) la_nil)))))))) hm (fun G1 H1 ce hm => ?_) (fun G1 H1 ce hm => ?_)
  · replace e := e.trans ce
    replace r_law_row_ := Rp.mono ce.g r_law_row_
    replace r_law_zero_ := Rp.mono ce.g r_law_zero_
    replace r_law_line_here_ := Rp.mono ce.g r_law_line_here_
    replace r_law_handed_ := Rp.mono ce.g r_law_handed_
    replace r_law_point_ := Rp.mono ce.g r_law_point_
    try dsimp only
    exact st_ret (RR := RV K) e rvm (SE.xe se_none) hm q
  · replace e := e.trans ce
    replace r_law_row_ := Rp.mono ce.g r_law_row_
    replace r_law_zero_ := Rp.mono ce.g r_law_zero_
    replace r_law_line_here_ := Rp.mono ce.g r_law_line_here_
    replace r_law_handed_ := Rp.mono ce.g r_law_handed_
    replace r_law_point_ := Rp.mono ce.g r_law_point_
    refine st_next ?_
    try dsimp only
    refine st_seq ?_
    refine st_if e.s (st_not (st_val (K := K) (XE.se (xe_call4p rvm (se_var (i := 0) (d := law_row_) rfl r_law_row_) (se_var (i := 1) (d := law_zero_) rfl r_law_zero_) (se_var (i := 2) (d := law_line_here_) rfl r_law_line_here_) (se_var (i := 4) (d := law_point_) rfl r_law_point_))))) hm (fun G1 H1 ce hm => ?_) (fun G1 H1 ce hm => ?_)
    · replace e := e.trans ce
      replace r_law_row_ := Rp.mono ce.g r_law_row_
      replace r_law_zero_ := Rp.mono ce.g r_law_zero_
      replace r_law_line_here_ := Rp.mono ce.g r_law_line_here_
      replace r_law_handed_ := Rp.mono ce.g r_law_handed_
      replace r_law_point_ := Rp.mono ce.g r_law_point_
      try dsimp only
      exact st_ret (RR := RV K) e rvm (SE.xe se_none) hm q
    · replace e := e.trans ce
      replace r_law_row_ := Rp.mono ce.g r_law_row_
      replace r_law_zero_ := Rp.mono ce.g r_law_zero_
      replace r_law_line_here_ := Rp.mono ce.g r_law_line_here_
      replace r_law_handed_ := Rp.mono ce.g r_law_handed_
      replace r_law_point_ := Rp.mono ce.g r_law_point_
      refine st_next ?_
      try dsimp only
      refine st_seq ?_
      refine st_set (K := K) e.s (XE.se (xe_call3 rvm (se_ixp (se_var (i := 3) (d := law_handed_) rfl r_law_handed_) (se_int (n := 0))) (se_ixp (se_var (i := 3) (d := law_handed_) rfl r_law_handed_) (se_int (n := 1))) (FE.se (fe_list (se_var (i := 4) (d := law_point_) rfl r_law_point_))))) hm (fun law_said_ w_law_said_ G1 H1 ce r_law_said_ hm => ?_)
      replace e := e.trans ce
      replace r_law_row_ := Rp.mono ce.g r_law_row_
      replace r_law_zero_ := Rp.mono ce.g r_law_zero_
      replace r_law_line_here_ := Rp.mono ce.g r_law_line_here_
      replace r_law_handed_ := Rp.mono ce.g r_law_handed_
      replace r_law_point_ := Rp.mono ce.g r_law_point_
      try dsimp only
      refine st_seq ?_
      refine st_if e.s (st_orp (st_notp (st_val (K := K) (se_isip (se_var (i := 5) (d := law_said_) rfl r_law_said_) (by decide +kernel)))) (st_orp (st_test (K := K) (se_neDp (se_tktlp (se_var (i := 5) (d := law_said_) rfl r_law_said_)) (se_tl2p (se_var (i := 2) (d := law_line_here_) rfl r_law_line_here_)))) (st_test (K := K) (se_neDp (se_var (i := 3) (d := law_handed_) rfl r_law_handed_) (FE.se (fe_lst (la_consp (se_var (i := 0) (d := law_row_) rfl r_law_row_) (la_consp (se_var (i := 1) (d := law_zero_) rfl r_law_zero_) la_nil)))))))) hm (fun G1 H1 ce hm => ?_) (fun G1 H1 ce hm => ?_)
      · replace e := e.trans ce
        replace r_law_row_ := Rp.mono ce.g r_law_row_
        replace r_law_zero_ := Rp.mono ce.g r_law_zero_
        replace r_law_line_here_ := Rp.mono ce.g r_law_line_here_
        replace r_law_handed_ := Rp.mono ce.g r_law_handed_
        replace r_law_point_ := Rp.mono ce.g r_law_point_
        replace r_law_said_ := Rp.mono ce.g r_law_said_
        try dsimp only
        exact st_ret (RR := RV K) e rvm (SE.xe se_none) hm q
      · replace e := e.trans ce
        replace r_law_row_ := Rp.mono ce.g r_law_row_
        replace r_law_zero_ := Rp.mono ce.g r_law_zero_
        replace r_law_line_here_ := Rp.mono ce.g r_law_line_here_
        replace r_law_handed_ := Rp.mono ce.g r_law_handed_
        replace r_law_point_ := Rp.mono ce.g r_law_point_
        replace r_law_said_ := Rp.mono ce.g r_law_said_
        refine st_next ?_
        try dsimp only
        refine st_seq ?_
        refine st_if e.s (st_or (st_val (K := K) (se_isi (se_ixTp (se_tktlp (se_var (i := 5) (d := law_said_) rfl r_law_said_)) (se_int (n := 0))) (by decide +kernel))) (st_val (K := K) (se_isi (se_ixTp (se_tktlp (se_var (i := 5) (d := law_said_) rfl r_law_said_)) (se_int (n := 1))) (by decide +kernel)))) hm (fun G1 H1 ce hm => ?_) (fun G1 H1 ce hm => ?_)
        · replace e := e.trans ce
          replace r_law_row_ := Rp.mono ce.g r_law_row_
          replace r_law_zero_ := Rp.mono ce.g r_law_zero_
          replace r_law_line_here_ := Rp.mono ce.g r_law_line_here_
          replace r_law_handed_ := Rp.mono ce.g r_law_handed_
          replace r_law_point_ := Rp.mono ce.g r_law_point_
          replace r_law_said_ := Rp.mono ce.g r_law_said_
          try dsimp only
          exact st_ret (RR := RV K) e rvm (SE.xe se_none) hm q
        · replace e := e.trans ce
          replace r_law_row_ := Rp.mono ce.g r_law_row_
          replace r_law_zero_ := Rp.mono ce.g r_law_zero_
          replace r_law_line_here_ := Rp.mono ce.g r_law_line_here_
          replace r_law_handed_ := Rp.mono ce.g r_law_handed_
          replace r_law_point_ := Rp.mono ce.g r_law_point_
          replace r_law_said_ := Rp.mono ce.g r_law_said_
          refine st_next ?_
          try dsimp only
          exact st_ret (RR := RV K) e rvm (SE.xe (se_somep (se_var (i := 4) (d := law_point_) rfl r_law_point_))) hm q
theorem ok_point_of__2 (T : Txt K mg) : FnOk P w K mg base CX0 4 T.a_point_of_ T.d_point_of_ ["row", "zero", "line"] (Sp3 K (RV K) Mir.point_of__2) := by
  refine T.F_point_of_.ok sc_point_of_ (Sp3.len rfl) (fun cdv A outer s He vs Q E hr h => ?_)
  obtain ⟨Ge, w_row_, w_zero_, w_line_, row_, zero_, line_, r, rfl, hs, r_row_, r_zero_, r_line_, hm, q⟩ := h
  have e : Ext Ge He Ge He := Ext.refl hs
  unfold Mir.point_of__2 at hm
  refine ⟨_, (pss_cons (ps_expr (pe_call (ok_must_be_row_ T) (hr.mono (by decide)) (by rfl) T.g_must_be_row_ T.F_must_be_row_.kp (bind_must_be_row_ T) .nil pass0 (pa_cons (pv 0) pa_nil))) (pss_cons (ps_asg (pe_call (ok_seat_ T) (hr.mono (by decide)) (by rfl) T.g_seat_ T.F_seat_.kp (bind_seat_ T) .nil pass0 (pa_cons (pv 1) pa_nil)) (pg_tup rfl (pgs_cons (pg_name (i := 3) sc_point_of_.nd rfl (Or.inl rfl)) (pgs_cons (pg_name (i := 4) sc_point_of_.nd rfl (Or.inl rfl)) (pgs_cons (pg_name (i := 5) sc_point_of_.nd rfl (Or.inl rfl)) pgs_nil))))) (pss_cons (ps_set (i := 6) sc_point_of_.nd rfl (Or.inr rfl) (pe_lst (pa_cons pe_int (pa_cons pe_int (pa_cons pe_int pa_nil))))) (pss_cons (ps_asg (pe_ix ix_tup (pv 2) pe_int (fun _ _ => rfl)) (pg_sub (pv 6) (pv 4) set_list)) (pss_cons (ps_asg (pe_ix ix_tup (pv 2) pe_int (fun _ _ => rfl)) (pg_sub (pv 6) (pv 5) set_list)) (pss_cons (ps_set (i := 7) sc_point_of_.nd rfl (Or.inr rfl) (pe_callB (cr_sum rfl) (by rfl) T.n_sum (by decide +kernel) (pa_cons (pe_lc (own := [("k", 9)]) (by rfl) sc_point_of_.nd (pi_range1 (by rfl) T.n_range (pa_cons pe_int pa_nil)) (blkOk_by (own := [("k", 9)]) (N := N_point_of_) (sc := defScope s_point_of_) (by decide +kernel)) (fun _ _ _ _ _ => pg_name (i := 9) sc_point_of_.nd rfl (Or.inl rfl)) (fun _ _ _ _ _ => pts_nil) (fun _ _ _ _ _ => (pe_op op_mulZ (pe_op op_mulZ (pe_ix (ix_listK (K := K) rfl) (pv 0) (pv 9) (fun _ _ => rfl)) (pe_ix (ix_listK (K := K) rfl) (pv 6) (pv 9) (fun _ _ => rfl))) (pe_ix (ix_listK (K := K) rfl) (pv 6) (pv 9) (fun _ _ => rfl))))) pa_nil))) (pss_cons (ps_set (i := 8) sc_point_of_.nd rfl (Or.inr rfl) (pe_callB (cr_sum rfl) (by rfl) T.n_sum (by decide +kernel) (pa_cons (pe_lc (own := [("k", 9)]) (by rfl) sc_point_of_.nd (pi_range1 (by rfl) T.n_range (pa_cons pe_int pa_nil)) (blkOk_by (own := [("k", 9)]) (N := N_point_of_) (sc := defScope s_point_of_) (by decide +kernel)) (fun _ _ _ _ _ => pg_name (i := 9) sc_point_of_.nd rfl (Or.inl rfl)) (fun _ _ _ _ _ => pts_nil) (fun _ _ _ _ _ => (pe_op op_mulZ (pe_op op_mulZ (pe_ix (ix_listK (K := K) rfl) (pv 0) (pv 9) (fun _ _ => rfl)) (pe_ix (ix_listK (K := K) rfl) (pv 1) (pv 9) (fun _ _ => rfl))) (pe_ix (ix_listK (K := K) rfl) (pv 6) (pv 9) (fun _ _ => rfl))))) pa_nil))) (pss_one (ps_ret (pe_call (ok_signed_ T) (hr.mono (by decide)) (by rfl) T.g_signed_ T.F_signed_.kp (bind_signed_ T) .nil pass0 (pa_cons (pe_lc (own := [("k", 9)]) (by rfl) sc_point_of_.nd (pi_range1 (by rfl) T.n_range (pa_cons pe_int pa_nil)) (blkOk_by (own := [("k", 9)]) (N := N_point_of_) (sc := defScope s_point_of_) (by decide +kernel)) (fun _ _ _ _ _ => pg_name (i := 9) sc_point_of_.nd rfl (Or.inl rfl)) (fun _ _ _ _ _ => pts_nil) (fun _ _ _ _ _ => (pe_op op_sub (pe_op op_mulZ (pv 7) (pe_ix (ix_listK (K := K) rfl) (pv 1) (pv 9) (fun _ _ => rfl))) (pe_op op_mulZ (pe_op op_mulZ pe_int (pv 8)) (pe_ix (ix_listK (K := K) rfl) (pv 6) (pv 9) (fun _ _ => rfl)))))) pa_nil))))))))))), ?_⟩
  try dsimp only
  refine st_seq ?_
  refine st_drop2 (K := K) e.s (XE.se (xe_call1p rvm (se_var (i := 0) (d := row_) rfl r_row_))) hm (fun u1 G1 H1 ce hm => ?_)
  replace e := e.trans ce
  replace r_row_ := Rp.mono ce.g r_row_
  replace r_zero_ := Rp.mono ce.g r_zero_
  replace r_line_ := Rp.mono ce.g r_line_
  try dsimp only
  refine st_seq ?_
  refine st_un3 (K := K) e.s (XE.se (xe_call1p rvm (se_var (i := 1) (d := zero_) rfl r_zero_))) hm (fun t2 w_h_ w_i_ w_j_ G1 H1 ce r_h_ r_i_ r_j_ hm => ?_)
  replace e := e.trans ce
  replace r_row_ := Rp.mono ce.g r_row_
  replace r_zero_ := Rp.mono ce.g r_zero_
  replace r_line_ := Rp.mono ce.g r_line_
  have r_h_ : w_h_ = V.int t2.a := r_h_; subst r_h_
  have r_i_ : w_i_ = V.int t2.b := r_i_; subst r_i_
  have r_j_ : w_j_ = V.int t2.c := r_j_; subst r_j_
  try dsimp only
  refine st_seq ?_
  refine st_setF (K := K) e.s (fe_lst (la_consp (se_int (n := 0)) (la_consp (se_int (n := 0)) (la_consp (se_int (n := 0)) la_nil)))) hm (fun way_ p_way_ G1 H1 ce r_way_ hm => ?_)
  replace r_way_ := r_way_.up e.h
  replace e := e.trans ce
  replace r_row_ := Rp.mono ce.g r_row_
  replace r_zero_ := Rp.mono ce.g r_zero_
  replace r_line_ := Rp.mono ce.g r_line_
  try dsimp only
  refine st_seq ?_
  refine st_put (K := K) e.s rfl r_way_ (se_ixTp (se_tktlp (se_var (i := 2) (d := line_) rfl r_line_)) (se_int (n := 0))) (se_iv (i := 4) (d := t2.b) rfl) hm (fun way_ h_way_ G1 H1 ce ro g0 hm => ?_)
  replace e := e.trans ce
  replace r_row_ := Rp.mono ce.g r_row_
  replace r_zero_ := Rp.mono ce.g r_zero_
  replace r_line_ := Rp.mono ce.g r_line_
  replace e := e.put (o := h_way_) ro.z g0
  clear r_way_ g0
  have r_way_ := ro
  clear ro
  try dsimp only
  refine st_seq ?_
  refine st_put (K := K) e.s rfl r_way_ (se_ixTp (se_tktlp (se_var (i := 2) (d := line_) rfl r_line_)) (se_int (n := 1))) (se_iv (i := 5) (d := t2.c) rfl) hm (fun way_ h_way_ G1 H1 ce ro g0 hm => ?_)
  replace e := e.trans ce
  replace r_row_ := Rp.mono ce.g r_row_
  replace r_zero_ := Rp.mono ce.g r_zero_
  replace r_line_ := Rp.mono ce.g r_line_
  replace e := e.put (o := h_way_) ro.z g0
  clear r_way_ g0
  have r_way_ := ro
  clear ro
  try dsimp only
  refine st_seq ?_
  refine st_set (K := K) e.s (se_sum (FE.se (fe_map _ (ib_range1p (se_int (n := 3))) tg_name (fun k_ s3 G3 H3 ce3 ⟨w3, es3, h3⟩ => by subst es3; have h3 : w3 = V.int k_ := h3; subst h3; exact (se_mul (se_mul (se_ixp (se_var (i := 0) (d := row_) rfl (Rp.mono ce3.g r_row_)) (se_iv (i := 9) (d := k_) rfl)) (se_own_ixp (i := 6) rfl (r_way_.mono ce3) (se_iv (i := 9) (d := k_) rfl))) (se_own_ixp (i := 6) rfl (r_way_.mono ce3) (se_iv (i := 9) (d := k_) rfl))))))) hm (fun made_ w_made_ G1 H1 ce r_made_ hm => ?_)
  replace e := e.trans ce
  replace r_row_ := Rp.mono ce.g r_row_
  replace r_zero_ := Rp.mono ce.g r_zero_
  replace r_line_ := Rp.mono ce.g r_line_
  replace r_way_ := r_way_.mono ce
  have r_made_ : w_made_ = V.int made_ := r_made_; subst r_made_
  try dsimp only
  refine st_seq ?_
  refine st_set (K := K) e.s (se_sum (FE.se (fe_map _ (ib_range1p (se_int (n := 3))) tg_name (fun k_ s4 G4 H4 ce4 ⟨w4, es4, h4⟩ => by subst es4; have h4 : w4 = V.int k_ := h4; subst h4; exact (se_mul (se_mul (se_ixp (se_var (i := 0) (d := row_) rfl (Rp.mono ce4.g r_row_)) (se_iv (i := 9) (d := k_) rfl)) (se_ixp (se_var (i := 1) (d := zero_) rfl (Rp.mono ce4.g r_zero_)) (se_iv (i := 9) (d := k_) rfl))) (se_own_ixp (i := 6) rfl (r_way_.mono ce4) (se_iv (i := 9) (d := k_) rfl))))))) hm (fun both_ w_both_ G1 H1 ce r_both_ hm => ?_)
  replace e := e.trans ce
  replace r_row_ := Rp.mono ce.g r_row_
  replace r_zero_ := Rp.mono ce.g r_zero_
  replace r_line_ := Rp.mono ce.g r_line_
  replace r_way_ := r_way_.mono ce
  have r_both_ : w_both_ = V.int both_ := r_both_; subst r_both_
  try dsimp only
  exact st_ret (RR := RV K) e rvm (SE.xe (XE.se (xe_call1 rvm (FE.se (fe_map _ (ib_range1p (se_int (n := 3))) tg_name (fun k_ s5 G5 H5 ce5 ⟨w5, es5, h5⟩ => by subst es5; have h5 : w5 = V.int k_ := h5; subst h5; exact (se_sub (se_mul (se_iv (i := 7) (d := made_) rfl) (se_ixp (se_var (i := 1) (d := zero_) rfl (Rp.mono ce5.g r_zero_)) (se_iv (i := 9) (d := k_) rfl))) (se_mul (se_mulp (se_int (n := 2)) (se_iv (i := 8) (d := both_) rfl)) (se_own_ixp (i := 6) rfl (r_way_.mono ce5) (se_iv (i := 9) (d := k_) rfl)))))))))) hm q
theorem ok_law_lies__2 (T : Txt K mg) : FnOk P w K mg base CX0 2 T.a_law_lies_ T.d_law_lies_ ["_law_row", "_law_zero", "_law_line_here", "_law_point"] (Sp4 K (RV K) Mir.law_lies__2) := by
  refine T.F_law_lies_.ok sc_law_lies_ (Sp4.len rfl) (fun cdv A outer s He vs Q E hr h => ?_)
  obtain ⟨Ge, w_law_row_, w_law_zero_, w_law_line_here_, w_law_point_, law_row_, law_zero_, law_line_here_, law_point_, r, rfl, hs, r_law_row_, r_law_zero_, r_law_line_here_, r_law_point_, hm, q⟩ := h
  have e : Ext Ge He Ge He := Ext.refl hs
  unfold Mir.law_lies__2 at hm
  refine ⟨_, (pss_cons (ps_set (i := 4) sc_law_lies_.nd rfl (Or.inr rfl) (pe_call (ok_law_first_ T) (hr.mono (by decide)) (by rfl) T.g_law_first_ T.F_law_first_.kp (bind_law_first_ T) .nil pass0 (pa_cons (pv 1) pa_nil))) (pss_cons (ps_asg (pe_lc (own := [("_law_k", 10)]) (by rfl) sc_law_lies_.nd (pi_range1 (by rfl) T.n_range (pa_cons pe_int pa_nil)) (blkOk_by (own := [("_law_k", 10)]) (N := N_law_lies_) (sc := defScope s_law_lies_) (by decide +kernel)) (fun _ _ _ _ _ => pg_name (i := 10) sc_law_lies_.nd rfl (Or.inl rfl)) (fun _ _ _ _ _ => pts_one (pt_cmpR op_ne (pv 10) (pv 4) (nomark _))) (fun _ _ _ _ _ => (pv 10))) (pg_unl rfl (pgs_cons (pg_name (i := 5) sc_law_lies_.nd rfl (Or.inl rfl)) (pgs_cons (pg_name (i := 6) sc_law_lies_.nd rfl (Or.inl rfl)) pgs_nil)))) (pss_cons (ps_set (i := 7) sc_law_lies_.nd rfl (Or.inl rfl) (pe_op op_sub (pe_op op_mulZ (pe_ix ix_list (pv 3) (pv 5) (fun _ _ => rfl)) (pe_ix ix_list (pv 1) (pv 4) (fun _ _ => rfl))) (pe_op op_mulZ (pe_ix ix_list (pv 1) (pv 5) (fun _ _ => rfl)) (pe_ix ix_list (pv 3) (pv 4) (fun _ _ => rfl))))) (pss_cons (ps_set (i := 8) sc_law_lies_.nd rfl (Or.inl rfl) (pe_op op_sub (pe_op op_mulZ (pe_ix ix_list (pv 3) (pv 6) (fun _ _ => rfl)) (pe_ix ix_list (pv 1) (pv 4) (fun _ _ => rfl))) (pe_op op_mulZ (pe_ix ix_list (pv 1) (pv 6) (fun _ _ => rfl)) (pe_ix ix_list (pv 3) (pv 4) (fun _ _ => rfl))))) (pss_cons (ps_if (PW.pt (pw_and (pt_cmpR op_eq (pv 7) pe_int (nomark _)) (pw_and1 (pt_cmpR op_eq (pv 8) pe_int (nomark _))))) (pss_cons (ps_set (i := 9) sc_law_lies_.nd rfl (Or.inl rfl) (pe_op op_mulZ (pe_op op_mulZ (pe_ix ix_list (pv 0) (pv 5) (fun _ _ => rfl)) (pe_ix ix_list (pv 1) (pv 5) (fun _ _ => rfl))) (pe_ix ix_tup (pv 2) pe_int (fun _ _ => rfl)))) (pss_one (ps_ret (pe_cmpR op_eq (pe_op op_add (pv 9) (pe_op op_mulZ (pe_op op_mulZ (pe_ix ix_list (pv 0) (pv 6) (fun _ _ => rfl)) (pe_ix ix_list (pv 1) (pv 6) (fun _ _ => rfl))) (pe_ix ix_tup (pv 2) pe_int (fun _ _ => rfl)))) pe_int (nomark _))))) pss_nil) (pss_one (ps_ret (pe_cmpR op_eq (pe_op op_mulZ (pv 7) (pe_ix ix_tup (pv 2) pe_int (fun _ _ => rfl))) (pe_op op_mulZ (pv 8) (pe_ix ix_tup (pv 2) pe_int (fun _ _ => rfl))) (nomark _))))))))), ?_⟩
  try dsimp only
  refine st_seq ?_
  refine st_set (K := K) e.s (XE.se (xe_call1p rvm (se_var (i := 1) (d := law_zero_) rfl r_law_zero_))) hm (fun law_h_ w_law_h_ G1 H1 ce r_law_h_ hm => ?_)
  replace e := e.trans ce
  replace r_law_row_ := Rp.mono ce.g r_law_row_
  replace r_law_zero_ := Rp.mono ce.g r_law_zero_
  replace r_law_line_here_ := Rp.mono ce.g r_law_line_here_
  replace r_law_point_ := Rp.mono ce.g r_law_point_
  have r_law_h_ : w_law_h_ = V.int law_h_ := r_law_h_; subst r_law_h_
  try dsimp only
  refine st_seq ?_
  refine st_unl2 (K := K) e.s (FE.se (fe_lc _ (ib_range1p (se_int (n := 3))) tg_name (fun law_k_ s1 G1 H1 ce1 ⟨w1, es1, h1⟩ => by subst es1; have h1 : w1 = V.int law_k_ := h1; subst h1; exact (st_test (K := K) (se_nep (se_iv (i := 10) (d := law_k_) rfl) (se_iv (i := 4) (d := law_h_) rfl)))) (fun law_k_ s1 G1 H1 ce1 ⟨w1, es1, h1⟩ => by subst es1; have h1 : w1 = V.int law_k_ := h1; subst h1; exact (se_iv (i := 10) (d := law_k_) rfl)))) hm (fun law_i_ law_j_ w_law_i_ w_law_j_ G1 H1 ce r_law_i_ r_law_j_ hm => ?_)
  replace e := e.trans ce
  replace r_law_row_ := Rp.mono ce.g r_law_row_
  replace r_law_zero_ := Rp.mono ce.g r_law_zero_
  replace r_law_line_here_ := Rp.mono ce.g r_law_line_here_
  replace r_law_point_ := Rp.mono ce.g r_law_point_
  have r_law_i_ : w_law_i_ = V.int law_i_ := r_law_i_; subst r_law_i_
  have r_law_j_ : w_law_j_ = V.int law_j_ := r_law_j_; subst r_law_j_
  try dsimp only
  refine st_seq ?_
  refine st_set (K := K) e.s (se_sub (se_mul (se_ixp (se_var (i := 3) (d := law_point_) rfl r_law_point_) (se_iv (i := 5) (d := law_i_) rfl)) (se_ixp (se_var (i := 1) (d := law_zero_) rfl r_law_zero_) (se_iv (i := 4) (d := law_h_) rfl))) (se_mul (se_ixp (se_var (i := 1) (d := law_zero_) rfl r_law_zero_) (se_iv (i := 5) (d := law_i_) rfl)) (se_ixp (se_var (i := 3) (d := law_point_) rfl r_law_point_) (se_iv (i := 4) (d := law_h_) rfl)))) hm (fun law_s_ w_law_s_ G1 H1 ce r_law_s_ hm => ?_)
  replace e := e.trans ce
  replace r_law_row_ := Rp.mono ce.g r_law_row_
  replace r_law_zero_ := Rp.mono ce.g r_law_zero_
  replace r_law_line_here_ := Rp.mono ce.g r_law_line_here_
  replace r_law_point_ := Rp.mono ce.g r_law_point_
  have r_law_s_ : w_law_s_ = V.int law_s_ := r_law_s_; subst r_law_s_
  try dsimp only
  refine st_seq ?_
  refine st_set (K := K) e.s (se_sub (se_mul (se_ixp (se_var (i := 3) (d := law_point_) rfl r_law_point_) (se_iv (i := 6) (d := law_j_) rfl)) (se_ixp (se_var (i := 1) (d := law_zero_) rfl r_law_zero_) (se_iv (i := 4) (d := law_h_) rfl))) (se_mul (se_ixp (se_var (i := 1) (d := law_zero_) rfl r_law_zero_) (se_iv (i := 6) (d := law_j_) rfl)) (se_ixp (se_var (i := 3) (d := law_point_) rfl r_law_point_) (se_iv (i := 4) (d := law_h_) rfl)))) hm (fun law_t_ w_law_t_ G1 H1 ce r_law_t_ hm => ?_)
  replace e := e.trans ce
  replace r_law_row_ := Rp.mono ce.g r_law_row_
  replace r_law_zero_ := Rp.mono ce.g r_law_zero_
  replace r_law_line_here_ := Rp.mono ce.g r_law_line_here_
  replace r_law_point_ := Rp.mono ce.g r_law_point_
  have r_law_t_ : w_law_t_ = V.int law_t_ := r_law_t_; subst r_law_t_
  try dsimp only
  refine st_seq ?_
  refine st_if e.s (st_andp (st_test (K := K) (se_eqp (se_iv (i := 7) (d := law_s_) rfl) (se_int (n := 0)))) (st_test (K := K) (se_eqp (se_iv (i := 8) (d := law_t_) rfl) (se_int (n := 0))))) hm (fun G1 H1 ce hm => ?_) (fun G1 H1 ce hm => ?_)
  · replace e := e.trans ce
    replace r_law_row_ := Rp.mono ce.g r_law_row_
    replace r_law_zero_ := Rp.mono ce.g r_law_zero_
    replace r_law_line_here_ := Rp.mono ce.g r_law_line_here_
    replace r_law_point_ := Rp.mono ce.g r_law_point_
    try dsimp only
    refine st_seq ?_
    refine st_set (K := K) e.s (se_mul (se_mul (se_ixp (se_var (i := 0) (d := law_row_) rfl r_law_row_) (se_iv (i := 5) (d := law_i_) rfl)) (se_ixp (se_var (i := 1) (d := law_zero_) rfl r_law_zero_) (se_iv (i := 5) (d := law_i_) rfl))) (se_ixTp (se_tktlp (se_var (i := 2) (d := law_line_here_) rfl r_law_line_here_)) (se_int (n := 0)))) hm (fun law_both_ w_law_both_ G1 H1 ce r_law_both_ hm => ?_)
    replace e := e.trans ce
    replace r_law_row_ := Rp.mono ce.g r_law_row_
    replace r_law_zero_ := Rp.mono ce.g r_law_zero_
    replace r_law_line_here_ := Rp.mono ce.g r_law_line_here_
    replace r_law_point_ := Rp.mono ce.g r_law_point_
    have r_law_both_ : w_law_both_ = V.int law_both_ := r_law_both_; subst r_law_both_
    try dsimp only
    exact st_ret (RR := RV K) e rvm (SE.xe (se_eq (se_add (se_iv (i := 9) (d := law_both_) rfl) (se_mul (se_mul (se_ixp (se_var (i := 0) (d := law_row_) rfl r_law_row_) (se_iv (i := 6) (d := law_j_) rfl)) (se_ixp (se_var (i := 1) (d := law_zero_) rfl r_law_zero_) (se_iv (i := 6) (d := law_j_) rfl))) (se_ixTp (se_tktlp (se_var (i := 2) (d := law_line_here_) rfl r_law_line_here_)) (se_int (n := 1))))) (se_int (n := 0)))) hm q
  · replace e := e.trans ce
    replace r_law_row_ := Rp.mono ce.g r_law_row_
    replace r_law_zero_ := Rp.mono ce.g r_law_zero_
    replace r_law_line_here_ := Rp.mono ce.g r_law_line_here_
    replace r_law_point_ := Rp.mono ce.g r_law_point_
    refine st_next ?_
    try dsimp only
    exact st_ret (RR := RV K) e rvm (SE.xe (se_eq (se_mul (se_iv (i := 7) (d := law_s_) rfl) (se_ixTp (se_tktlp (se_var (i := 2) (d := law_line_here_) rfl r_law_line_here_)) (se_int (n := 1)))) (se_mul (se_iv (i := 8) (d := law_t_) rfl) (se_ixTp (se_tktlp (se_var (i := 2) (d := law_line_here_) rfl r_law_line_here_)) (se_int (n := 0)))))) hm q
theorem ok_law_one__2 (T : Txt K mg) : FnOk P w K mg base CX0 5 T.a_law_one_ T.d_law_one_ ["_law_row", "_law_zero", "_law_line_here"] (Sp3 K (RV K) Mir.law_one__2) := by
  refine T.F_law_one_.ok sc_law_one_ (Sp3.len rfl) (fun cdv A outer s He vs Q E hr h => ?_)
  obtain ⟨Ge, w_law_row_, w_law_zero_, w_law_line_here_, law_row_, law_zero_, law_line_here_, r, rfl, hs, r_law_row_, r_law_zero_, r_law_line_here_, hm, q⟩ := h
  have e : Ext Ge He Ge He := Ext.refl hs
  unfold Mir.law_one__2 at hm
  refine ⟨_, (pss_cons (ps_set (i := 3) sc_law_one_.nd rfl (Or.inl rfl) (pe_lst (pa_cons (pe_callTy call_list_of (by rfl) T.n_list (by decide +kernel) (pa_cons (pv 0) pa_nil)) (pa_cons (pe_callTy call_list_of (by rfl) T.n_list (by decide +kernel) (pa_cons (pv 1) pa_nil)) pa_nil)))) (pss_cons (ps_set (i := 4) sc_law_one_.nd rfl (Or.inl rfl) (pe_call (ok_point_of__2 T) (hr.mono (by decide)) (by rfl) T.g_point_of_ T.F_point_of_.kp (bind_point_of_ T) .nil pass0 (pa_cons (pe_ix ix_list (pv 3) pe_int (fun _ _ => rfl)) (pa_cons (pe_ix ix_list (pv 3) pe_int (fun _ _ => rfl)) (pa_cons (pv 2) pa_nil))))) (pss_cons (ps_if (PW.pt (pw_or (pt_not (pt_val (pe_call (ok_law_is_zero_ T) (hr.mono (by decide)) (by rfl) T.g_law_is_zero_ T.F_law_is_zero_.kp (bind_law_is_zero_ T) .nil pass0 (pa_cons (pv 0) (pa_cons (pv 4) pa_nil))))) (pw_or (pt_cmpR op_lt (pe_ix ix_list (pv 4) (pe_call (ok_law_first_ T) (hr.mono (by decide)) (by rfl) T.g_law_first_ T.F_law_first_.kp (bind_law_first_ T) .nil pass0 (pa_cons (pv 4) pa_nil)) (fun _ _ => rfl)) pe_int (nomark _)) (pw_or1 (pt_cmpR (op_neD hr.units) (pv 3) (pe_lst (pa_cons (pv 0) (pa_cons (pv 1) pa_nil))) (nomark _)))))) (pss_one (ps_ret pe_non)) pss_nil) (pss_cons (ps_if (pt_not (pt_val (pe_call (ok_law_lies__2 T) (hr.mono (by decide)) (by rfl) T.g_law_lies_ T.F_law_lies_.kp (bind_law_lies_ T) .nil pass0 (pa_cons (pv 0) (pa_cons (pv 1) (pa_cons (pv 2) (pa_cons (pv 4) pa_nil))))))) (pss_one (ps_ret pe_non)) pss_nil) (pss_cons (ps_set (i := 5) sc_law_one_.nd rfl (Or.inl rfl) (pe_call (ok_line_of_ T) (hr.mono (by decide)) (by rfl) T.g_line_of_ T.F_line_of_.kp (bind_line_of_ T) .nil pass0 (pa_cons (pe_ix ix_list (pv 3) pe_int (fun _ _ => rfl)) (pa_cons (pe_ix ix_list (pv 3) pe_int (fun _ _ => rfl)) (pa_cons (pe_callTy call_list_of (by rfl) T.n_list (by decide +kernel) (pa_cons (pv 4) pa_nil)) pa_nil))))) (pss_cons (ps_if (PW.pt (pw_or (pt_not (pt_val (pe_callB call_isi (by rfl) T.n_isinstance (by decide +kernel) (pa_cons (pv 5) (pa_cons (pe_bltn (v := .ty "tuple") (by rfl) T.n_tuple (by decide +kernel) rfl) pa_nil))))) (pw_or (pt_cmpR (op_neD hr.units) (pv 5) (pv 2) (nomark _)) (pw_or1 (pt_cmpR (op_neD hr.units) (pv 3) (pe_lst (pa_cons (pv 0) (pa_cons (pv 1) pa_nil))) (nomark _)))))) (pss_one (ps_ret pe_non)) pss_nil) (pss_cons (ps_if (PW.pt (pw_or (pt_val (pe_callB call_isi (by rfl) T.n_isinstance (by decide +kernel) (pa_cons (pe_ix ix_tup (pv 5) pe_int (fun _ _ => rfl)) (pa_cons (pe_bltn (v := .ty "bool") (by rfl) T.n_bool (by decide +kernel) rfl) pa_nil)))) (pw_or1 (pt_val (pe_callB call_isi (by rfl) T.n_isinstance (by decide +kernel) (pa_cons (pe_ix ix_tup (pv 5) pe_int (fun _ _ => rfl)) (pa_cons (pe_bltn (v := .ty "bool") (by rfl) T.n_bool (by decide +kernel) rfl) pa_nil))))))) (pss_one (ps_ret pe_non)) pss_nil) (pss_one (ps_ret (pv 4)))))))))), ?_⟩
  try dsimp only
  refine st_seq ?_
  refine st_set (K := K) e.s (FE.se (fe_lst (la_consp (FE.se (fe_list (se_var (i := 0) (d := law_row_) rfl r_law_row_))) (la_consp (FE.se (fe_list (se_var (i := 1) (d := law_zero_) rfl r_law_zero_))) la_nil)))) hm (fun law_handed_ w_law_handed_ G1 H1 ce r_law_handed_ hm => ?_)
  replace e := e.trans ce
  replace r_law_row_ := Rp.mono ce.g r_law_row_
  replace r_law_zero_ := Rp.mono ce.g r_law_zero_
  replace r_law_line_here_ := Rp.mono ce.g r_law_line_here_
  try dsimp only
  refine st_seq ?_
  refine st_set (K := K) e.s (XE.se (xe_call3 rvm (se_ixp (se_var (i := 3) (d := law_handed_) rfl r_law_handed_) (se_int (n := 0))) (se_ixp (se_var (i := 3) (d := law_handed_) rfl r_law_handed_) (se_int (n := 1))) (se_var (i := 2) (d := law_line_here_) rfl r_law_line_here_))) hm (fun law_point_ w_law_point_ G1 H1 ce r_law_point_ hm => ?_)
  replace e := e.trans ce
  replace r_law_row_ := Rp.mono ce.g r_law_row_
  replace r_law_zero_ := Rp.mono ce.g r_law_zero_
  replace r_law_line_here_ := Rp.mono ce.g r_law_line_here_
  replace r_law_handed_ := Rp.mono ce.g r_law_handed_
  try dsimp only
  refine st_seq ?_
  refine st_if e.s (st_or (st_not (st_val (K := K) (XE.se (xe_call2p rvm (se_var (i := 0) (d := law_row_) rfl r_law_row_) (se_var (i := 4) (d := law_point_) rfl r_law_point_))))) (st_or (st_test (K := K) (se_lt (se_ix (se_var (i := 4) (d := law_point_) rfl r_law_point_) (XE.se (xe_call1p rvm (se_var (i := 4) (d := law_point_) rfl r_law_point_)))) (se_int (n := 0)))) (st_test (K := K) (se_neDp (se_var (i := 3) (d := law_handed_) rfl r_law_handed_) (FE.se (fe_lst (la_consp (se_var (i := 0) (d := law_row_) rfl r_law_row_) (la_consp (se_var (i := 1) (d := law_zero_) rfl r_law_zero_) la_nil)))))))) hm (fun G1 H1 ce hm => ?_) (fun G1 H1 ce hm => ?_)
  · replace e := e.trans ce
    replace r_law_row_ := Rp.mono ce.g r_law_row_
    replace r_law_zero_ := Rp.mono ce.g r_law_zero_
    replace r_law_line_here_ := Rp.mono ce.g r_law_line_here_
    replace r_law_handed_ := Rp.mono ce.g r_law_handed_
    replace r_law_point_ := Rp.mono ce.g r_law_point_
    try dsimp only
    exact st_ret (RR := RV K) e rvm (SE.xe se_none) hm q
  · replace e := e.trans ce
    replace r_law_row_ := Rp.mono ce.g r_law_row_
    replace r_law_zero_ := Rp.mono ce.g r_law_zero_
    replace r_law_line_here_ := Rp.mono ce.g r_law_line_here_
    replace r_law_handed_ := Rp.mono ce.g r_law_handed_
    replace r_law_point_ := Rp.mono ce.g r_law_point_
    refine st_next ?_
    try dsimp only
    refine st_seq ?_
    refine st_if e.s (st_not (st_val (K := K) (XE.se (xe_call4p rvm (se_var (i := 0) (d := law_row_) rfl r_law_row_) (se_var (i := 1) (d := law_zero_) rfl r_law_zero_) (se_var (i := 2) (d := law_line_here_) rfl r_law_line_here_) (se_var (i := 4) (d := law_point_) rfl r_law_point_))))) hm (fun G1 H1 ce hm => ?_) (fun G1 H1 ce hm => ?_)
    · replace e := e.trans ce
      replace r_law_row_ := Rp.mono ce.g r_law_row_
      replace r_law_zero_ := Rp.mono ce.g r_law_zero_
      replace r_law_line_here_ := Rp.mono ce.g r_law_line_here_
      replace r_law_handed_ := Rp.mono ce.g r_law_handed_
      replace r_law_point_ := Rp.mono ce.g r_law_point_
      try dsimp only
      exact st_ret (RR := RV K) e rvm (SE.xe se_none) hm q
    · replace e := e.trans ce
      replace r_law_row_ := Rp.mono ce.g r_law_row_
      replace r_law_zero_ := Rp.mono ce.g r_law_zero_
      replace r_law_line_here_ := Rp.mono ce.g r_law_line_here_
      replace r_law_handed_ := Rp.mono ce.g r_law_handed_
      replace r_law_point_ := Rp.mono ce.g r_law_point_
      refine st_next ?_
      try dsimp only
      refine st_seq ?_
      refine st_set (K := K) e.s (XE.se (xe_call3 rvm (se_ixp (se_var (i := 3) (d := law_handed_) rfl r_law_handed_) (se_int (n := 0))) (se_ixp (se_var (i := 3) (d := law_handed_) rfl r_law_handed_) (se_int (n := 1))) (FE.se (fe_list (se_var (i := 4) (d := law_point_) rfl r_law_point_))))) hm (fun law_said_ w_law_said_ G1 H1 ce r_law_said_ hm => ?_)
      replace e := e.trans ce
      replace r_law_row_ := Rp.mono ce.g r_law_row_
      replace r_law_zero_ := Rp.mono ce.g r_law_zero_
      replace r_law_line_here_ := Rp.mono ce.g r_law_line_here_
      replace r_law_handed_ := Rp.mono ce.g r_law_handed_
      replace r_law_point_ := Rp.mono ce.g r_law_point_
      try dsimp only
      refine st_seq ?_
      refine st_if e.s (st_orp (st_notp (st_val (K := K) (se_isip (se_var (i := 5) (d := law_said_) rfl r_law_said_) (by decide +kernel)))) (st_orp (st_test (K := K) (se_neDp (se_tktlp (se_var (i := 5) (d := law_said_) rfl r_law_said_)) (se_tktlp (se_var (i := 2) (d := law_line_here_) rfl r_law_line_here_)))) (st_test (K := K) (se_neDp (se_var (i := 3) (d := law_handed_) rfl r_law_handed_) (FE.se (fe_lst (la_consp (se_var (i := 0) (d := law_row_) rfl r_law_row_) (la_consp (se_var (i := 1) (d := law_zero_) rfl r_law_zero_) la_nil)))))))) hm (fun G1 H1 ce hm => ?_) (fun G1 H1 ce hm => ?_)
      · replace e := e.trans ce
        replace r_law_row_ := Rp.mono ce.g r_law_row_
        replace r_law_zero_ := Rp.mono ce.g r_law_zero_
        replace r_law_line_here_ := Rp.mono ce.g r_law_line_here_
        replace r_law_handed_ := Rp.mono ce.g r_law_handed_
        replace r_law_point_ := Rp.mono ce.g r_law_point_
        replace r_law_said_ := Rp.mono ce.g r_law_said_
        try dsimp only
        exact st_ret (RR := RV K) e rvm (SE.xe se_none) hm q
      · replace e := e.trans ce
        replace r_law_row_ := Rp.mono ce.g r_law_row_
        replace r_law_zero_ := Rp.mono ce.g r_law_zero_
        replace r_law_line_here_ := Rp.mono ce.g r_law_line_here_
        replace r_law_handed_ := Rp.mono ce.g r_law_handed_
        replace r_law_point_ := Rp.mono ce.g r_law_point_
        replace r_law_said_ := Rp.mono ce.g r_law_said_
        refine st_next ?_
        try dsimp only
        refine st_seq ?_
        refine st_if e.s (st_or (st_val (K := K) (se_isi (se_ixTp (se_tktlp (se_var (i := 5) (d := law_said_) rfl r_law_said_)) (se_int (n := 0))) (by decide +kernel))) (st_val (K := K) (se_isi (se_ixTp (se_tktlp (se_var (i := 5) (d := law_said_) rfl r_law_said_)) (se_int (n := 1))) (by decide +kernel)))) hm (fun G1 H1 ce hm => ?_) (fun G1 H1 ce hm => ?_)
        · replace e := e.trans ce
          replace r_law_row_ := Rp.mono ce.g r_law_row_
          replace r_law_zero_ := Rp.mono ce.g r_law_zero_
          replace r_law_line_here_ := Rp.mono ce.g r_law_line_here_
          replace r_law_handed_ := Rp.mono ce.g r_law_handed_
          replace r_law_point_ := Rp.mono ce.g r_law_point_
          replace r_law_said_ := Rp.mono ce.g r_law_said_
          try dsimp only
          exact st_ret (RR := RV K) e rvm (SE.xe se_none) hm q
        · replace e := e.trans ce
          replace r_law_row_ := Rp.mono ce.g r_law_row_
          replace r_law_zero_ := Rp.mono ce.g r_law_zero_
          replace r_law_line_here_ := Rp.mono ce.g r_law_line_here_
          replace r_law_handed_ := Rp.mono ce.g r_law_handed_
          replace r_law_point_ := Rp.mono ce.g r_law_point_
          replace r_law_said_ := Rp.mono ce.g r_law_said_
          refine st_next ?_
          try dsimp only
          exact st_ret (RR := RV K) e rvm (SE.xe (se_somep (se_var (i := 4) (d := law_point_) rfl r_law_point_))) hm q
theorem ok_law_ (T : Txt K mg) : FnOk P w K mg base CX0 6 T.a_law_ T.d_law_ ["_law_script"] (Sp1 K (RV K) Mir.law_) := by
  refine T.F_law_.ok sc_law_ (Sp1.len rfl) (fun cdv A outer s He vs Q E hr h => ?_)
  obtain ⟨Ge, w_law_script_, law_script_, r, rfl, hs, r_law_script_, hm, q⟩ := h
  have e : Ext Ge He Ge He := Ext.refl hs
  unfold Mir.law_ at hm
  refine ⟨_, (pss_cons (ps_for PassesOwn.never rfl (pi_range3 (by rfl) T.n_range (pa_cons pe_int (pa_cons (pe_op op_add (pe_callB (call_min2 rfl) (by rfl) T.n_min (by decide +kernel) (pa_cons pe_int (pa_cons (pe_callB call_len_seq (by rfl) T.n_len (by decide +kernel) (pa_cons (pv 0) pa_nil)) pa_nil))) pe_int) (pa_cons pe_int pa_nil)))) (pg_name (i := 1) sc_law_.nd rfl (Or.inr rfl)) (pss_cons (ps_setLc (i := 2) (own := [("_law_j", 9)]) rfl sc_law_.nd rfl rfl (sw_true rfl rfl rfl (by decide +kernel)) (pi_range1 (by rfl) T.n_range (pa_cons pe_int pa_nil)) (blkOk_by (own := [("_law_j", 9)]) (N := N_law_) (sc := defScope s_law_) (by decide +kernel)) (fun _ _ _ _ _ => pg_name (i := 9) sc_law_.nd rfl (Or.inl rfl)) (fun _ _ _ _ _ => pts_nil) (fun _ _ _ _ _ => (pe_call (ok_law_big_ T) (hr.mono (by decide)) (by rfl) T.g_law_big_ T.F_law_big_.kp (bind_law_big_ T) .nil pass0 (pa_cons (pe_call (ok_law_cell_at_ T) (hr.mono (by decide)) (by rfl) T.g_law_cell_at_ T.F_law_cell_at_.kp (bind_law_cell_at_ T) .nil pass0 (pa_cons (pv 0) (pa_cons (pe_op op_add (pv 1) (pv 9)) pa_nil))) (pa_cons (pe_op op_add (pv 1) (pv 9)) pa_nil))))) (pss_cons (ps_asg (pe_call (ok_law_drawn_ T) (hr.mono (by decide)) (by rfl) T.g_law_drawn_ T.F_law_drawn_.kp (bind_law_drawn_ T) .nil pass0 (pa_cons (pe_ix ix_list (pv 2) pe_int (fun _ _ => rfl)) (pa_cons (pe_ix ix_list (pv 2) pe_int (fun _ _ => rfl)) pa_nil))) (pg_tup rfl (pgs_cons (pg_name (i := 3) sc_law_.nd rfl (Or.inl rfl)) (pgs_cons (pg_name (i := 4) sc_law_.nd rfl (Or.inl rfl)) pgs_nil)))) (pss_cons (ps_set (i := 5) sc_law_.nd rfl (Or.inl rfl) pe_dnewT) (pss_cons (ps_for PassesOwn.never rfl (pi_list (pe_call (ok_law_lines_ T) (hr.mono (by decide)) (by rfl) T.g_law_lines_ T.F_law_lines_.kp (bind_law_lines_ T) .nil pass0 (pa_cons (pe_ix ix_list (pv 2) pe_int (fun _ _ => rfl)) (pa_cons (pe_ix ix_list (pv 2) pe_int (fun _ _ => rfl)) pa_nil)))) (pg_name (i := 6) sc_law_.nd rfl (Or.inl rfl)) (pss_cons (ps_set (i := 7) sc_law_.nd rfl (Or.inl rfl) (pe_call (ok_law_one_ T) (hr.mono (by decide)) (by rfl) T.g_law_one_ T.F_law_one_.kp (bind_law_one_ T) .nil pass0 (pa_cons (pv 3) (pa_cons (pv 4) (pa_cons (pv 6) pa_nil))))) (pss_cons (ps_if (PW.pt (pw_or (pt_cmpR op_isN (pv 7) pe_non (nomark _)) (pw_or1 (pt_cmpR (op_neD hr.units) (pe_dget2 (hu1 hr.units) (pv 5) (pe_callTy call_tuple_of (by rfl) T.n_tuple (by decide +kernel) (pa_cons (pv 7) pa_nil)) (pv 6) ⟨rfl, rfl, rfl, rfl⟩) (pv 6) (nomark _))))) (pss_one (ps_ret pe_bl)) pss_nil) (pss_one (ps_dput (hu1 hr.units) (pv 5) (pe_callTy call_tuple_of (by rfl) T.n_tuple (by decide +kernel) (pa_cons (pv 7) pa_nil)) (pv 6) rfl))))) (pss_cons (ps_set (i := 8) sc_law_.nd rfl (Or.inl rfl) (pe_callTy call_list_of (by rfl) T.n_list (by decide +kernel) (pa_cons (pv 4) pa_nil))) (pss_cons (ps_if (pt_cmpR op_lt (pe_ix ix_list (pv 8) (pe_call (ok_law_first_ T) (hr.mono (by decide)) (by rfl) T.g_law_first_ T.F_law_first_.kp (bind_law_first_ T) .nil pass0 (pa_cons (pv 8) pa_nil)) (fun _ _ => rfl)) pe_int (nomark _)) (pss_one (ps_setLc (i := 8) (own := [("_law_number", 10)]) rfl sc_law_.nd rfl rfl (sw_true rfl rfl rfl (by decide +kernel)) (pi_list (pv 4)) (blkOk_by (own := [("_law_number", 10)]) (N := N_law_) (sc := defScope s_law_) (by decide +kernel)) (fun _ _ _ _ _ => pg_name (i := 10) sc_law_.nd rfl (Or.inl rfl)) (fun _ _ _ _ _ => pts_nil) (fun _ _ _ _ _ => (pe_op op_sub pe_int (pv 10))))) pss_nil) (pss_one (ps_if (pt_cmpR (op_neD hr.units) (pe_call (ok_law_one__2 T) (hr.mono (by decide)) (by rfl) T.g_law_one_ T.F_law_one_.kp (bind_law_one_ T) .nil pass0 (pa_cons (pv 3) (pa_cons (pv 4) (pa_cons (pe_call (ok_line_of_ T) (hr.mono (by decide)) (by rfl) T.g_line_of_ T.F_line_of_.kp (bind_line_of_ T) .nil pass0 (pa_cons (pv 3) (pa_cons (pv 4) (pa_cons (pv 8) pa_nil)))) pa_nil)))) (pv 8) (nomark _)) (pss_one (ps_ret pe_bl)) pss_nil))))))))) (pss_one (ps_ret pe_bl))), ?_⟩
  try dsimp only
  refine st_seq ?_
  refine st_for (K := K) e.s (ie_range3p (c := 3) (by decide) (se_int (n := 0)) (se_addp (se_min2p (se_int (n := 18)) (se_lenKp (se_var (i := 0) (d := law_script_) rfl r_law_script_))) (se_int (n := 1)))) hm (fun xs J Gs1 Hs1 ce it hm => ?_)
  replace e := e.trans ce
  replace r_law_script_ := Rp.mono ce.g r_law_script_
  have sg1 : Same Gs1 Gs1 := Same.refl _
  obtain ⟨o1, hw, hm⟩ := bind_some hm
  have hq1 : ∀ x, o1 = .inr x → ∀ u G' H', Ext Ge He G' H' → RV K He G' H' u x → Q u H' := fun x ex => by
    subst ex
    replace hm := elim_inr hm
    cases hm
    exact q
  refine lg_R (K := K) (fun (s1 : Unit) σ G H => ∃ (w_law_script_ : V) (j1 : Option V) (j2 : Option V) (j3 : Option V) (j4 : Option V) (j5 : Option V) (j6 : Option V) (j7 : Option V) (j8 : Option V) (j9 : Option V) (j10 : Option V), σ = [some w_law_script_, j1, j2, j3, j4, j5, j6, j7, j8, j9, j10] ∧ Ext Ge He G H ∧ Same Gs1 G ∧ rep K G w_law_script_ law_script_) it hw ⟨_, _, _, _, _, _, _, _, _, _, _, rfl, e, sg1, r_law_script_⟩ (fun s1 σ G H h => ?_) (fun s1 i1 f w1 σ G H G1 H1 N hx h ce hv hm2 hN hX hR => ?_) (fun z1 σ G H eo h => ?_)
  · obtain ⟨w_law_script_, j1, j2, j3, j4, j5, j6, j7, j8, j9, j10, es, e, sg1, r_law_script_⟩ := h
    subst es
    exact ⟨sg1, e.s⟩
  · clear hw hm it
    have hm := hm2
    clear hm2
    have hF1 := fun x ex => hq1 x (hR x ex)
    obtain ⟨w_law_script_, j1, j2, j3, j4, j5, j6, j7, j8, j9, j10, es, e, sg1, r_law_script_⟩ := h
    subst es
    replace e := e.trans ce
    replace sg1 := sg1.trans ce.g
    replace r_law_script_ := Rp.mono ce.g r_law_script_
    refine g_name ?_
    have hv2 : w1 = V.int i1 := hv
    subst hv2
    clear hv
    try dsimp only
    refine st_seq ?_
    refine st_set (K := K) e.s (FE.se (fe_map _ (ib_range1p (se_int (n := 3))) tg_name (fun law_j_ s2 G2 H2 ce2 ⟨w2, es2, h2⟩ => by subst es2; have h2 : w2 = V.int law_j_ := h2; subst h2; exact (XE.se (xe_call2 rvm (XE.se (xe_call2p rvm (se_var (i := 0) (d := law_script_) rfl (Rp.mono ce2.g r_law_script_)) (se_addp (se_iv (i := 1) (d := i1) rfl) (se_iv (i := 9) (d := law_j_) rfl)))) (se_addp (se_iv (i := 1) (d := i1) rfl) (se_iv (i := 9) (d := law_j_) rfl))))))) hm (fun law_cells_ w_law_cells_ G1 H1 ce r_law_cells_ hm => ?_)
    replace e := e.trans ce
    replace sg1 := sg1.trans ce.g
    replace r_law_script_ := Rp.mono ce.g r_law_script_
    try dsimp only
    refine st_seq ?_
    refine st_un2 (K := K) e.s (XE.se (xe_call2 rvm (se_ixp (se_var (i := 2) (d := law_cells_) rfl r_law_cells_) (se_int (n := 0))) (se_ixp (se_var (i := 2) (d := law_cells_) rfl r_law_cells_) (se_int (n := 1))))) hm (fun t3 w_law_row_ w_law_zero_ G1 H1 ce r_law_row_ r_law_zero_ hm => ?_)
    replace e := e.trans ce
    replace sg1 := sg1.trans ce.g
    replace r_law_script_ := Rp.mono ce.g r_law_script_
    replace r_law_cells_ := Rp.mono ce.g r_law_cells_
    try dsimp only
    refine st_seq ?_
    refine st_setT (K := K) e.s ft_new hm (fun law_points_ p_law_points_ G1 H1 ce r_law_points_ hm => ?_)
    replace r_law_points_ := r_law_points_.up e.h
    replace e := e.trans ce
    replace sg1 := sg1.trans ce.g
    replace r_law_script_ := Rp.mono ce.g r_law_script_
    replace r_law_cells_ := Rp.mono ce.g r_law_cells_
    replace r_law_row_ := Rp.mono ce.g r_law_row_
    replace r_law_zero_ := Rp.mono ce.g r_law_zero_
    try dsimp only
    refine st_seq ?_
    refine st_for (K := K) e.s (IB.ie (ib_list (FE.se (XE.fe (xe_call2 rfm (se_ixp (se_var (i := 2) (d := law_cells_) rfl r_law_cells_) (se_int (n := 1))) (se_ixp (se_var (i := 2) (d := law_cells_) rfl r_law_cells_) (se_int (n := 2)))))))) hm (fun xs J Gs4 Hs4 ce it hm => ?_)
    replace e := e.trans ce
    replace sg1 := sg1.trans ce.g
    replace r_law_script_ := Rp.mono ce.g r_law_script_
    replace r_law_cells_ := Rp.mono ce.g r_law_cells_
    replace r_law_row_ := Rp.mono ce.g r_law_row_
    replace r_law_zero_ := Rp.mono ce.g r_law_zero_
    replace r_law_points_ := r_law_points_.mono ce
    have sg4 : Same Gs4 Gs4 := Same.refl _
    obtain ⟨o4, hw, hm⟩ := bind_some hm
    have hq4 : ∀ x, o4 = .inr x → ∀ u G' H', Ext Ge He G' H' → RV K He G' H' u x → Q u H' := fun x ex => by
      subst ex
      replace hm := elim_inr hm
      cases hm
      exact hF1 _ rfl
    refine lg_R (K := K) (fun (s4 : (DT (Int × Int))) σ G H => ∃ (w_law_script_ : V) (w_law_cells_ : V) (w_law_row_ : V) (w_law_zero_ : V) (p_law_points_ : Addr) (j6 : Option V) (j7 : Option V) (j8 : Option V) (j9 : Option V) (j10 : Option V), σ = [some w_law_script_, some (V.int i1), some w_law_cells_, some w_law_row_, some w_law_zero_, some (V.ref p_law_points_), j6, j7, j8, j9, j10] ∧ Ext Ge He G H ∧ Same Gs1 G ∧ Same Gs4 G ∧ rep K G w_law_script_ law_script_ ∧ rep K G w_law_cells_ law_cells_ ∧ rep K G w_law_row_ t3.1 ∧ rep K G w_law_zero_ t3.2 ∧ OwnT K He G H p_law_points_ s4) it hw ⟨_, _, _, _, _, _, _, _, _, _, rfl, e, sg1, sg4, r_law_script_, r_law_cells_, r_law_row_, r_law_zero_, r_law_points_⟩ (fun s4 σ G H h => ?_) (fun s4 i4 f w4 σ G H G1 H1 N hx h ce hv hm2 hN hX hR => ?_) (fun z4 σ G H eo h => ?_)
    · obtain ⟨w_law_script_, w_law_cells_, w_law_row_, w_law_zero_, p_law_points_, j6, j7, j8, j9, j10, es, e, sg1, sg4, r_law_script_, r_law_cells_, r_law_row_, r_law_zero_, r_law_points_⟩ := h
      subst es
      exact ⟨sg4, e.s⟩
    · clear hw hm it
      have hm := hm2
      clear hm2
      have hF4 := fun x ex => hq4 x (hR x ex)
      obtain ⟨w_law_script_, w_law_cells_, w_law_row_, w_law_zero_, p_law_points_, j6, j7, j8, j9, j10, es, e, sg1, sg4, r_law_script_, r_law_cells_, r_law_row_, r_law_zero_, r_law_points_⟩ := h
      subst es
      replace e := e.trans ce
      replace sg1 := sg1.trans ce.g
      replace sg4 := sg4.trans ce.g
      replace r_law_script_ := Rp.mono ce.g r_law_script_
      replace r_law_cells_ := Rp.mono ce.g r_law_cells_
      replace r_law_row_ := Rp.mono ce.g r_law_row_
      replace r_law_zero_ := Rp.mono ce.g r_law_zero_
      replace r_law_points_ := r_law_points_.mono ce
      refine g_name ?_
      have r_law_line_here_ := hv
      clear hv
      try dsimp only
      refine st_seq ?_
      refine st_set (K := K) e.s (XE.se (xe_call3p rvm (se_var (i := 3) (d := t3.1) rfl r_law_row_) (se_var (i := 4) (d := t3.2) rfl r_law_zero_) (se_var (i := 6) (d := i4) rfl r_law_line_here_))) hm (fun law_point_ w_law_point_ G1 H1 ce r_law_point_ hm => ?_)
      replace e := e.trans ce
      replace sg1 := sg1.trans ce.g
      replace sg4 := sg4.trans ce.g
      replace r_law_script_ := Rp.mono ce.g r_law_script_
      replace r_law_cells_ := Rp.mono ce.g r_law_cells_
      replace r_law_row_ := Rp.mono ce.g r_law_row_
      replace r_law_zero_ := Rp.mono ce.g r_law_zero_
      replace r_law_points_ := r_law_points_.mono ce
      replace r_law_line_here_ := Rp.mono ce.g r_law_line_here_
      try dsimp only
      refine st_seq ?_
      refine st_if e.s (stT_tmp r_law_points_ (fun tvs5_0 tsg5_0 thv5_0 => (st_or (st_test (K := K) (se_isNp (se_var (i := 7) (d := law_point_) rfl (Rp.mono tsg5_0 r_law_point_)))) (st_test (K := K) (se_neD (se_tgetD (se_var (i := 5) (d := s4) rfl thv5_0) (se_tupleOf (se_getp (se_var (i := 7) (d := law_point_) rfl (Rp.mono tsg5_0 r_law_point_)))) (se_var (i := 6) (d := i4) rfl (Rp.mono tsg5_0 r_law_line_here_))) (se_var (i := 6) (d := i4) rfl (Rp.mono tsg5_0 r_law_line_here_))))))) hm (fun G1 H1 ce hm => ?_) (fun G1 H1 ce hm => ?_)
      · replace e := e.trans ce
        replace sg1 := sg1.trans ce.g
        replace sg4 := sg4.trans ce.g
        replace r_law_script_ := Rp.mono ce.g r_law_script_
        replace r_law_cells_ := Rp.mono ce.g r_law_cells_
        replace r_law_row_ := Rp.mono ce.g r_law_row_
        replace r_law_zero_ := Rp.mono ce.g r_law_zero_
        replace r_law_points_ := r_law_points_.mono ce
        replace r_law_line_here_ := Rp.mono ce.g r_law_line_here_
        replace r_law_point_ := Rp.mono ce.g r_law_point_
        try dsimp only
        exact st_retL (RR := RV K) e rvm (SE.xe se_bl) hm hF4
      · replace e := e.trans ce
        replace sg1 := sg1.trans ce.g
        replace sg4 := sg4.trans ce.g
        replace r_law_script_ := Rp.mono ce.g r_law_script_
        replace r_law_cells_ := Rp.mono ce.g r_law_cells_
        replace r_law_row_ := Rp.mono ce.g r_law_row_
        replace r_law_zero_ := Rp.mono ce.g r_law_zero_
        replace r_law_points_ := r_law_points_.mono ce
        replace r_law_line_here_ := Rp.mono ce.g r_law_line_here_
        replace r_law_point_ := Rp.mono ce.g r_law_point_
        refine st_next ?_
        try dsimp only
        refine st_tput (K := K) e.s rfl r_law_points_ (se_var (i := 6) (d := i4) rfl r_law_line_here_) (se_tupleOf (se_getp (se_var (i := 7) (d := law_point_) rfl r_law_point_))) hm (fun law_points_ h_law_points_ G1 H1 ce ro g0 hm => ?_)
        replace e := e.trans ce
        replace sg1 := sg1.trans ce.g
        replace sg4 := sg4.trans ce.g
        replace r_law_script_ := Rp.mono ce.g r_law_script_
        replace r_law_cells_ := Rp.mono ce.g r_law_cells_
        replace r_law_row_ := Rp.mono ce.g r_law_row_
        replace r_law_zero_ := Rp.mono ce.g r_law_zero_
        replace r_law_line_here_ := Rp.mono ce.g r_law_line_here_
        replace r_law_point_ := Rp.mono ce.g r_law_point_
        replace e := e.put (o := h_law_points_) ro.z g0
        clear r_law_points_ g0
        have r_law_points_ := ro
        clear ro
        cases hm
        exact hN _ _ _ _ rfl ⟨_, _, _, _, _, _, _, _, _, _, rfl, e, sg1, sg4, r_law_script_, r_law_cells_, r_law_row_, r_law_zero_, r_law_points_⟩
    · clear hw it
      subst eo
      replace hm := elim_inl hm
      obtain ⟨w_law_script_, w_law_cells_, w_law_row_, w_law_zero_, p_law_points_, j6, j7, j8, j9, j10, es, e, sg1, sg4, r_law_script_, r_law_cells_, r_law_row_, r_law_zero_, r_law_points_⟩ := h
      subst es
      clear sg4
      try dsimp only
      refine st_seq ?_
      refine st_set (K := K) e.s (FE.se (fe_list (se_var (i := 4) (d := t3.2) rfl r_law_zero_))) hm (fun law_here_ w_law_here_ G1 H1 ce r_law_here_ hm => ?_)
      replace e := e.trans ce
      replace sg1 := sg1.trans ce.g
      replace r_law_script_ := Rp.mono ce.g r_law_script_
      replace r_law_cells_ := Rp.mono ce.g r_law_cells_
      replace r_law_row_ := Rp.mono ce.g r_law_row_
      replace r_law_zero_ := Rp.mono ce.g r_law_zero_
      replace r_law_points_ := r_law_points_.mono ce
      try dsimp only
      refine st_seq ?_
      obtain ⟨s6, hA, hm⟩ := bind_some hm
      refine st_join (fun σ H => ∃ G, ∃ (w_law_script_ : V) (w_law_cells_ : V) (w_law_row_ : V) (w_law_zero_ : V) (p_law_points_ : Addr) (j6 : Option V) (j7 : Option V) (w_law_here_ : V) (j9 : Option V) (j10 : Option V), σ = [some w_law_script_, some (V.int i1), some w_law_cells_, some w_law_row_, some w_law_zero_, some (V.ref p_law_points_), j6, j7, some w_law_here_, j9, j10] ∧ Ext Ge He G H ∧ Same Gs1 G ∧ rep K G w_law_script_ law_script_ ∧ rep K G w_law_cells_ law_cells_ ∧ rep K G w_law_row_ t3.1 ∧ rep K G w_law_zero_ t3.2 ∧ OwnT K He G H p_law_points_ z4 ∧ rep K G w_law_here_ s6) (fun σ H h => ?_) (fun N hN => ?_)
      · obtain ⟨G, w_law_script_, w_law_cells_, w_law_row_, w_law_zero_, p_law_points_, j6, j7, w_law_here_, j9, j10, es, e, sg1, r_law_script_, r_law_cells_, r_law_row_, r_law_zero_, r_law_points_, r_law_here_⟩ := h
        subst es
        try dsimp only
        refine st_if e.s (st_test (K := K) (se_neD (XE.se (xe_call3 rvm (se_var (i := 3) (d := t3.1) rfl r_law_row_) (se_var (i := 4) (d := t3.2) rfl r_law_zero_) (XE.se (xe_call3p rvm (se_var (i := 3) (d := t3.1) rfl r_law_row_) (se_var (i := 4) (d := t3.2) rfl r_law_zero_) (se_var (i := 8) (d := s6) rfl r_law_here_))))) (se_somep (se_var (i := 8) (d := s6) rfl r_law_here_)))) hm (fun G1 H1 ce hm => ?_) (fun G1 H1 ce hm => ?_)
        · replace e := e.trans ce
          replace sg1 := sg1.trans ce.g
          replace r_law_script_ := Rp.mono ce.g r_law_script_
          replace r_law_cells_ := Rp.mono ce.g r_law_cells_
          replace r_law_row_ := Rp.mono ce.g r_law_row_
          replace r_law_zero_ := Rp.mono ce.g r_law_zero_
          replace r_law_points_ := r_law_points_.mono ce
          replace r_law_here_ := Rp.mono ce.g r_law_here_
          try dsimp only
          exact st_retL (RR := RV K) e rvm (SE.xe se_bl) hm hF1
        · replace e := e.trans ce
          replace sg1 := sg1.trans ce.g
          replace r_law_script_ := Rp.mono ce.g r_law_script_
          replace r_law_cells_ := Rp.mono ce.g r_law_cells_
          replace r_law_row_ := Rp.mono ce.g r_law_row_
          replace r_law_zero_ := Rp.mono ce.g r_law_zero_
          replace r_law_points_ := r_law_points_.mono ce
          replace r_law_here_ := Rp.mono ce.g r_law_here_
          refine st_next ?_
          cases hm
          exact hN _ _ _ _ rfl ⟨_, _, _, _, _, _, _, _, _, _, _, rfl, e, sg1, r_law_script_⟩
      · clear hm
        refine st_if e.s (st_test (K := K) (se_lt (se_ix (se_var (i := 8) (d := law_here_) rfl r_law_here_) (XE.se (xe_call1p rvm (se_var (i := 8) (d := law_here_) rfl r_law_here_)))) (se_int (n := 0)))) hA (fun G1 H1 ce hm => ?_) (fun G1 H1 ce hm => ?_)
        · replace e := e.trans ce
          replace sg1 := sg1.trans ce.g
          replace r_law_script_ := Rp.mono ce.g r_law_script_
          replace r_law_cells_ := Rp.mono ce.g r_law_cells_
          replace r_law_row_ := Rp.mono ce.g r_law_row_
          replace r_law_zero_ := Rp.mono ce.g r_law_zero_
          replace r_law_points_ := r_law_points_.mono ce
          replace r_law_here_ := Rp.mono ce.g r_law_here_
          try dsimp only
          refine st_set (K := K) e.s (FE.se (fe_map _ (ib_list (se_var (i := 4) (d := t3.2) rfl r_law_zero_)) tg_name (fun law_number_ s7 G7 H7 ce7 ⟨w7, es7, h7⟩ => by subst es7; have h7 : w7 = V.int law_number_ := h7; subst h7; exact (se_subp (se_int (n := 0)) (se_iv (i := 10) (d := law_number_) rfl))))) hm (fun law_here_ w_law_here_ G1 H1 ce r_law_here_ hm => ?_)
          replace e := e.trans ce
          replace sg1 := sg1.trans ce.g
          replace r_law_script_ := Rp.mono ce.g r_law_script_
          replace r_law_cells_ := Rp.mono ce.g r_law_cells_
          replace r_law_row_ := Rp.mono ce.g r_law_row_
          replace r_law_zero_ := Rp.mono ce.g r_law_zero_
          replace r_law_points_ := r_law_points_.mono ce
          cases hm
          exact hN _ _ ⟨_, _, _, _, _, _, _, _, _, _, _, rfl, e, sg1, r_law_script_, r_law_cells_, r_law_row_, r_law_zero_, r_law_points_, r_law_here_⟩
        · replace e := e.trans ce
          replace sg1 := sg1.trans ce.g
          replace r_law_script_ := Rp.mono ce.g r_law_script_
          replace r_law_cells_ := Rp.mono ce.g r_law_cells_
          replace r_law_row_ := Rp.mono ce.g r_law_row_
          replace r_law_zero_ := Rp.mono ce.g r_law_zero_
          replace r_law_points_ := r_law_points_.mono ce
          replace r_law_here_ := Rp.mono ce.g r_law_here_
          refine st_next ?_
          cases hm
          exact hN _ _ ⟨_, _, _, _, _, _, _, _, _, _, _, rfl, e, sg1, r_law_script_, r_law_cells_, r_law_row_, r_law_zero_, r_law_points_, r_law_here_⟩
  · clear hw it
    subst eo
    replace hm := elim_inl hm
    obtain ⟨w_law_script_, j1, j2, j3, j4, j5, j6, j7, j8, j9, j10, es, e, sg1, r_law_script_⟩ := h
    subst es
    clear sg1
    try dsimp only
    exact st_ret (RR := RV K) e rvm (SE.xe se_bl) hm q
end
/-- the law: it hands back True where its mirror does -/
def spLaw (K : PySem.W.Frag) : Sp := fun vs H Q _ => ∃ (a : Addr) (ns : List Int), vs = [.ref a] ∧ SqL K H a (ns.map V.int) ∧ ns.length ≤ 63 ∧ Mir.law_ ⟨ns⟩ = some true ∧ ∀ H', Q (.bl true) H'
theorem ok_sp {P : Program} {w : World} {K : PySem.W.Frag} {mg : Str → Option Value} {base : Heap} (T : Txt K mg) : FnOk P w K mg base CX0 6 T.a_law_ T.d_law_ ["_law_script"] (spLaw K) := (ok_law_ T).imp fun vs H Q E ⟨a, ns, ev, hS, hl, hm, q⟩ =>
  ⟨H, _, ⟨ns⟩, true, ev, Same.refl H, ⟨a, ns.map V.int, rfl, hS, by rw [List.length_map]; exact Nat.le_trans hl (by decide), reps_ints ns⟩, hm, fun u G' H' _ hu => by rw [show u = V.bl true from hu]; exact q H'⟩
theorem all_mk {l : PySem.W.OpenLaw} {w : World} {K : PySem.W.Frag} {h : Heap} {mg : Str → Option Value} {fa : Addr} (X : K.In h) (G : h.Ns mainGlobals mg) (hfa : mg "law" = some (.ref fa)) {f0 : Addr} {f1 : Addr} {f2 : Addr} {f3 : Addr} {f4 : Addr} {f5 : Addr} {f6 : Addr} {f7 : Addr} {f8 : Addr} {f9 : Addr} {f10 : Addr} {f11 : Addr} {f12 : Addr} {f13 : Addr} {f14 : Addr} {f15 : Addr} {f16 : Addr} {f17 : Addr} {f18 : Addr} {od0 an0 od1 an1 od2 an2 od3 an3 od4 an4 od5 an5 od6 an6 od7 an7 od8 an8 od9 an9 od10 an10 od11 an11 od12 an12 od13 an13 od14 an14 od15 an15 od16 an16 od17 an17 od18 an18 : Option Addr} {sl0 sl1 sl2 sl3 sl4 sl5 sl6 sl7 sl8 sl9 sl10 sl11 sl12 sl13 sl14 sl15 sl16 sl17 sl18 : Array (Option Value)} {oc0 kV0 dc0 pm0 cd0 ct0 oc1 kV1 dc1 pm1 cd1 ct1 oc2 kV2 dc2 pm2 cd2 ct2 oc3 kV3 dc3 pm3 cd3 ct3 oc4 kV4 dc4 pm4 cd4 ct4 oc5 kV5 dc5 pm5 cd5 ct5 oc6 kV6 dc6 pm6 cd6 ct6 oc7 kV7 dc7 pm7 cd7 ct7 oc8 kV8 dc8 pm8 cd8 ct8 oc9 kV9 dc9 pm9 cd9 ct9 oc10 kV10 dc10 pm10 cd10 ct10 oc11 kV11 dc11 pm11 cd11 ct11 oc12 kV12 dc12 pm12 cd12 ct12 oc13 kV13 dc13 pm13 cd13 ct13 oc14 kV14 dc14 pm14 cd14 ct14 oc15 kV15 dc15 pm15 cd15 ct15 oc16 kV16 dc16 pm16 cd16 ct16 oc17 kV17 dc17 pm17 cd17 ct17 oc18 kV18 dc18 pm18 cd18 ct18 : Value}
    (a0 : PySem.W.nsIn K mainGlobals "_law_cell_at" = some (some (.ref f0))) (l0 : K.lookup f0 = some ⟨oc0, od0, .func (PySem.W.fnOf "_law_cell_at" "_law_cell_at" (defArgs s_law_cell_at_) (defBody s_law_cell_at_) (defScope s_law_cell_at_) .none kV0 dc0 pm0 an0 cd0 ct0), sl0⟩) (c0 : PySem.W.codeIn K cd0 "_law_cell_at" = true) (k0 : PySem.W.keepIn K (.ref f0) = true)
    (a1 : PySem.W.nsIn K mainGlobals "_law_big" = some (some (.ref f1))) (l1 : K.lookup f1 = some ⟨oc1, od1, .func (PySem.W.fnOf "_law_big" "_law_big" (defArgs s_law_big_) (defBody s_law_big_) (defScope s_law_big_) .none kV1 dc1 pm1 an1 cd1 ct1), sl1⟩) (c1 : PySem.W.codeIn K cd1 "_law_big" = true) (k1 : PySem.W.keepIn K (.ref f1) = true)
    (a2 : PySem.W.nsIn K mainGlobals "_law_drawn" = some (some (.ref f2))) (l2 : K.lookup f2 = some ⟨oc2, od2, .func (PySem.W.fnOf "_law_drawn" "_law_drawn" (defArgs s_law_drawn_) (defBody s_law_drawn_) (defScope s_law_drawn_) .none kV2 dc2 pm2 an2 cd2 ct2), sl2⟩) (c2 : PySem.W.codeIn K cd2 "_law_drawn" = true) (k2 : PySem.W.keepIn K (.ref f2) = true)
    (a3 : PySem.W.nsIn K mainGlobals "_law_common" = some (some (.ref f3))) (l3 : K.lookup f3 = some ⟨oc3, od3, .func (PySem.W.fnOf "_law_common" "_law_common" (defArgs s_law_common_) (defBody s_law_common_) (defScope s_law_common_) .none kV3 dc3 pm3 an3 cd3 ct3), sl3⟩) (c3 : PySem.W.codeIn K cd3 "_law_common" = true) (k3 : PySem.W.keepIn K (.ref f3) = true)
    (a4 : PySem.W.nsIn K mainGlobals "_law_line" = some (some (.ref f4))) (l4 : K.lookup f4 = some ⟨oc4, od4, .func (PySem.W.fnOf "_law_line" "_law_line" (defArgs s_law_line_) (defBody s_law_line_) (defScope s_law_line_) .none kV4 dc4 pm4 an4 cd4 ct4), sl4⟩) (c4 : PySem.W.codeIn K cd4 "_law_line" = true) (k4 : PySem.W.keepIn K (.ref f4) = true)
    (a5 : PySem.W.nsIn K mainGlobals "_law_lines" = some (some (.ref f5))) (l5 : K.lookup f5 = some ⟨oc5, od5, .func (PySem.W.fnOf "_law_lines" "_law_lines" (defArgs s_law_lines_) (defBody s_law_lines_) (defScope s_law_lines_) .none kV5 dc5 pm5 an5 cd5 ct5), sl5⟩) (c5 : PySem.W.codeIn K cd5 "_law_lines" = true) (k5 : PySem.W.keepIn K (.ref f5) = true)
    (a6 : PySem.W.nsIn K mainGlobals "is_row" = some (some (.ref f6))) (l6 : K.lookup f6 = some ⟨oc6, od6, .func (PySem.W.fnOf "is_row" "is_row" (defArgs s_is_row_) (defBody s_is_row_) (defScope s_is_row_) .none kV6 dc6 pm6 an6 cd6 ct6), sl6⟩) (c6 : PySem.W.codeIn K cd6 "is_row" = true) (k6 : PySem.W.keepIn K (.ref f6) = true)
    (a7 : PySem.W.nsIn K mainGlobals "must_be_row" = some (some (.ref f7))) (l7 : K.lookup f7 = some ⟨oc7, od7, .func (PySem.W.fnOf "must_be_row" "must_be_row" (defArgs s_must_be_row_) (defBody s_must_be_row_) (defScope s_must_be_row_) .none kV7 dc7 pm7 an7 cd7 ct7), sl7⟩) (c7 : PySem.W.codeIn K cd7 "must_be_row" = true) (k7 : PySem.W.keepIn K (.ref f7) = true)
    (a8 : PySem.W.nsIn K mainGlobals "seat" = some (some (.ref f8))) (l8 : K.lookup f8 = some ⟨oc8, od8, .func (PySem.W.fnOf "seat" "seat" (defArgs s_seat_) (defBody s_seat_) (defScope s_seat_) .none kV8 dc8 pm8 an8 cd8 ct8), sl8⟩) (c8 : PySem.W.codeIn K cd8 "seat" = true) (k8 : PySem.W.keepIn K (.ref f8) = true)
    (a9 : PySem.W.nsIn K mainGlobals "common" = some (some (.ref f9))) (l9 : K.lookup f9 = some ⟨oc9, od9, .func (PySem.W.fnOf "common" "common" (defArgs s_common_) (defBody s_common_) (defScope s_common_) .none kV9 dc9 pm9 an9 cd9 ct9), sl9⟩) (c9 : PySem.W.codeIn K cd9 "common" = true) (k9 : PySem.W.keepIn K (.ref f9) = true)
    (a10 : PySem.W.nsIn K mainGlobals "primitive" = some (some (.ref f10))) (l10 : K.lookup f10 = some ⟨oc10, od10, .func (PySem.W.fnOf "primitive" "primitive" (defArgs s_primitive_) (defBody s_primitive_) (defScope s_primitive_) .none kV10 dc10 pm10 an10 cd10 ct10), sl10⟩) (c10 : PySem.W.codeIn K cd10 "primitive" = true) (k10 : PySem.W.keepIn K (.ref f10) = true)
    (a11 : PySem.W.nsIn K mainGlobals "signed" = some (some (.ref f11))) (l11 : K.lookup f11 = some ⟨oc11, od11, .func (PySem.W.fnOf "signed" "signed" (defArgs s_signed_) (defBody s_signed_) (defScope s_signed_) .none kV11 dc11 pm11 an11 cd11 ct11), sl11⟩) (c11 : PySem.W.codeIn K cd11 "signed" = true) (k11 : PySem.W.keepIn K (.ref f11) = true)
    (a12 : PySem.W.nsIn K mainGlobals "point_of" = some (some (.ref f12))) (l12 : K.lookup f12 = some ⟨oc12, od12, .func (PySem.W.fnOf "point_of" "point_of" (defArgs s_point_of_) (defBody s_point_of_) (defScope s_point_of_) .none kV12 dc12 pm12 an12 cd12 ct12), sl12⟩) (c12 : PySem.W.codeIn K cd12 "point_of" = true) (k12 : PySem.W.keepIn K (.ref f12) = true)
    (a13 : PySem.W.nsIn K mainGlobals "_law_is_zero" = some (some (.ref f13))) (l13 : K.lookup f13 = some ⟨oc13, od13, .func (PySem.W.fnOf "_law_is_zero" "_law_is_zero" (defArgs s_law_is_zero_) (defBody s_law_is_zero_) (defScope s_law_is_zero_) .none kV13 dc13 pm13 an13 cd13 ct13), sl13⟩) (c13 : PySem.W.codeIn K cd13 "_law_is_zero" = true) (k13 : PySem.W.keepIn K (.ref f13) = true)
    (a14 : PySem.W.nsIn K mainGlobals "_law_first" = some (some (.ref f14))) (l14 : K.lookup f14 = some ⟨oc14, od14, .func (PySem.W.fnOf "_law_first" "_law_first" (defArgs s_law_first_) (defBody s_law_first_) (defScope s_law_first_) .none kV14 dc14 pm14 an14 cd14 ct14), sl14⟩) (c14 : PySem.W.codeIn K cd14 "_law_first" = true) (k14 : PySem.W.keepIn K (.ref f14) = true)
    (a15 : PySem.W.nsIn K mainGlobals "_law_lies" = some (some (.ref f15))) (l15 : K.lookup f15 = some ⟨oc15, od15, .func (PySem.W.fnOf "_law_lies" "_law_lies" (defArgs s_law_lies_) (defBody s_law_lies_) (defScope s_law_lies_) .none kV15 dc15 pm15 an15 cd15 ct15), sl15⟩) (c15 : PySem.W.codeIn K cd15 "_law_lies" = true) (k15 : PySem.W.keepIn K (.ref f15) = true)
    (a16 : PySem.W.nsIn K mainGlobals "line_of" = some (some (.ref f16))) (l16 : K.lookup f16 = some ⟨oc16, od16, .func (PySem.W.fnOf "line_of" "line_of" (defArgs s_line_of_) (defBody s_line_of_) (defScope s_line_of_) .none kV16 dc16 pm16 an16 cd16 ct16), sl16⟩) (c16 : PySem.W.codeIn K cd16 "line_of" = true) (k16 : PySem.W.keepIn K (.ref f16) = true)
    (a17 : PySem.W.nsIn K mainGlobals "_law_one" = some (some (.ref f17))) (l17 : K.lookup f17 = some ⟨oc17, od17, .func (PySem.W.fnOf "_law_one" "_law_one" (defArgs s_law_one_) (defBody s_law_one_) (defScope s_law_one_) .none kV17 dc17 pm17 an17 cd17 ct17), sl17⟩) (c17 : PySem.W.codeIn K cd17 "_law_one" = true) (k17 : PySem.W.keepIn K (.ref f17) = true)
    (a18 : PySem.W.nsIn K mainGlobals "law" = some (some (.ref f18))) (l18 : K.lookup f18 = some ⟨oc18, od18, .func (PySem.W.fnOf "law" "law" (defArgs s_law_) (defBody s_law_) (defScope s_law_) .none kV18 dc18 pm18 an18 cd18 ct18), sl18⟩) (c18 : PySem.W.codeIn K cd18 "law" = true) (k18 : PySem.W.keepIn K (.ref f18) = true)
    (z_abs : PySem.W.nsIn K mainGlobals "abs" = some none)
    (z_bool : PySem.W.nsIn K mainGlobals "bool" = some none)
    (z_int : PySem.W.nsIn K mainGlobals "int" = some none)
    (z_isinstance : PySem.W.nsIn K mainGlobals "isinstance" = some none)
    (z_len : PySem.W.nsIn K mainGlobals "len" = some none)
    (z_list : PySem.W.nsIn K mainGlobals "list" = some none)
    (z_min : PySem.W.nsIn K mainGlobals "min" = some none)
    (z_range : PySem.W.nsIn K mainGlobals "range" = some none)
    (z_sum : PySem.W.nsIn K mainGlobals "sum" = some none)
    (z_tuple : PySem.W.nsIn K mainGlobals "tuple" = some none)
    {t_LONGEST_ : Tok} (y_LONGEST_ : PySem.W.nsIn K mainGlobals "LONGEST" = some (some (.int 8 t_LONGEST_)))
    {t_MOST_ : Tok} (y_MOST_ : PySem.W.nsIn K mainGlobals "MOST" = some (some (.int 1073741824 t_MOST_))) :
    ∃ fd : FuncData, (∀ (s : Shared) (v : Value), BindsTo s fd ⟨[v], []⟩ [("_law_script", v)]) ∧ ∀ base : Heap, K.In base → base.Ns mainGlobals mg → FnOk l.prog w K mg base CX0 6 fa fd ["_law_script"] (spLaw K) := by
  have e := hfa.symm.trans (PySem.W.mg_of X G a18)
  cases e
  let T : Txt K mg := { a_law_cell_at_ := f0, d_law_cell_at_ := _, F_law_cell_at_ := fun_mk (st := s_law_cell_at_) l0 c0 k0, g_law_cell_at_ := PySem.W.mg_of X G a0, a_law_big_ := f1, d_law_big_ := _, F_law_big_ := fun_mk (st := s_law_big_) l1 c1 k1, g_law_big_ := PySem.W.mg_of X G a1, a_law_drawn_ := f2, d_law_drawn_ := _, F_law_drawn_ := fun_mk (st := s_law_drawn_) l2 c2 k2, g_law_drawn_ := PySem.W.mg_of X G a2, a_law_common_ := f3, d_law_common_ := _, F_law_common_ := fun_mk (st := s_law_common_) l3 c3 k3, g_law_common_ := PySem.W.mg_of X G a3, a_law_line_ := f4, d_law_line_ := _, F_law_line_ := fun_mk (st := s_law_line_) l4 c4 k4, g_law_line_ := PySem.W.mg_of X G a4, a_law_lines_ := f5, d_law_lines_ := _, F_law_lines_ := fun_mk (st := s_law_lines_) l5 c5 k5, g_law_lines_ := PySem.W.mg_of X G a5, a_is_row_ := f6, d_is_row_ := _, F_is_row_ := fun_mk (st := s_is_row_) l6 c6 k6, g_is_row_ := PySem.W.mg_of X G a6, a_must_be_row_ := f7, d_must_be_row_ := _, F_must_be_row_ := fun_mk (st := s_must_be_row_) l7 c7 k7, g_must_be_row_ := PySem.W.mg_of X G a7, a_seat_ := f8, d_seat_ := _, F_seat_ := fun_mk (st := s_seat_) l8 c8 k8, g_seat_ := PySem.W.mg_of X G a8, a_common_ := f9, d_common_ := _, F_common_ := fun_mk (st := s_common_) l9 c9 k9, g_common_ := PySem.W.mg_of X G a9, a_primitive_ := f10, d_primitive_ := _, F_primitive_ := fun_mk (st := s_primitive_) l10 c10 k10, g_primitive_ := PySem.W.mg_of X G a10, a_signed_ := f11, d_signed_ := _, F_signed_ := fun_mk (st := s_signed_) l11 c11 k11, g_signed_ := PySem.W.mg_of X G a11, a_point_of_ := f12, d_point_of_ := _, F_point_of_ := fun_mk (st := s_point_of_) l12 c12 k12, g_point_of_ := PySem.W.mg_of X G a12, a_law_is_zero_ := f13, d_law_is_zero_ := _, F_law_is_zero_ := fun_mk (st := s_law_is_zero_) l13 c13 k13, g_law_is_zero_ := PySem.W.mg_of X G a13, a_law_first_ := f14, d_law_first_ := _, F_law_first_ := fun_mk (st := s_law_first_) l14 c14 k14, g_law_first_ := PySem.W.mg_of X G a14, a_law_lies_ := f15, d_law_lies_ := _, F_law_lies_ := fun_mk (st := s_law_lies_) l15 c15 k15, g_law_lies_ := PySem.W.mg_of X G a15, a_line_of_ := f16, d_line_of_ := _, F_line_of_ := fun_mk (st := s_line_of_) l16 c16 k16, g_line_of_ := PySem.W.mg_of X G a16, a_law_one_ := f17, d_law_one_ := _, F_law_one_ := fun_mk (st := s_law_one_) l17 c17 k17, g_law_one_ := PySem.W.mg_of X G a17, a_law_ := fa, d_law_ := _, F_law_ := fun_mk (st := s_law_) l18 c18 k18, g_law_ := PySem.W.mg_of X G a18, n_abs := PySem.W.mg_none_of X G z_abs, n_bool := PySem.W.mg_none_of X G z_bool, n_int := PySem.W.mg_none_of X G z_int, n_isinstance := PySem.W.mg_none_of X G z_isinstance, n_len := PySem.W.mg_none_of X G z_len, n_list := PySem.W.mg_none_of X G z_list, n_min := PySem.W.mg_none_of X G z_min, n_range := PySem.W.mg_none_of X G z_range, n_sum := PySem.W.mg_none_of X G z_sum, n_tuple := PySem.W.mg_none_of X G z_tuple, t_LONGEST_ := t_LONGEST_, c_LONGEST_ := PySem.W.mg_of X G y_LONGEST_, t_MOST_ := t_MOST_, c_MOST_ := PySem.W.mg_of X G y_MOST_ }
  exact ⟨T.d_law_, fun s v => .of_eq rfl, fun base _ _ => ok_sp T⟩
end Mi
namespace Mi
theorem sz_bits {a : Int} {n : Nat} (h : PySem.Builtin.Int.intBits a ≤ n) : Sz n a := by
  unfold PySem.Builtin.Int.intBits at h
  unfold Sz
  by_cases h0 : a = 0
  · subst h0
    exact Nat.pow_pos (by decide)
  · rw [if_neg (by simpa using h0)] at h
    exact (Nat.log2_lt (by omega)).mp (Nat.lt_of_succ_le h)
end Mi
open PySem PySem.W PyProof.Rows
set_option maxHeartbeats 0 in
theorem PySem.Challenge.cw_everyplace_k40_lines_and_points_holds : PySem.Challenge.rw_everyplace_k40_lines_and_points.Holds := by
  w_on; o_law; k_head; (case hw => w_witness2)
  k_fill
  refine L2.walk_ofB (l := PySem.Challenge.rw_everyplace_k40_lines_and_points) (n := 63) (k := 6) (x := "_law_script") (CX := fun _ => L2.CX0) (sp := fun w => Mi.spLaw _) rfl (by decide) rfl ⟨rfl, by decide, by decide⟩ (fun w h Y => PySem.W.kIn_of Y) ?F (fun _ _ a ns hl hb _ hS => ⟨a, ns, rfl, hS, hl, Mi.law_true ns hl (fun z hz => Mi.sz_bits (hb z hz)), fun _ => rfl⟩) (fun _ _ _ _ _ h => h)
  case F =>
    intro w mg fa h KX G hmg
    refine' Mi.all_mk KX G hmg ?a0 ?l0 ?c0 ?k0 ?a1 ?l1 ?c1 ?k1 ?a2 ?l2 ?c2 ?k2 ?a3 ?l3 ?c3 ?k3 ?a4 ?l4 ?c4 ?k4 ?a5 ?l5 ?c5 ?k5 ?a6 ?l6 ?c6 ?k6 ?a7 ?l7 ?c7 ?k7 ?a8 ?l8 ?c8 ?k8 ?a9 ?l9 ?c9 ?k9 ?a10 ?l10 ?c10 ?k10 ?a11 ?l11 ?c11 ?k11 ?a12 ?l12 ?c12 ?k12 ?a13 ?l13 ?c13 ?k13 ?a14 ?l14 ?c14 ?k14 ?a15 ?l15 ?c15 ?k15 ?a16 ?l16 ?c16 ?k16 ?a17 ?l17 ?c17 ?k17 ?a18 ?l18 ?c18 ?k18 ?z_abs ?z_bool ?z_int ?z_isinstance ?z_len ?z_list ?z_min ?z_range ?z_sum ?z_tuple ?y_LONGEST_ ?y_MOST_
    (case a0 => k_is); (case l0 => k_is); (case c0 => k_is); (case k0 => k_is); (case a1 => k_is); (case l1 => k_is); (case c1 => k_is); (case k1 => k_is); (case a2 => k_is); (case l2 => k_is); (case c2 => k_is); (case k2 => k_is); (case a3 => k_is); (case l3 => k_is); (case c3 => k_is); (case k3 => k_is); (case a4 => k_is); (case l4 => k_is); (case c4 => k_is); (case k4 => k_is); (case a5 => k_is); (case l5 => k_is); (case c5 => k_is); (case k5 => k_is); (case a6 => k_is); (case l6 => k_is); (case c6 => k_is); (case k6 => k_is); (case a7 => k_is); (case l7 => k_is); (case c7 => k_is); (case k7 => k_is); (case a8 => k_is); (case l8 => k_is); (case c8 => k_is); (case k8 => k_is); (case a9 => k_is); (case l9 => k_is); (case c9 => k_is); (case k9 => k_is); (case a10 => k_is); (case l10 => k_is); (case c10 => k_is); (case k10 => k_is); (case a11 => k_is); (case l11 => k_is); (case c11 => k_is); (case k11 => k_is); (case a12 => k_is); (case l12 => k_is); (case c12 => k_is); (case k12 => k_is); (case a13 => k_is); (case l13 => k_is); (case c13 => k_is); (case k13 => k_is); (case a14 => k_is); (case l14 => k_is); (case c14 => k_is); (case k14 => k_is); (case a15 => k_is); (case l15 => k_is); (case c15 => k_is); (case k15 => k_is); (case a16 => k_is); (case l16 => k_is); (case c16 => k_is); (case k16 => k_is); (case a17 => k_is); (case l17 => k_is); (case c17 => k_is); (case k17 => k_is); (case a18 => k_is); (case l18 => k_is); (case c18 => k_is); (case k18 => k_is); (case z_abs => k_is); (case z_bool => k_is); (case z_int => k_is); (case z_isinstance => k_is); (case z_len => k_is); (case z_list => k_is); (case z_min => k_is); (case z_range => k_is); (case z_sum => k_is); (case z_tuple => k_is); (case y_LONGEST_ => k_is); (case y_MOST_ => k_is)

